import PyProof.Rows.All
import Wide.All
import OpenK.AllK
import Wide.FinOn
import KE.KStateDown
import HandS.ForMost
import HandS.ExcCtx
import HandS.HotCalls
import HandS.TupAny
import HandS.TupMul
import HandS.Wide
import HandS.Deep
import HandS.IsInst
import HandS.CallSlots
import HandS.Zip
import HandS.Lambda
import KE.KDictKeyed
import PyProof.MaxThree
import HandS.SetFor
import HandS.Style
import HandS.NoneIn
import KE.GoesEnum
import KE.GoesMore
import HandS.Hot
import HandS.ExcIs
import HandS.HeadHook2
import HandS.HeadHook4
import HandS.HeadWalk
import HandS.Head2
import PySem.Challenge.RW_handedround_k21_leads_and_periods
import Lean
set_option Elab.async false
set_option linter.all false
set_option maxRecDepth 100000
set_option maxHeartbeats 0
/-! The data layer: values as data, a store of what changes, expressions as functions. -/
namespace Pd
open PySem PySem.Spec PyProof.Rows L2
/-- a value as data; ref n: the n-th thing of the store; gl x: what the module's name x stands for -/
inductive D where
  | non | bl (b : Bool) | int (i : Int) | str (s : Str) | tup (l : List D) | ref (n : Nat) | gl (x : Str) | ty (n : String) | exn (a : Addr) (x : Str)
/-- a thing that may change -/
inductive MO where
  | lst (l : List D) | fz (l : List D) | ins (C : Str) (fs : List (Str × D)) | dct (kvs : List (D × D)) | any
abbrev Mem := List MO
abbrev DEnv := List (Option D)
structure Exn where
  cls : Str
  fs : List (Str × D)
inductive ResE where
  | ok (d : D) (M : Mem) | exc (x : Exn) (M : Mem) | bad
inductive ResS where
  | nx (δ : DEnv) (M : Mem) | rt (d : D) (M : Mem) | bk (δ : DEnv) (M : Mem) | ct (δ : DEnv) (M : Mem) | exc (x : Exn) (δ : DEnv) (M : Mem) | bad
abbrev DE := DEnv → Mem → ResE
abbrev DS := DEnv → Mem → ResS
abbrev Fn := List D → Mem → ResE
abbrev OV := Option (D × Mem)
def ofO : OV → ResE
  | some p => .ok p.1 p.2
  | none => .bad
def ResE.bind : ResE → (D → Mem → ResE) → ResE
  | .ok d M, k => k d M
  | .exc x M, _ => .exc x M
  | .bad, _ => .bad
abbrev St := L2.St
/-- the tables of the makers of lambdas -/
structure TB where
  tabs : List (Addr × Str)
/-- what is fixed through a law -/
structure RC where
  K : PySem.W.Frag
  mg : Str → Option Value
  T : TB
  W : World
abbrev rc (T : TB) (X : Cx) : RC := ⟨X.K, X.mg, T, X.w⟩
/-- a world: where the things of the store stand, the store, the heap -/
structure Wd where
  ρ : Nat → Addr
  M : Mem
  H : Hp
  cp : Addr → Str → Prop
/-- what never changes -/
def Fr (H H' : Hp) : Prop := (∀ a xs, H a = some (.tup xs) → H' a = some (.tup xs)) ∧ ∀ a o u, H a = some (.frz o u) → H' a = some (.frz o u)
theorem Fr.refl (H : Hp) : Fr H H := ⟨fun _ _ h => h, fun _ _ _ h => h⟩
theorem Fr.trans {H H1 H2 : Hp} (a : Fr H H1) (b : Fr H1 H2) : Fr H H2 := ⟨fun c xs h => b.1 c xs (a.1 c xs h), fun c o u h => b.2 c o u (a.2 c o u h)⟩
theorem Fr.new {H : Hp} {p : Addr} {o : HO} (h : H p = none) : Fr H (upd H p o) :=
  ⟨fun a xs q => by rw [upd_ne (ne_of_none q h)]; exact q, fun a o' u q => by rw [upd_ne (ne_of_none q h)]; exact q⟩
theorem Fr.set {H : Hp} {p : Addr} {o u : HO} (h : H p = some o) (m : Mut (some o)) : Fr H (upd H p u) := by
  refine ⟨fun a xs q => ?_, fun a o' z q => ?_⟩
  · by_cases e : a = p
    · subst e; rw [h] at q; cases q; exact m.elim
    · rw [upd_ne e]; exact q
  · by_cases e : a = p
    · subst e; rw [h] at q; cases q; exact m.elim
    · rw [upd_ne e]; exact q
theorem Fr.sqT {K : PySem.W.Frag} {H H' : Hp} (f : Fr H H') {a : Addr} {xs : List V} (h : SqT K H a xs) : SqT K H' a xs := by
  rcases h with (h | ⟨o, h⟩) | h
  · exact .inl (.inl (f.1 a xs h))
  · exact .inl (.inr ⟨o, f.2 a o _ h⟩)
  · exact .inr h
structure Wd.le (w w' : Wd) : Prop where
  len : w.M.length ≤ w'.M.length
  ρ : ∀ i, i < w.M.length → w'.ρ i = w.ρ i
  fr : Fr w.H w'.H
theorem Wd.le.refl (w : Wd) : w.le w := ⟨Nat.le_refl _, fun _ _ => rfl, .refl _⟩
theorem Wd.le.trans {a b c : Wd} (p : a.le b) (q : b.le c) : a.le c :=
  ⟨Nat.le_trans p.len q.len, fun i h => (q.ρ i (Nat.lt_of_lt_of_le h p.len)).trans (p.ρ i h), p.fr.trans q.fr⟩
mutual
def RelD (R : RC) (w : Wd) : D → V → Prop
  | .non, v => v = .non
  | .bl b, v => v = .bl b
  | .int i, v => v = .int i
  | .str s, v => v = .str s
  | .ref n, v => n < w.M.length ∧ v = .ref (w.ρ n)
  | .gl x, v => ∃ u, R.mg x = some u ∧ RelV v u
  | .ty n, v => v = .ty n
  | .exn a _, v => v = .ref a
  | .tup l, v => ∃ a xs, v = .ref a ∧ SqT R.K w.H a xs ∧ RelL R w l xs
def RelL (R : RC) (w : Wd) : List D → List V → Prop
  | [], xs => xs = []
  | d :: l, xs => ∃ x r, xs = x :: r ∧ RelD R w d x ∧ RelL R w l r
end
theorem RelL.nil {R : RC} {w : Wd} : RelL R w [] [] := by unfold RelL; rfl
theorem RelL.cons {R : RC} {w : Wd} {d : D} {l : List D} {x : V} {r : List V} (h : RelD R w d x) (t : RelL R w l r) : RelL R w (d :: l) (x :: r) := by
  unfold RelL; exact ⟨x, r, rfl, h, t⟩
mutual
theorem RelD.mono {R : RC} {w w' : Wd} (h : w.le w') : ∀ (d : D) (v : V), RelD R w d v → RelD R w' d v
  | .non, _, r => by unfold RelD at r ⊢; exact r
  | .bl _, _, r => by unfold RelD at r ⊢; exact r
  | .int _, _, r => by unfold RelD at r ⊢; exact r
  | .str _, _, r => by unfold RelD at r ⊢; exact r
  | .gl _, _, r => by unfold RelD at r ⊢; exact r
  | .ty _, _, r => by unfold RelD at r ⊢; exact r
  | .exn _ _, _, r => by unfold RelD at r ⊢; exact r
  | .ref n, _, r => by
    unfold RelD at r ⊢
    exact ⟨Nat.lt_of_lt_of_le r.1 h.len, by rw [h.ρ n r.1]; exact r.2⟩
  | .tup l, _, r => by
    unfold RelD at r ⊢
    obtain ⟨a, xs, e, s, t⟩ := r
    exact ⟨a, xs, e, h.fr.sqT s, RelL.mono h l xs t⟩
theorem RelL.mono {R : RC} {w w' : Wd} (h : w.le w') : ∀ (l : List D) (xs : List V), RelL R w l xs → RelL R w' l xs
  | [], _, r => by unfold RelL at r ⊢; exact r
  | d :: l, _, r => by
    unfold RelL at r ⊢
    obtain ⟨x, q, e, a, b⟩ := r
    exact ⟨x, q, e, RelD.mono h d x a, RelL.mono h l q b⟩
end
theorem RelL.length {R : RC} {w : Wd} : ∀ {l : List D} {xs : List V}, RelL R w l xs → xs.length = l.length
  | [], _, r => by unfold RelL at r; subst r; rfl
  | d :: l, _, r => by
    unfold RelL at r
    obtain ⟨x, q, e, _, b⟩ := r
    subst e
    rw [List.length_cons, List.length_cons, RelL.length b]
theorem RelL.app {R : RC} {w : Wd} : ∀ {l m : List D} {xs ys : List V}, RelL R w l xs → RelL R w m ys → RelL R w (l ++ m) (xs ++ ys)
  | [], _, _, _, r, s => by unfold RelL at r; subst r; exact s
  | d :: l, _, _, _, r, s => by
    unfold RelL at r
    obtain ⟨x, q, e, a, b⟩ := r
    subst e
    exact .cons a (RelL.app b s)
theorem RelL.get {R : RC} {w : Wd} : ∀ {l : List D} {xs : List V} {i : Nat} {d : D}, RelL R w l xs → l[i]? = some d → ∃ x, xs[i]? = some x ∧ RelD R w d x
  | [], _, _, _, _, h => by simp at h
  | d :: l, _, i, d', r, h => by
    unfold RelL at r
    obtain ⟨x, q, e, a, b⟩ := r
    subst e
    cases i with
    | zero => simp at h; subst h; exact ⟨x, rfl, a⟩
    | succ i => exact RelL.get (i := i) b (by simpa using h)
theorem RelL.take {R : RC} {w : Wd} : ∀ (n : Nat) {l : List D} {xs : List V}, RelL R w l xs → RelL R w (l.take n) (xs.take n)
  | 0, _, _, _ => by rw [List.take_zero, List.take_zero]; exact .nil
  | _ + 1, [], _, r => by unfold RelL at r; subst r; exact .nil
  | n + 1, d :: l, _, r => by
    unfold RelL at r
    obtain ⟨x, q, e, a, b⟩ := r
    subst e
    exact .cons a (RelL.take n b)
theorem RelL.drop {R : RC} {w : Wd} : ∀ (n : Nat) {l : List D} {xs : List V}, RelL R w l xs → RelL R w (l.drop n) (xs.drop n)
  | 0, _, _, r => r
  | _ + 1, [], _, r => by unfold RelL at r; subst r; exact .nil
  | n + 1, d :: l, _, r => by
    unfold RelL at r
    obtain ⟨x, q, e, a, b⟩ := r
    subst e
    exact RelL.drop n b
theorem RelL.set {R : RC} {w : Wd} {d : D} {x : V} (h : RelD R w d x) : ∀ (n : Nat) {l : List D} {xs : List V}, RelL R w l xs → RelL R w (l.set n d) (xs.set n x)
  | _, [], _, r => by unfold RelL at r; subst r; exact .nil
  | 0, d :: l, _, r => by
    unfold RelL at r
    obtain ⟨x, q, e, a, b⟩ := r
    subst e
    exact .cons h b
  | n + 1, d :: l, _, r => by
    unfold RelL at r
    obtain ⟨x, q, e, a, b⟩ := r
    subst e
    exact .cons a (RelL.set h n b)
theorem RelL.rev {R : RC} {w : Wd} : ∀ {l : List D} {xs : List V}, RelL R w l xs → RelL R w l.reverse xs.reverse
  | [], _, r => by unfold RelL at r; subst r; exact .nil
  | d :: l, _, r => by
    unfold RelL at r
    obtain ⟨x, q, e, a, b⟩ := r
    subst e
    rw [List.reverse_cons, List.reverse_cons]
    exact RelL.app (RelL.rev b) (.cons a .nil)
/-- the fields of an instance -/
def RelF (R : RC) (w : Wd) : List (Str × D) → List (Str × V) → Prop
  | [], xs => xs = []
  | p :: l, xs => ∃ q r, xs = q :: r ∧ p.1 = q.1 ∧ RelD R w p.2 q.2 ∧ RelF R w l r
theorem RelF.mono {R : RC} {w w' : Wd} (h : w.le w') : ∀ (l : List (Str × D)) (xs : List (Str × V)), RelF R w l xs → RelF R w' l xs
  | [], _, r => r
  | p :: l, _, r => by
    obtain ⟨q, r', e, a, b, c⟩ := r
    exact ⟨q, r', e, a, RelD.mono h _ _ b, RelF.mono h l r' c⟩
/-! dicts whose keys are nested tuples -/
/-! the key that a value is -/
mutual
def keyD : D → Option NestedKey
  | .non => some .none
  | .bl b => some (.num (if b = true then 1 else 0))
  | .int i => some (.num i)
  | .str x => some (.text x)
  | .tup l => (keyL l).map .tup
  | .ref _ => none
  | .gl _ => none
  | .ty _ => none
  | .exn _ _ => none
def keyL : List D → Option (List NestedKey)
  | [] => some []
  | d :: l => match keyD d, keyL l with
    | some k, some ks => some (k :: ks)
    | _, _ => none
end
/-- at a stands a dict: its keys, where they stand, its values -/
def DcO (W : World) (a : Addr) (xs : List (NestedKey × Addr × V)) : HO := .ext fun h => (a == sysModules) = false ∧ xs.length ≤ sizeLine ∧ ∃ ys : List (NestedKey × Addr × Value),
  Paired (fun (p : NestedKey × Addr × V) (q : NestedKey × Addr × Value) => p.1 = q.1 ∧ p.2.1 = q.2.1 ∧ RelV p.2.2 q.2.2) xs ys ∧
  ∃ o es ep, h.get? a = some o ∧ o.ExactDict ∧ o.data = .dict es ep ∧ es.toList = ys.map (fun x => (⟨x.1.hash W, .ref x.2.1, x.2.2⟩ : DictEntry)) ∧ (ys.map (·.1)).Nodup
def RelK (R : RC) (w : Wd) : List (D × D) → List (NestedKey × Addr × V) → Prop
  | [], xs => xs = []
  | p :: l, xs => ∃ q r, xs = q :: r ∧ keyD p.1 = some q.1 ∧ q.1.depth ≤ 8 ∧ RelD R w p.1 (.ref q.2.1) ∧ RelD R w p.2 q.2.2 ∧ RelK R w l r
theorem RelK.mono {R : RC} {w w' : Wd} (h : w.le w') : ∀ (l : List (D × D)) (xs : List (NestedKey × Addr × V)), RelK R w l xs → RelK R w' l xs
  | [], _, r => r
  | p :: l, _, r => by
    obtain ⟨q, r', e, a, a2, b, c, d⟩ := r
    exact ⟨q, r', e, a, a2, RelD.mono h _ _ b, RelD.mono h _ _ c, RelK.mono h l r' d⟩
/-- a thing of the store stands in the heap -/
def RelM (R : RC) (w : Wd) : MO → HO → Prop
  | .lst l, o => ∃ xs, o = .lst xs ∧ RelL R w l xs
  | .fz l, o => ∃ ob xs, o = .frz ob (.lst xs) ∧ RelL R w l xs
  | .ins C fs, o => ∃ Ca dx fv, R.mg C = some (.ref Ca) ∧ o = .ins Ca dx fv ∧ RelF R w fs fv
  | .dct kvs, o => ∃ a xs, o = DcO R.W a xs ∧ RelK R w kvs xs
  | .any, _ => False
theorem RelM.mono {R : RC} {w w' : Wd} (h : w.le w') : ∀ (m : MO) (o : HO), RelM R w m o → RelM R w' m o
  | .lst l, _, ⟨xs, e, r⟩ => ⟨xs, e, RelL.mono h l xs r⟩
  | .fz l, _, ⟨ob, xs, e, r⟩ => ⟨ob, xs, e, RelL.mono h l xs r⟩
  | .ins C fs, _, ⟨Ca, dx, fv, g, e, r⟩ => ⟨Ca, dx, fv, g, e, RelF.mono h fs fv r⟩
  | .dct kvs, _, ⟨a, xs, e, r⟩ => ⟨a, xs, e, RelK.mono h kvs xs r⟩
  | .any, _, h => h
/-- a world that holds: the things of the store, apart from one another and from the code objects of lambdas (cp) -/
structure Wd.Ok (R : RC) (w : Wd) : Prop where
  at_ : ∀ (n : Nat) (m : MO), w.M[n]? = some m → ∃ o, w.H (w.ρ n) = some o ∧ RelM R w m o ∧ ∀ ps, o ≠ .tbl ps
  inj : ∀ i j, i < w.M.length → j < w.M.length → w.ρ i = w.ρ j → i = j
  cod : ∀ c q, w.cp c q → w.H c = some (LamX.CodeO c q)
  sep : ∀ n c q, n < w.M.length → w.cp c q → w.ρ n ≠ c
  tab : ∀ p ∈ R.T.tabs, ∃ ps : Array Value, w.H p.1 = some (.tbl ps) ∧ TriplesOk ps.toList ∧ ∀ (pos : Pos) (cv : Value), codeAmong pos ps.toList = some cv → ∃ c, cv = .ref c ∧ w.cp c p.2
theorem Wd.Ok.tabs {R : RC} {w : Wd} (o : w.Ok R) : LamX.Tabs R.T.tabs w.H := fun p hp => by
  obtain ⟨ps, t1, t2, t3⟩ := o.tab p hp
  exact ⟨ps, t1, t2, fun pos cv h => let ⟨c, e, k⟩ := t3 pos cv h; ⟨c, e, o.cod c _ k⟩⟩
/-- the slots -/
structure SRel (R : RC) (w : Wd) (δ : DEnv) (σ : St) : Prop where
  len : δ.length = σ.length
  at_ : ∀ (i : Nat) (d : D), δ[i]? = some (some d) → ∃ v, σ[i]? = some (some v) ∧ RelD R w d v
theorem SRel.mono {R : RC} {w w' : Wd} {δ : DEnv} {σ : St} (h : w.le w') (s : SRel R w δ σ) : SRel R w' δ σ :=
  ⟨s.len, fun i d e => let ⟨v, a, b⟩ := s.at_ i d e; ⟨v, a, RelD.mono h d v b⟩⟩
theorem SRel.set {R : RC} {w : Wd} {δ : DEnv} {σ : St} (s : SRel R w δ σ) {d : D} {v : V} (r : RelD R w d v) (i : Nat) : SRel R w (δ.set i (some d)) (σ.set i (some v)) := by
  refine ⟨by rw [List.length_set, List.length_set, s.len], fun j d' e => ?_⟩
  by_cases h : i = j
  · subst h
    by_cases hl : i < δ.length
    · rw [List.getElem?_set_self hl] at e
      cases e
      exact ⟨v, by rw [List.getElem?_set_self (by rw [← s.len]; exact hl)], r⟩
    · rw [List.getElem?_eq_none (by rw [List.length_set]; omega)] at e; cases e
  · rw [List.getElem?_set_ne h] at e
    rw [List.getElem?_set_ne h]
    exact s.at_ j d' e
theorem SRel.forget {R : RC} {w : Wd} {δ : DEnv} {σ : St} (s : SRel R w δ σ) (i : Nat) : SRel R w (δ.set i none) (σ.set i none) := by
  refine ⟨by rw [List.length_set, List.length_set, s.len], fun j d' e => ?_⟩
  by_cases h : i = j
  · subst h
    by_cases hl : i < δ.length
    · rw [List.getElem?_set_self hl] at e; cases e
    · rw [List.getElem?_eq_none (by rw [List.length_set]; omega)] at e; cases e
  · rw [List.getElem?_set_ne h] at e
    rw [List.getElem?_set_ne h]
    exact s.at_ j d' e
/-- δ says no more than δ' -/
theorem SRel.weak {R : RC} {w : Wd} {δ δ' : DEnv} {σ : St} (s : SRel R w δ σ) (hl : δ'.length = δ.length) (h : ∀ (i : Nat) (d : D), δ'[i]? = some (some d) → δ[i]? = some (some d)) : SRel R w δ' σ :=
  ⟨hl.trans s.len, fun i d e => s.at_ i d (h i d e)⟩
section
variable {R : RC} {w : Wd}
theorem Wd.Ok.lt (o : w.Ok R) {n : Nat} {m : MO} (h : w.M[n]? = some m) : n < w.M.length := (List.getElem?_eq_some_iff.mp h).1
/-- a new object beside the store -/
theorem Wd.Ok.beside (o : w.Ok R) {p : Addr} {u : HO} (hp : w.H p = none) : (⟨w.ρ, w.M, upd w.H p u, w.cp⟩ : Wd).Ok R ∧ w.le ⟨w.ρ, w.M, upd w.H p u, w.cp⟩ := by
  have le : w.le ⟨w.ρ, w.M, upd w.H p u, w.cp⟩ := ⟨Nat.le_refl _, fun _ _ => rfl, Fr.new hp⟩
  refine ⟨⟨fun n m e => ?_, o.inj, fun c q h => ?_, o.sep, fun q hq => ?_⟩, le⟩
  · obtain ⟨u, h, r, nt⟩ := o.at_ n m e
    exact ⟨u, by show upd w.H p _ (w.ρ n) = _; rw [upd_ne (ne_of_none h hp)]; exact h, r.mono le, nt⟩
  · have e := o.cod c q h
    show upd w.H p _ c = _
    rw [upd_ne (ne_of_none e hp)]; exact e
  · obtain ⟨ps, t1, t2⟩ := o.tab q hq
    exact ⟨ps, by show upd w.H p _ q.1 = _; rw [upd_ne (ne_of_none t1 hp)]; exact t1, t2⟩
/-- a new thing of the store -/
def Wd.push (w : Wd) (p : Addr) (m : MO) (u : HO) : Wd := ⟨fun i => if i = w.M.length then p else w.ρ i, w.M ++ [m], upd w.H p u, w.cp⟩
theorem Wd.Ok.pushed (o : w.Ok R) {p : Addr} (hp : w.H p = none) {m : MO} {u : HO} (r : ∀ w', w.le w' → RelM R w' m u) (nt : ∀ ps, u ≠ .tbl ps) : (w.push p m u).Ok R ∧ w.le (w.push p m u) ∧ (w.push p m u).ρ w.M.length = p := by
  have le : w.le (w.push p m u) := by
    refine ⟨by show w.M.length ≤ (w.M ++ [m]).length; simp, fun i h => ?_, Fr.new hp⟩
    show (if i = w.M.length then p else w.ρ i) = w.ρ i
    rw [if_neg (by omega)]
  have self : (w.push p m u).ρ w.M.length = p := by show (if w.M.length = w.M.length then p else _) = p; rw [if_pos rfl]
  have ne : ∀ k, k < w.M.length → w.ρ k ≠ p := fun k hk => by
    obtain ⟨q, h, _⟩ := o.at_ k _ (List.getElem?_eq_getElem hk)
    exact ne_of_none h hp
  have HU : (w.push p m u).H = upd w.H p u := rfl
  refine ⟨⟨fun n m' e => ?_, fun i j hi hj e => ?_, fun c q h => ?_, fun n c q hn hc => ?_, fun q hq => ?_⟩, le, self⟩
  · have e' : (w.M ++ [m])[n]? = some m' := e
    by_cases hn : n < w.M.length
    · rw [List.getElem?_append_left hn] at e'
      obtain ⟨q, h, r', n'⟩ := o.at_ n m' e'
      refine ⟨q, ?_, r'.mono le, n'⟩
      rw [le.ρ n hn, HU, upd_ne (ne_of_none h hp)]
      exact h
    · have hl := (List.getElem?_eq_some_iff.mp e').1
      have hn' : n = w.M.length := by simp at hl; omega
      subst hn'
      rw [List.getElem?_append_right (Nat.le_refl _)] at e'
      simp at e'
      subst e'
      exact ⟨u, by rw [self]; exact upd_same, r _ le, nt⟩
  · have hi' : i < (w.M ++ [m]).length := hi
    have hj' : j < (w.M ++ [m]).length := hj
    simp at hi' hj'
    have e' : (if i = w.M.length then p else w.ρ i) = (if j = w.M.length then p else w.ρ j) := e
    by_cases a : i = w.M.length <;> by_cases b : j = w.M.length
    · omega
    · rw [if_pos a, if_neg b] at e'; exact absurd e'.symm (ne j (by omega))
    · rw [if_neg a, if_pos b] at e'; exact absurd e' (ne i (by omega))
    · rw [if_neg a, if_neg b] at e'; exact o.inj i j (by omega) (by omega) e'
  · have e := o.cod c q h
    rw [HU, upd_ne (ne_of_none e hp)]; exact e
  · have hn' : n < (w.M ++ [m]).length := hn
    simp at hn'
    by_cases a : n = w.M.length
    · subst a; rw [self]; intro z; subst z; have e := o.cod _ q hc; rw [hp] at e; cases e
    · rw [le.ρ n (by omega)]; exact o.sep n c q (by omega) hc
  · obtain ⟨ps, t1, t2⟩ := o.tab q hq
    exact ⟨ps, by rw [HU, upd_ne (ne_of_none t1 hp)]; exact t1, t2⟩
/-- a thing of the store changed -/
def Wd.put (w : Wd) (n : Nat) (m : MO) (u : HO) : Wd := ⟨w.ρ, w.M.set n m, upd w.H (w.ρ n) u, w.cp⟩
theorem Wd.Ok.putted (o : w.Ok R) {n : Nat} {m₀ m : MO} {u₀ u : HO} (hn : w.M[n]? = some m₀) (hu : w.H (w.ρ n) = some u₀) (mu : Mut (some u₀)) (r : ∀ w', w.le w' → RelM R w' m u) (nt : ∀ ps, u ≠ .tbl ps) :
    (w.put n m u).Ok R ∧ w.le (w.put n m u) := by
  have le : w.le (w.put n m u) := ⟨by show w.M.length ≤ (w.M.set n m).length; rw [List.length_set]; exact Nat.le_refl _, fun _ _ => rfl, Fr.set hu mu⟩
  have hl := o.lt hn
  have HU : (w.put n m u).H = upd w.H (w.ρ n) u := rfl
  refine ⟨⟨fun k m' e => ?_, fun i j hi hj e => o.inj i j (by simpa [Wd.put] using hi) (by simpa [Wd.put] using hj) e, fun c q h => ?_, fun k c q hk hc => o.sep k c q (by simpa [Wd.put] using hk) hc, fun p hp => ?_⟩, le⟩
  · have e' : (w.M.set n m)[k]? = some m' := e
    by_cases h : n = k
    · subst h
      rw [List.getElem?_set_self hl] at e'
      cases e'
      exact ⟨u, upd_same, r _ le, nt⟩
    · rw [List.getElem?_set_ne h] at e'
      obtain ⟨q, hq, r', n'⟩ := o.at_ k m' e'
      refine ⟨q, ?_, r'.mono le, n'⟩
      show upd w.H (w.ρ n) u (w.ρ k) = _
      rw [upd_ne fun z => h (o.inj n k hl (o.lt e') z.symm)]
      exact hq
  · rw [HU, upd_ne fun z => o.sep n c q hl h z.symm]; exact o.cod c q h
  · obtain ⟨ps, t1, t2⟩ := o.tab p hp
    refine ⟨ps, ?_, t2⟩
    rw [HU, upd_ne fun z => ?_]
    · exact t1
    · rw [z, hu] at t1; cases t1; exact mu
end
end Pd
namespace Pd
open PySem PySem.Spec PyProof.Rows L2
/-! ### results -/
inductive Res (α : Type) where
  | ok (a : α) (M : Mem) | exc (x : Exn) (M : Mem) | bad
def Res.bind {α β : Type} : Res α → (α → Mem → Res β) → Res β
  | .ok d M, k => k d M
  | .exc x M, _ => .exc x M
  | .bad, _ => .bad
def ofV {α : Type} : Option (α × Mem) → Res α
  | some p => .ok p.1 p.2
  | none => .bad
abbrev EF (α : Type) := DEnv → Mem → Res α
/-- an exception's class and its own dict -/
def RelX (R : RC) (w : Wd) (x : Exn) (cls : Value) (dx : Option Addr) : Prop :=
  ∃ C, R.mg x.cls = some (.ref C) ∧ cls = .ref C ∧ ((x.fs = [] ∧ dx = none) ∨ (x.fs ≠ [] ∧ ∃ d fv, dx = some d ∧ w.H d = some (.xd fv) ∧ RelF R w x.fs fv))
section
variable {α β γ δt : Type}
/-- what is wanted of a result -/
def Post (R : RC) (W : WX) (w : Wd) (σ : St) (rel : Wd → α → β → Prop) (Q : β → Hp → Prop) : Res α → Prop
  | .ok a M' => ∀ w' b, w'.M = M' → w.le w' → w'.Ok R → rel w' a b → Q b w'.H
  | .exc x M' => ∀ w' cls dx, w'.M = M' → w.le w' → w'.Ok R → RelX R w' x cls dx → W cls dx σ w'.H
  | .bad => False
theorem Post.at {R : RC} {W : WX} {w w' : Wd} {σ : St} {rel : Wd → α → β → Prop} {Q : β → Hp → Prop} (l : w.le w') : ∀ {r : Res α}, Post R W w σ rel Q r → Post R W w' σ rel Q r
  | .ok _ _, h => fun w2 b e l2 o r => h w2 b e (l.trans l2) o r
  | .exc _ _, h => fun w2 c d e l2 o r => h w2 c d e (l.trans l2) o r
  | .bad, h => h
theorem Post.bind {R : RC} {W : WX} {w : Wd} {σ : St} {rel : Wd → α → β → Prop} {rel2 : Wd → γ → δt → Prop} {Q1 : β → Hp → Prop} {Q : δt → Hp → Prop} {r : Res α} {k : α → Mem → Res γ}
    (h : Post R W w σ rel2 Q (r.bind k)) (hk : ∀ a w' b, w.le w' → w'.Ok R → rel w' a b → Post R W w' σ rel2 Q (k a w'.M) → Q1 b w'.H) : Post R W w σ rel Q1 r := by
  cases r with
  | ok a M => exact fun w' b e l o q => hk a w' b l o q (by subst e; exact Post.at l h)
  | exc x M => exact h
  | bad => exact h
theorem Post.mono {R : RC} {W : WX} {w : Wd} {σ : St} {rel : Wd → α → β → Prop} {Q Q' : β → Hp → Prop} {r : Res α} (h : Post R W w σ rel Q r) (hQ : ∀ b w', w.le w' → w'.Ok R → Q b w'.H → Q' b w'.H) : Post R W w σ rel Q' r := by
  cases r with
  | ok a M => exact fun w' b e l o q => hQ b w' l o (h w' b e l o q)
  | exc x M => exact h
  | bad => exact h
theorem Post.map {R : RC} {W : WX} {w : Wd} {σ : St} {rel : Wd → α → β → Prop} {rel2 : Wd → γ → δt → Prop} {Q : β → Hp → Prop} {Q2 : δt → Hp → Prop} {r : Res α} {f : α → γ} (h : Post R W w σ rel2 Q2 (r.bind fun a M => .ok (f a) M))
    (hr : ∀ a w' b, w.le w' → w'.Ok R → rel w' a b → ∃ b2, rel2 w' (f a) b2 ∧ (Q2 b2 w'.H → Q b w'.H)) : Post R W w σ rel Q r :=
  h.bind fun a w' b l o q h2 => by
    obtain ⟨b2, r2, q2⟩ := hr a w' b l o q
    exact q2 (h2 w' b2 rfl (.refl _) o r2)
end
def relB : Wd → Bool → Bool → Prop := fun _ a b => a = b
/-- an expression is the function f -/
def EV (T : TB) (W : WX) (X : Cx) (e : Expr) (f : EF D) : Prop :=
  ∃ t, PE X e t ∧ ∀ w δ σ Q, w.Ok (rc T X) → SRel (rc T X) w δ σ → Post (rc T X) W w σ (RelD (rc T X)) Q (f δ w.M) → t σ w.H Q
def ET (T : TB) (W : WX) (X : Cx) (e : Expr) (f : EF Bool) : Prop :=
  ∃ t, PT X e t ∧ ∀ w δ σ Q, w.Ok (rc T X) → SRel (rc T X) w δ σ → Post (rc T X) W w σ relB Q (f δ w.M) → t σ w.H Q
def ETW (T : TB) (W : WX) (X : Cx) (e : Expr) (f : EF Bool) : Prop :=
  ∃ t, PW X e t ∧ ∀ w δ σ Q, w.Ok (rc T X) → SRel (rc T X) w δ σ → Post (rc T X) W w σ relB Q (f δ w.M) → t σ w.H Q
def EA (T : TB) (W : WX) (X : Cx) (es : List Expr) (f : EF (List D)) : Prop :=
  ∃ t, PA X es t ∧ ∀ w δ σ Q, w.Ok (rc T X) → SRel (rc T X) w δ σ → Post (rc T X) W w σ (RelL (rc T X)) Q (f δ w.M) → t σ w.H Q
/-! ### the functions -/
def dBad {α : Type} : EF α := fun _ _ => .bad
def dVar (i : Nat) : EF D := fun δ M => match δ[i]? with
  | some (some d) => .ok d M
  | _ => .bad
def dC (d : D) : EF D := fun _ M => .ok d M
def dBin (op : D → D → Mem → OV) (f g : EF D) : EF D := fun δ M => (f δ M).bind fun a M1 => (g δ M1).bind fun b M2 => ofV (op a b M2)
def dUn (op : D → Mem → OV) (f : EF D) : EF D := fun δ M => (f δ M).bind fun a M1 => ofV (op a M1)
def dCh (op op' : D → D → Mem → OV) (f g h : EF D) : EF D := fun δ M => (f δ M).bind fun a M1 => (g δ M1).bind fun b M2 => (ofV (op a b M2)).bind fun z M3 => match z with
  | .bl true => (h δ M3).bind fun c M4 => ofV (op' b c M4)
  | .bl false => .ok (.bl false) M3
  | _ => .bad
def dCh3 (op op' op2 : D → D → Mem → OV) (f g h k : EF D) : EF D := fun δ M => (f δ M).bind fun a M1 => (g δ M1).bind fun b M2 => (ofV (op a b M2)).bind fun z M3 => match z with
  | .bl true => (h δ M3).bind fun c M4 => (ofV (op' b c M4)).bind fun z2 M5 => match z2 with
    | .bl true => (k δ M5).bind fun d M6 => ofV (op2 c d M6)
    | .bl false => .ok (.bl false) M5
    | _ => .bad
  | .bl false => .ok (.bl false) M3
  | _ => .bad
def tV (f : EF D) : EF Bool := fun δ M => (f δ M).bind fun a M1 => match a with
  | .bl b => .ok b M1
  | _ => .bad
def vT (f : EF Bool) : EF D := fun δ M => (f δ M).bind fun b M1 => .ok (.bl b) M1
def tAnd (f g : EF Bool) : EF Bool := fun δ M => (f δ M).bind fun b M1 => if b = true then g δ M1 else .ok false M1
def tOr (f g : EF Bool) : EF Bool := fun δ M => (f δ M).bind fun b M1 => if b = true then .ok true M1 else g δ M1
def tNot (f : EF Bool) : EF Bool := fun δ M => (f δ M).bind fun b M1 => .ok (!b) M1
def dAnd (f g : EF D) : EF D := fun δ M => (f δ M).bind fun a M1 => match a with
  | .bl true => g δ M1
  | .bl false => .ok (.bl false) M1
  | _ => .bad
def dOr (f g : EF D) : EF D := fun δ M => (f δ M).bind fun a M1 => match a with
  | .bl true => .ok (.bl true) M1
  | .bl false => g δ M1
  | _ => .bad
def dNot (f : EF D) : EF D := fun δ M => (f δ M).bind fun a M1 => match a with
  | .bl b => .ok (.bl (!b)) M1
  | _ => .bad
def dIf (c : EF Bool) (f g : EF D) : EF D := fun δ M => (c δ M).bind fun b M1 => if b = true then f δ M1 else g δ M1
def aNil : EF (List D) := fun _ M => .ok [] M
def aCons (f : EF D) (g : EF (List D)) : EF (List D) := fun δ M => (f δ M).bind fun a M1 => (g δ M1).bind fun l M2 => .ok (a :: l) M2
def dTup (g : EF (List D)) : EF D := fun δ M => (g δ M).bind fun l M1 => if l.length ≤ sizeLine then .ok (.tup l) M1 else .bad
def dLst (g : EF (List D)) : EF D := fun δ M => (g δ M).bind fun l M1 => if l.length ≤ sizeLine then .ok (.ref M1.length) (M1 ++ [.lst l]) else .bad
def dBlt (op : List D → Mem → OV) (g : EF (List D)) : EF D := fun δ M => (g δ M).bind fun l M1 => ofV (op l M1)
section
variable {T : TB} {W : WX} {X : Cx} {e a b c : Expr} {es : List Expr} {pos : Pos} {f g h : EF D} {c0 ct : EF Bool} {ga : EF (List D)} {x : Str} {i : Nat}
theorem EV.bad (e : Expr) : EV T W X e dBad := ⟨fun _ _ _ => False, ⟨fun _ _ _ _ _ _ h => h.elim⟩, fun _ _ _ _ _ _ h => h⟩
theorem ET.bad (e : Expr) : ET T W X e dBad := ⟨fun _ _ _ => False, ⟨fun _ _ _ _ _ _ h => h.elim⟩, fun _ _ _ _ _ _ h => h⟩
theorem ETW.bad (e : Expr) : ETW T W X e dBad := ⟨fun _ _ _ => False, ⟨fun _ _ _ _ _ _ _ h => h.elim⟩, fun _ _ _ _ _ _ h => h⟩
theorem EA.bad (es : List Expr) : EA T W X es dBad := ⟨fun _ _ _ => False, ⟨fun _ _ _ _ _ _ _ h => h.elim⟩, fun _ _ _ _ _ _ h => h⟩
theorem ETW.t (h : ETW T W X e c0) : ET T W X e c0 := let ⟨t, p, q⟩ := h; ⟨t, p.pt, q⟩
theorem EV.var (hN : X.N[i]? = some x) (hv : Vis X.env.scope x) (hd : (x == ("__debug__" : Str)) = false) (hcd : (x == ("__classdict__" : Str)) = false) : EV T W X (.Name x pos) (dVar i) := by
  refine ⟨tVar i, pe_var hN hv hd hcd, fun w δ σ Q o s h => ?_⟩
  unfold dVar at h
  split at h
  · rename_i d e
    obtain ⟨v, e1, r⟩ := s.at_ i d e
    exact ⟨v, e1, h w v rfl (.refl _) o r⟩
  · exact h.elim
theorem EV.const {d : D} {v : V} {t : TE} (p : PE X e t) (ht : ∀ σ H Q, Q v H → t σ H Q) (r : ∀ w, RelD (rc T X) w d v) : EV T W X e (dC d) :=
  ⟨t, p, fun w δ σ Q o s h => ht σ w.H Q (h w v rfl (.refl _) o (r w))⟩
theorem EV.int {i : Int} {j} : EV T W X (.Constant (.int i) j pos) (dC (.int i)) := EV.const pe_int (fun _ _ _ h => h) fun _ => by unfold RelD; rfl
theorem EV.bl {i : Bool} {j} : EV T W X (.Constant (.bool i) j pos) (dC (.bl i)) := EV.const pe_bl (fun _ _ _ h => h) fun _ => by unfold RelD; rfl
theorem EV.non {j} : EV T W X (.Constant .none j pos) (dC .non) := EV.const pe_non (fun _ _ _ h => h) fun _ => by unfold RelD; rfl
theorem EV.str {z : Str} {j} : EV T W X (.Constant (.str z) j pos) (dC (.str z)) := EV.const pe_str (fun _ _ _ h => h) fun _ => by unfold RelD; rfl
/-- a module's name as a value -/
theorem EV.glob {u : Value} {v : V} (hg : Gl X x) (hm : X.mg x = some u) (r : RelV v u) (hd : (x == ("__debug__" : Str)) = false) : EV T W X (.Name x pos) (dC (.gl x)) :=
  EV.const (pe_glob hg hm r hd) (fun _ _ _ h => h) fun _ => by unfold RelD; exact ⟨u, hm, r⟩
theorem EV.globI {n : Int} {t : Tok} (hg : Gl X x) (hm : X.mg x = some (.int n t)) (hd : (x == ("__debug__" : Str)) = false) : EV T W X (.Name x pos) (dC (.int n)) :=
  EV.const (pe_glob (v := .int n) hg hm ⟨t, rfl⟩ hd) (fun _ _ _ h => h) fun _ => by unfold RelD; rfl
theorem EV.globS {z : Str} {t : Tok} (hg : Gl X x) (hm : X.mg x = some (.str z t)) (hd : (x == ("__debug__" : Str)) = false) : EV T W X (.Name x pos) (dC (.str z)) :=
  EV.const (pe_glob (v := .str z) hg hm ⟨t, rfl⟩ hd) (fun _ _ _ h => h) fun _ => by unfold RelD; rfl
/-! operators -/
def PostV (R : RC) (w : Wd) (Q : VK) : OV → Prop
  | some p => ∀ w' v, w'.M = p.2 → w.le w' → w'.Ok R → RelD R w' p.1 v → Q v w'.H
  | none => False
theorem post_ofV {R : RC} {w : Wd} {σ : St} {Q : VK} {o : OV} (h : Post R W w σ (RelD R) Q (ofV o)) : PostV R w Q o := by
  cases o with
  | none => exact h
  | some p => exact h
theorem PostV.at {R : RC} {w w' : Wd} {Q : VK} (l : w.le w') : ∀ {o : OV}, PostV R w Q o → PostV R w' Q o
  | none, h => h
  | some _, h => fun w2 v e l2 o r => h w2 v e (l.trans l2) o r
/-- the answer is a value that stands already -/
theorem PostV.val {R : RC} {w : Wd} {Q : VK} {d : D} {v : V} (h : PostV R w Q (some (d, w.M))) (o : w.Ok R) (r : RelD R w d v) : Q v w.H := h w v rfl (.refl _) o r
/-- .. a new tuple -/
theorem PostV.tup {R : RC} {w : Wd} {Q : VK} {l : List D} {xs : List V} (h : PostV R w Q (some (.tup l, w.M))) (o : w.Ok R) (r : RelL R w l xs) : ∀ p, w.H p = none → Q (.ref p) (upd w.H p (.tup xs)) := fun p hp => by
  obtain ⟨o', l'⟩ := o.beside (u := .tup xs) hp
  exact h ⟨w.ρ, w.M, upd w.H p (.tup xs), w.cp⟩ (.ref p) rfl l' o' (by unfold RelD; exact ⟨p, xs, rfl, .inl (.inl upd_same), RelL.mono l' _ _ r⟩)
/-- .. a new list -/
theorem PostV.lst {R : RC} {w : Wd} {Q : VK} {l : List D} {xs : List V} (h : PostV R w Q (some (.ref w.M.length, w.M ++ [.lst l]))) (o : w.Ok R) (r : RelL R w l xs) : ∀ p, w.H p = none → Q (.ref p) (upd w.H p (.lst xs)) := fun p hp => by
  obtain ⟨o', l', e⟩ := o.pushed hp (m := .lst l) (u := .lst xs) (fun w' k => ⟨xs, rfl, RelL.mono k _ _ r⟩) (fun _ z => by cases z)
  refine h (w.push p (.lst l) (.lst xs)) (.ref p) rfl l' o' ?_
  unfold RelD
  exact ⟨by show w.M.length < (w.M ++ [_]).length; simp, by rw [e]⟩
def OpOk (T : TB) (X : Cx) (op : D → D → Mem → OV) (r : R2) : Prop :=
  ∀ w a b x y Q, w.Ok (rc T X) → RelD (rc T X) w a x → RelD (rc T X) w b y → PostV (rc T X) w Q (op a b w.M) → r x y w.H Q
theorem EV.bin {op : Operator} {r : R2} {dop : D → D → Mem → OV} (ho : OpR X (binaryOp op) r) (hk : OpOk T X dop r) (ha : EV T W X a f) (hb : EV T W X b g) : EV T W X (.BinOp a op b pos) (dBin dop f g) := by
  obtain ⟨ta, pa, qa⟩ := ha
  obtain ⟨tb, pb, qb⟩ := hb
  refine ⟨tOp r ta tb, pe_op ho pa pb, fun w δ σ Q o s h => ?_⟩
  refine qa w δ σ _ o s (h.bind fun d1 w1 v1 l1 o1 r1 h1 => ?_)
  refine qb w1 δ σ _ o1 (s.mono l1) (h1.bind fun d2 w2 v2 l2 o2 r2 h2 => ?_)
  exact hk w2 d1 d2 v1 v2 Q o2 (RelD.mono l2 _ _ r1) r2 (post_ofV h2)
theorem EV.cmp {op : CmpOp} {r : R2} {dop : D → D → Mem → OV} (ho : OpR X (compareOp op) r) (hk : OpOk T X dop r) (ha : EV T W X a f) (hb : EV T W X b g) (hm : behindInMarks op b = false) : EV T W X (.Compare a [op] [b] pos) (dBin dop f g) := by
  obtain ⟨ta, pa, qa⟩ := ha
  obtain ⟨tb, pb, qb⟩ := hb
  refine ⟨tOp r ta tb, pe_cmpR ho pa pb hm, fun w δ σ Q o s h => ?_⟩
  refine qa w δ σ _ o s (h.bind fun d1 w1 v1 l1 o1 r1 h1 => ?_)
  refine qb w1 δ σ _ o1 (s.mono l1) (h1.bind fun d2 w2 v2 l2 o2 r2 h2 => ?_)
  exact hk w2 d1 d2 v1 v2 Q o2 (RelD.mono l2 _ _ r1) r2 (post_ofV h2)
/-- from a test's answer to the answer as a value -/
theorem post_tV {R : RC} {w : Wd} {σ : St} {Q : Bool → Hp → Prop} {r : Res D} (h : Post R W w σ relB Q (r.bind fun a M1 => match a with
    | .bl b => .ok b M1
    | _ => .bad)) : Post R W w σ (RelD R) (fun v H => ∃ k, v = .bl k ∧ Q k H) r := h.bind fun d w' v l o q h2 => by
  cases d with
  | bl b => unfold RelD at q; subst q; exact ⟨b, rfl, h2 w' b rfl (.refl _) o rfl⟩
  | _ => exact h2.elim
theorem ET.cmp {op : CmpOp} {r : R2} {dop : D → D → Mem → OV} (ho : OpR X (compareOp op) r) (hk : OpOk T X dop r) (ha : EV T W X a f) (hb : EV T W X b g) (hm : behindInMarks op b = false) : ET T W X (.Compare a [op] [b] pos) (tV (dBin dop f g)) := by
  obtain ⟨ta, pa, qa⟩ := ha
  obtain ⟨tb, pb, qb⟩ := hb
  refine ⟨_, pt_cmpR ho pa pb hm, fun w δ σ Q o s h => ?_⟩
  have h' := post_tV (r := dBin dop f g δ w.M) h
  refine qa w δ σ _ o s (h'.bind fun d1 w1 v1 l1 o1 r1 h1 => ?_)
  refine qb w1 δ σ _ o1 (s.mono l1) (h1.bind fun d2 w2 v2 l2 o2 r2 h2 => ?_)
  exact hk w2 d1 d2 v1 v2 _ o2 (RelD.mono l2 _ _ r1) r2 (post_ofV h2)
def tThree (r r' r2 : R2) (ta tb tc td : TE) : TE := fun σ H Q => ta σ H fun x H1 => tb σ H1 fun y H2 => r x y H2 fun z H3 => ∃ k, z = .bl k ∧
  (if k = true then tc σ H3 fun w' H4 => r' y w' H4 fun z2 H5 => ∃ k2, z2 = .bl k2 ∧
    (if k2 = true then td σ H5 fun u' H6 => r2 w' u' H6 Q else Q (.bl false) H5) else Q (.bl false) H3)
theorem pe_three {op op' op2 : CmpOp} {r r' r2 : R2} (ho : OpR X (compareOp op) r) (ho' : OpR X (compareOp op') r') (ho2 : OpR X (compareOp op2) r2) (ha : PE X a ta) (hb : PE X b tb) (hc : PE X c tc) (hd : PE X d td)
    (hm : lastMarks [op, op', op2] [b, c, d] = false) : PE X (.Compare a [op, op', op2] [b, c, d] pos) (tThree r r' r2 ta tb tc td) := by
  refine ⟨fun pins s σ H Q I h => ?_⟩
  refine Compare_chain (thn (ha.run pins s σ H _ I h) fun v s1 ⟨x, H1, I1, r1, q1⟩ => chain_link (thn (hb.run pins s1 σ H1 _ I1 q1) fun u s2 ⟨y, H2, I2, r2, q2⟩ =>
    thn (ho pins s2 σ H2 x y v u _ I2 r1 r2 q2) fun dd s3 ⟨z, H3, I3, r3, k, e, q3⟩ => ?_)) hm
  subst e
  cases r3
  refine wpAny_truthy_bool ?_
  cases k with
  | false => exact ite_ff ⟨.bl false, H3, I3, rfl, q3⟩
  | true =>
    refine ite_tt (chain_link (thn (hc.run pins s3 σ H3 _ I3 q3) fun w' s4 ⟨z', H4, I4, r4, q4⟩ => thn (ho' pins s4 σ H4 y z' u w' _ I4 r2 r4 q4) fun d' s5 ⟨z2, H5, I5, r5, k2, e2, q5⟩ => ?_))
    subst e2
    cases r5
    refine wpAny_truthy_bool ?_
    cases k2 with
    | false => exact ite_ff ⟨.bl false, H5, I5, rfl, q5⟩
    | true => exact ite_tt (chain_last (thn (hd.run pins s5 σ H5 _ I5 q5) fun w2 s6 ⟨z6, H6, I6, r6, q6⟩ => ho2 pins s6 σ H6 z' z6 w' w2 Q I6 r4 r6 q6))
theorem pt_three {op op' op2 : CmpOp} {r r' r2 : R2} (ho : OpR X (compareOp op) r) (ho' : OpR X (compareOp op') r') (ho2 : OpR X (compareOp op2) r2) (ha : PE X a ta) (hb : PE X b tb) (hc : PE X c tc) (hd : PE X d td)
    (hm : lastMarks [op, op', op2] [b, c, d] = false) : PT X (.Compare a [op, op', op2] [b, c, d] pos) (tTest (tThree r r' r2 ta tb tc td)) := by
  refine ⟨fun pins s σ H Q I h => ?_⟩
  refine isTrue_chain (thn (ha.run pins s σ H _ I h) fun v s1 ⟨x, H1, I1, r1, q1⟩ => test_link (thn (hb.run pins s1 σ H1 _ I1 q1) fun u s2 ⟨y, H2, I2, r2, q2⟩ =>
    thn (ho pins s2 σ H2 x y v u _ I2 r1 r2 q2) fun dd s3 ⟨z, H3, I3, r3, k, e, q3⟩ => ?_)) hm
  subst e
  cases r3
  refine wpAny_truthy_bool ?_
  cases k with
  | false =>
    obtain ⟨k', e', q'⟩ := q3
    cases e'
    exact ite_ff ⟨H3, I3, q'⟩
  | true =>
    refine ite_tt (test_link (thn (hc.run pins s3 σ H3 _ I3 q3) fun w' s4 ⟨z', H4, I4, r4, q4⟩ => thn (ho' pins s4 σ H4 y z' u w' _ I4 r2 r4 q4) fun d' s5 ⟨z2, H5, I5, r5, k2, e2, q5⟩ => ?_))
    subst e2
    cases r5
    refine wpAny_truthy_bool ?_
    cases k2 with
    | false =>
      obtain ⟨k', e', q'⟩ := q5
      cases e'
      exact ite_ff ⟨H5, I5, q'⟩
    | true =>
      refine ite_tt (test_last (thn (hd.run pins s5 σ H5 _ I5 q5) fun w2 s6 ⟨z6, H6, I6, r6, q6⟩ => thn (ho2 pins s6 σ H6 z' z6 w' w2 _ I6 r4 r6 q6) fun d2 s7 ⟨z7, H7, I7, r7, k7, e7, q7⟩ => ?_))
      subst e7
      cases r7
      exact wpAny_truthy_bool ⟨H7, I7, q7⟩
theorem EV.chain {op op' : CmpOp} {r r' : R2} {dop dop' : D → D → Mem → OV} (ho : OpR X (compareOp op) r) (hk : OpOk T X dop r) (ho' : OpR X (compareOp op') r') (hk' : OpOk T X dop' r') (ha : EV T W X a f) (hb : EV T W X b g) (hc : EV T W X c h)
    (hm : lastMarks [op, op'] [b, c] = false) : EV T W X (.Compare a [op, op'] [b, c] pos) (dCh dop dop' f g h) := by
  obtain ⟨ta, pa, qa⟩ := ha
  obtain ⟨tb, pb, qb⟩ := hb
  obtain ⟨tc, pc, qc⟩ := hc
  refine ⟨_, pe_chain ho ho' pa pb pc hm, fun w δ σ Q o s h => ?_⟩
  refine qa w δ σ _ o s (h.bind fun d1 w1 v1 l1 o1 r1 h1 => ?_)
  refine qb w1 δ σ _ o1 (s.mono l1) (h1.bind fun d2 w2 v2 l2 o2 r2 h2 => ?_)
  refine hk w2 d1 d2 v1 v2 _ o2 (RelD.mono l2 _ _ r1) r2 (post_ofV (h2.bind fun d3 w3 v3 l3 o3 r3 h3 => ?_))
  cases d3 with
  | bl k =>
    unfold RelD at r3
    subst r3
    refine ⟨k, rfl, ?_⟩
    cases k with
    | true =>
      rw [if_pos rfl]
      refine qc w3 δ σ _ o3 (s.mono ((l1.trans l2).trans l3)) (h3.bind fun d4 w4 v4 l4 o4 r4 h4 => ?_)
      exact hk' w4 d2 d4 v2 v4 Q o4 (RelD.mono (l3.trans l4) _ _ r2) r4 (post_ofV h4)
    | false =>
      rw [if_neg Bool.false_ne_true]
      exact h3 w3 (.bl false) rfl (.refl _) o3 (by unfold RelD; rfl)
  | _ => exact h3.elim
theorem ET.chain {op op' : CmpOp} {r r' : R2} {dop dop' : D → D → Mem → OV} (ho : OpR X (compareOp op) r) (hk : OpOk T X dop r) (ho' : OpR X (compareOp op') r') (hk' : OpOk T X dop' r') (ha : EV T W X a f) (hb : EV T W X b g) (hc : EV T W X c h)
    (hm : lastMarks [op, op'] [b, c] = false) : ET T W X (.Compare a [op, op'] [b, c] pos) (tV (dCh dop dop' f g h)) := by
  obtain ⟨ta, pa, qa⟩ := ha
  obtain ⟨tb, pb, qb⟩ := hb
  obtain ⟨tc, pc, qc⟩ := hc
  refine ⟨_, pt_chain ho ho' pa pb pc hm, fun w δ σ Q o s hh => ?_⟩
  have h' := post_tV (r := dCh dop dop' f g h δ w.M) hh
  refine qa w δ σ _ o s (h'.bind fun d1 w1 v1 l1 o1 r1 h1 => ?_)
  refine qb w1 δ σ _ o1 (s.mono l1) (h1.bind fun d2 w2 v2 l2 o2 r2 h2 => ?_)
  refine hk w2 d1 d2 v1 v2 _ o2 (RelD.mono l2 _ _ r1) r2 (post_ofV (h2.bind fun d3 w3 v3 l3 o3 r3 h3 => ?_))
  cases d3 with
  | bl k =>
    unfold RelD at r3
    subst r3
    refine ⟨k, rfl, ?_⟩
    cases k with
    | true =>
      rw [if_pos rfl]
      refine qc w3 δ σ _ o3 (s.mono ((l1.trans l2).trans l3)) (h3.bind fun d4 w4 v4 l4 o4 r4 h4 => ?_)
      exact hk' w4 d2 d4 v2 v4 _ o4 (RelD.mono (l3.trans l4) _ _ r2) r4 (post_ofV h4)
    | false =>
      rw [if_neg Bool.false_ne_true]
      exact h3 w3 (.bl false) rfl (.refl _) o3 (by unfold RelD; rfl)
  | _ => exact h3.elim
/-! three signs in one chain -/
theorem EV.chain3 {op op' op2 : CmpOp} {r r' r2 : R2} {dop dop' dop2 : D → D → Mem → OV} (ho : OpR X (compareOp op) r) (hk : OpOk T X dop r) (ho' : OpR X (compareOp op') r') (hk' : OpOk T X dop' r') (ho2 : OpR X (compareOp op2) r2) (hk2 : OpOk T X dop2 r2)
    (ha : EV T W X a f) (hb : EV T W X b g) (hc : EV T W X c h) (hd : EV T W X d h')
    (hm : lastMarks [op, op', op2] [b, c, d] = false) : EV T W X (.Compare a [op, op', op2] [b, c, d] pos) (dCh3 dop dop' dop2 f g h h') := by
  obtain ⟨ta, pa, qa⟩ := ha
  obtain ⟨tb, pb, qb⟩ := hb
  obtain ⟨tc, pc, qc⟩ := hc
  obtain ⟨td, pd, qd⟩ := hd
  refine ⟨_, pe_three ho ho' ho2 pa pb pc pd hm, fun w δ σ Q o s hh => ?_⟩
  refine qa w δ σ _ o s (hh.bind fun d1 w1 v1 l1 o1 r1 h1 => ?_)
  refine qb w1 δ σ _ o1 (s.mono l1) (h1.bind fun d2 w2 v2 l2 o2 r2 h2 => ?_)
  refine hk w2 d1 d2 v1 v2 _ o2 (RelD.mono l2 _ _ r1) r2 (post_ofV (h2.bind fun d3 w3 v3 l3 o3 r3 h3 => ?_))
  cases d3 with
  | bl k =>
    unfold RelD at r3
    subst r3
    refine ⟨k, rfl, ?_⟩
    cases k with
    | true =>
      rw [if_pos rfl]
      refine qc w3 δ σ _ o3 (s.mono ((l1.trans l2).trans l3)) (h3.bind fun d4 w4 v4 l4 o4 r4 h4 => ?_)
      refine hk' w4 d2 d4 v2 v4 _ o4 (RelD.mono (l3.trans l4) _ _ r2) r4 (post_ofV (h4.bind fun d5 w5 v5 l5 o5 r5 h5 => ?_))
      cases d5 with
      | bl k2 =>
        unfold RelD at r5
        subst r5
        refine ⟨k2, rfl, ?_⟩
        cases k2 with
        | true =>
          rw [if_pos rfl]
          refine qd w5 δ σ _ o5 (s.mono ((((l1.trans l2).trans l3).trans l4).trans l5)) (h5.bind fun d6 w6 v6 l6 o6 r6 h6 => ?_)
          exact hk2 w6 d4 d6 v4 v6 _ o6 (RelD.mono (l5.trans l6) _ _ r4) r6 (post_ofV h6)
        | false =>
          rw [if_neg Bool.false_ne_true]
          exact h5 w5 (.bl false) rfl (.refl _) o5 (by unfold RelD; rfl)
      | _ => exact h5.elim
    | false =>
      rw [if_neg Bool.false_ne_true]
      exact h3 w3 (.bl false) rfl (.refl _) o3 (by unfold RelD; rfl)
  | _ => exact h3.elim
theorem ET.chain3 {op op' op2 : CmpOp} {r r' r2 : R2} {dop dop' dop2 : D → D → Mem → OV} (ho : OpR X (compareOp op) r) (hk : OpOk T X dop r) (ho' : OpR X (compareOp op') r') (hk' : OpOk T X dop' r') (ho2 : OpR X (compareOp op2) r2) (hk2 : OpOk T X dop2 r2)
    (ha : EV T W X a f) (hb : EV T W X b g) (hc : EV T W X c h) (hd : EV T W X d h')
    (hm : lastMarks [op, op', op2] [b, c, d] = false) : ET T W X (.Compare a [op, op', op2] [b, c, d] pos) (tV (dCh3 dop dop' dop2 f g h h')) := by
  obtain ⟨ta, pa, qa⟩ := ha
  obtain ⟨tb, pb, qb⟩ := hb
  obtain ⟨tc, pc, qc⟩ := hc
  obtain ⟨td, pd, qd⟩ := hd
  refine ⟨_, pt_three ho ho' ho2 pa pb pc pd hm, fun w δ σ Q o s hh0 => ?_⟩
  have hh := post_tV (r := dCh3 dop dop' dop2 f g h h' δ w.M) hh0
  refine qa w δ σ _ o s (hh.bind fun d1 w1 v1 l1 o1 r1 h1 => ?_)
  refine qb w1 δ σ _ o1 (s.mono l1) (h1.bind fun d2 w2 v2 l2 o2 r2 h2 => ?_)
  refine hk w2 d1 d2 v1 v2 _ o2 (RelD.mono l2 _ _ r1) r2 (post_ofV (h2.bind fun d3 w3 v3 l3 o3 r3 h3 => ?_))
  cases d3 with
  | bl k =>
    unfold RelD at r3
    subst r3
    refine ⟨k, rfl, ?_⟩
    cases k with
    | true =>
      rw [if_pos rfl]
      refine qc w3 δ σ _ o3 (s.mono ((l1.trans l2).trans l3)) (h3.bind fun d4 w4 v4 l4 o4 r4 h4 => ?_)
      refine hk' w4 d2 d4 v2 v4 _ o4 (RelD.mono (l3.trans l4) _ _ r2) r4 (post_ofV (h4.bind fun d5 w5 v5 l5 o5 r5 h5 => ?_))
      cases d5 with
      | bl k2 =>
        unfold RelD at r5
        subst r5
        refine ⟨k2, rfl, ?_⟩
        cases k2 with
        | true =>
          rw [if_pos rfl]
          refine qd w5 δ σ _ o5 (s.mono ((((l1.trans l2).trans l3).trans l4).trans l5)) (h5.bind fun d6 w6 v6 l6 o6 r6 h6 => ?_)
          exact hk2 w6 d4 d6 v4 v6 _ o6 (RelD.mono (l5.trans l6) _ _ r4) r6 (post_ofV h6)
        | false =>
          rw [if_neg Bool.false_ne_true]
          exact h5 w5 (.bl false) rfl (.refl _) o5 (by unfold RelD; rfl)
      | _ => exact h5.elim
    | false =>
      rw [if_neg Bool.false_ne_true]
      exact h3 w3 (.bl false) rfl (.refl _) o3 (by unfold RelD; rfl)
  | _ => exact h3.elim
/-! tests -/
theorem ET.val (ha : EV T W X e f) (he : ∀ whole, isTrue e X.env whole = (do let v ← whole; standAt e.pos; holding [v] (truthy v))) : ET T W X e (tV f) := by
  obtain ⟨ta, pa, qa⟩ := ha
  refine ⟨_, pt_val pa he, fun w δ σ Q o s h => ?_⟩
  exact qa w δ σ _ o s (post_tV (r := f δ w.M) h)
theorem ETW.and1 (ha : ET T W X a c0) : ETW T W X (.BoolOp .And [a] pos) c0 := let ⟨t, p, q⟩ := ha; ⟨t, pw_and1 p, q⟩
theorem ETW.or1 (ha : ET T W X a c0) : ETW T W X (.BoolOp .Or [a] pos) c0 := let ⟨t, p, q⟩ := ha; ⟨t, pw_or1 p, q⟩
theorem ETW.and {rest : List Expr} (ha : ET T W X a c0) (hb : ETW T W X (.BoolOp .And (b :: rest) pos) ct) : ETW T W X (.BoolOp .And (a :: b :: rest) pos) (tAnd c0 ct) := by
  obtain ⟨ta, pa, qa⟩ := ha
  obtain ⟨tb, pb, qb⟩ := hb
  refine ⟨_, pw_and pa pb, fun w δ σ Q o s h => ?_⟩
  refine qa w δ σ _ o s (h.bind fun d1 w1 v1 l1 o1 r1 h1 => ?_)
  cases (show d1 = v1 from r1)
  cases d1 with
  | true => rw [if_pos rfl]; exact qb w1 δ σ _ o1 (s.mono l1) h1
  | false => rw [if_neg Bool.false_ne_true]; exact h1 w1 false rfl (.refl _) o1 rfl
theorem ETW.or {rest : List Expr} (ha : ET T W X a c0) (hb : ETW T W X (.BoolOp .Or (b :: rest) pos) ct) : ETW T W X (.BoolOp .Or (a :: b :: rest) pos) (tOr c0 ct) := by
  obtain ⟨ta, pa, qa⟩ := ha
  obtain ⟨tb, pb, qb⟩ := hb
  refine ⟨_, pw_or pa pb, fun w δ σ Q o s h => ?_⟩
  refine qa w δ σ _ o s (h.bind fun d1 w1 v1 l1 o1 r1 h1 => ?_)
  cases (show d1 = v1 from r1)
  cases d1 with
  | true => rw [if_pos rfl]; exact h1 w1 true rfl (.refl _) o1 rfl
  | false => rw [if_neg Bool.false_ne_true]; exact qb w1 δ σ _ o1 (s.mono l1) h1
theorem ET.not (ha : ET T W X a c0) : ET T W X (.UnaryOp .Not a pos) (tNot c0) := by
  obtain ⟨ta, pa, qa⟩ := ha
  refine ⟨_, pt_not pa, fun w δ σ Q o s h => ?_⟩
  refine qa w δ σ _ o s (h.bind fun d1 w1 v1 l1 o1 r1 h1 => ?_)
  cases (show d1 = v1 from r1)
  exact h1 w1 _ rfl (.refl _) o1 rfl
/-- as values -/
theorem EV.one {op} (ha : EV T W X a f) : EV T W X (.BoolOp op [a] pos) f := let ⟨t, p, q⟩ := ha; ⟨t, pe_one p, q⟩
theorem EV.and {rest : List Expr} (ha : EV T W X a f) (hb : EV T W X (.BoolOp .And (b :: rest) pos) g) : EV T W X (.BoolOp .And (a :: b :: rest) pos) (dAnd f g) := by
  obtain ⟨ta, pa, qa⟩ := ha
  obtain ⟨tb, pb, qb⟩ := hb
  refine ⟨_, pe_and pa pb, fun w δ σ Q o s h => ?_⟩
  refine qa w δ σ _ o s (h.bind fun d1 w1 v1 l1 o1 r1 h1 => ?_)
  cases d1 with
  | bl k =>
    unfold RelD at r1
    subst r1
    refine ⟨k, rfl, ?_⟩
    cases k with
    | true => rw [if_pos rfl]; exact qb w1 δ σ _ o1 (s.mono l1) h1
    | false => rw [if_neg Bool.false_ne_true]; exact h1 w1 (.bl false) rfl (.refl _) o1 (by unfold RelD; rfl)
  | _ => exact h1.elim
theorem EV.or {rest : List Expr} (ha : EV T W X a f) (hb : EV T W X (.BoolOp .Or (b :: rest) pos) g) : EV T W X (.BoolOp .Or (a :: b :: rest) pos) (dOr f g) := by
  obtain ⟨ta, pa, qa⟩ := ha
  obtain ⟨tb, pb, qb⟩ := hb
  refine ⟨_, pe_or pa pb, fun w δ σ Q o s h => ?_⟩
  refine qa w δ σ _ o s (h.bind fun d1 w1 v1 l1 o1 r1 h1 => ?_)
  cases d1 with
  | bl k =>
    unfold RelD at r1
    subst r1
    refine ⟨k, rfl, ?_⟩
    cases k with
    | true => rw [if_pos rfl]; exact h1 w1 (.bl true) rfl (.refl _) o1 (by unfold RelD; rfl)
    | false => rw [if_neg Bool.false_ne_true]; exact qb w1 δ σ _ o1 (s.mono l1) h1
  | _ => exact h1.elim
theorem EV.not (ha : EV T W X a f) : EV T W X (.UnaryOp .Not a pos) (dNot f) := by
  obtain ⟨ta, pa, qa⟩ := ha
  refine ⟨_, pe_not pa, fun w δ σ Q o s h => ?_⟩
  refine qa w δ σ _ o s (h.bind fun d1 w1 v1 l1 o1 r1 h1 => ?_)
  cases d1 with
  | bl k => unfold RelD at r1; subst r1; exact ⟨k, rfl, h1 w1 _ rfl (.refl _) o1 (by unfold RelD; rfl)⟩
  | _ => exact h1.elim
theorem EV.ite (hc : ET T W X c c0) (ha : EV T W X a f) (hb : EV T W X b g) : EV T W X (.IfExp c a b pos) (dIf c0 f g) := by
  obtain ⟨tc, pc, qc⟩ := hc
  obtain ⟨ta, pa, qa⟩ := ha
  obtain ⟨tb, pb, qb⟩ := hb
  refine ⟨_, pe_ifExp pc pa pb, fun w δ σ Q o s h => ?_⟩
  refine qc w δ σ _ o s (h.bind fun d1 w1 v1 l1 o1 r1 h1 => ?_)
  cases (show d1 = v1 from r1)
  cases d1 with
  | true => rw [if_pos rfl]; exact qa w1 δ σ _ o1 (s.mono l1) h1
  | false => rw [if_neg Bool.false_ne_true]; exact qb w1 δ σ _ o1 (s.mono l1) h1
/-! arguments, displays -/
theorem EA.nil : EA T W X [] aNil := ⟨_, pa_nil, fun w δ σ Q o s h => h w [] rfl (.refl _) o .nil⟩
theorem EA.cons (ha : EV T W X e f) (hr : EA T W X es ga) (hs : starEach (e :: es) X.env = (false, eval e X.env) :: starEach es X.env) : EA T W X (e :: es) (aCons f ga) := by
  obtain ⟨ta, pa, qa⟩ := ha
  obtain ⟨tb, pb, qb⟩ := hr
  refine ⟨_, pa_cons pa pb hs, fun w δ σ Q o s h => ?_⟩
  refine qa w δ σ _ o s (h.bind fun d1 w1 v1 l1 o1 r1 h1 => ?_)
  refine qb w1 δ σ _ o1 (s.mono l1) (h1.bind fun d2 w2 v2 l2 o2 r2 h2 => ?_)
  exact h2 w2 _ rfl (.refl _) o2 (.cons (RelD.mono l2 _ _ r1) r2)
theorem EV.tup {k} (h : EA T W X es ga) : EV T W X (.Tuple es k pos) (dTup ga) := by
  obtain ⟨ta, pa, qa⟩ := h
  refine ⟨_, pe_tup pa, fun w δ σ Q o s h => ?_⟩
  refine qa w δ σ _ o s (h.bind fun d1 w1 v1 l1 o1 r1 h1 => ?_)
  split at h1
  · rename_i hz
    refine ⟨by rw [r1.length]; exact hz, PostV.tup (R := rc T X) (l := d1) (fun w2 v e l o r => h1 w2 v e l o r) o1 r1⟩
  · exact h1.elim
theorem EV.lst (h : EA T W X es ga) : EV T W X (.List es pos) (dLst ga) := by
  obtain ⟨ta, pa, qa⟩ := h
  refine ⟨_, pe_lst pa, fun w δ σ Q o s h => ?_⟩
  refine qa w δ σ _ o s (h.bind fun d1 w1 v1 l1 o1 r1 h1 => ?_)
  split at h1
  · rename_i hz
    refine ⟨by rw [r1.length]; exact hz, PostV.lst (R := rc T X) (l := d1) (fun w2 v e l o r => h1 w2 v e l o r) o1 r1⟩
  · exact h1.elim
/-- a call of a built-in by values -/
def BlOk (T : TB) (X : Cx) (op : List D → Mem → OV) (r : List V → Hp → VK → Prop) : Prop :=
  ∀ w l xs Q, w.Ok (rc T X) → RelL (rc T X) w l xs → PostV (rc T X) w Q (op l w.M) → r xs w.H Q
theorem EV.callB {id : String} {r : List V → Hp → VK → Prop} {dop : List D → Mem → OV} {p : Pos} (hc : CallR X (.builtin id) r) (hk : BlOk T X dop r) (hg : Gl X x) (hm : X.mg x = none) (hv : bootBuiltins x = some (.builtin id)) (ha : EA T W X (e :: es) ga)
    (hn : x ≠ "__name__") (hdb : (x == ("__debug__" : Str)) = false) (he : starEach (e :: es) X.env = (false, eval e X.env) :: starEach es X.env) (hpl : (backTo pos (starEach es X.env)).any (·.1) = false) : EV T W X (.Call (.Name x p) (e :: es) [] pos) (dBlt dop ga) := by
  obtain ⟨ta, pa, qa⟩ := ha
  refine ⟨_, pe_callB hc hg hm hv pa hn hdb he hpl, fun w δ σ Q o s h => ?_⟩
  exact qa w δ σ _ o s (h.bind fun d1 w1 v1 l1 o1 r1 h1 => hk w1 d1 v1 Q o1 r1 (post_ofV h1))
theorem EV.callTy {id : String} {r : List V → Hp → VK → Prop} {dop : List D → Mem → OV} {p : Pos} (hc : CallR X (.type id) r) (hk : BlOk T X dop r) (hg : Gl X x) (hm : X.mg x = none) (hv : bootBuiltins x = some (.type id)) (ha : EA T W X (e :: es) ga)
    (hn : x ≠ "__name__") (hdb : (x == ("__debug__" : Str)) = false) (he : starEach (e :: es) X.env = (false, eval e X.env) :: starEach es X.env) (hpl : (backTo pos (starEach es X.env)).any (·.1) = false) : EV T W X (.Call (.Name x p) (e :: es) [] pos) (dBlt dop ga) := by
  obtain ⟨ta, pa, qa⟩ := ha
  refine ⟨_, pe_callTy hc hg hm hv pa hn hdb he hpl, fun w δ σ Q o s h => ?_⟩
  exact qa w δ σ _ o s (h.bind fun d1 w1 v1 l1 o1 r1 h1 => hk w1 d1 v1 Q o1 r1 (post_ofV h1))
end
end Pd
namespace Pd
open PySem PySem.Spec PyProof.Rows L2
theorem tmul_same (l : Addr) (its : Array Value) (n : Nat) (dd : Option Addr) (sl : Array (Option Value)) (x : Int) (u : Tok) (z0 : (decide (x < -(2 ^ 63)) || decide (x ≥ 2 ^ 63)) = false) (z1 : (its.isEmpty || x == 1) = true) :
    Meets (Builtin.«tuple.__mul__» ⟨[.ref l, .int x u], []⟩) (fun _ R s => s.heap.get? l = some { cls := .type "tuple", dict := dd, data := .seq its n, slots := sl } ∧ R (.ok (.ret (Value.ref l))) s) :=
  .of_wp fun prog w A R s h => by
    obtain ⟨hp, g, d, tk, os⟩ := s
    obtain ⟨hl, h⟩ := h
    have f1 := AutoSeq1.idx_int
    wp_walk using wpAny_loadPart' hl
    repeat (first
      | (refine wpAny_ite_false (decide_eq_false (by rw [z0]; exact Bool.false_ne_true)) ?_; wp_walk using wpAny_loadPart' hl)
      | (refine wpAny_ite_true (decide_eq_true z1) ?_; wp_walk using wpAny_loadPart' hl))
    exact ⟨_, rfl, h⟩
theorem tmul_none (l : Addr) (its : Array Value) (n : Nat) (dd : Option Addr) (sl : Array (Option Value)) (x : Int) (u : Tok) (z0 : (decide (x < -(2 ^ 63)) || decide (x ≥ 2 ^ 63)) = false) (z1 : (its.isEmpty || x == 1) = false) (z2 : (decide (x ≤ 0) || its.isEmpty) = true) :
    Meets (Builtin.«tuple.__mul__» ⟨[.ref l, .int x u], []⟩) (fun _ R s => s.heap.get? l = some { cls := .type "tuple", dict := dd, data := .seq its n, slots := sl } ∧
      R (.ok (.ret (Value.ref s.heap.objs.size))) { s with heap := s.heap.push { cls := Value.type "tuple", data := Data.seq #[] }, toks := s.toks }) :=
  .of_wp fun prog w A R s h => by
    obtain ⟨hp, g, d, tk, os⟩ := s
    obtain ⟨hl, h⟩ := h
    have f1 := AutoSeq1.idx_int
    wp_walk using wpAny_loadPart' hl
    repeat (first
      | (refine wpAny_ite_false (decide_eq_false (by rw [z0]; exact Bool.false_ne_true)) ?_; wp_walk using wpAny_loadPart' hl)
      | (refine wpAny_ite_false (decide_eq_false (by rw [z1]; exact Bool.false_ne_true)) ?_; wp_walk using wpAny_loadPart' hl)
      | (refine wpAny_ite_true (decide_eq_true z2) ?_; wp_walk using wpAny_loadPart' hl))
    exact ⟨_, rfl, h⟩
def rRepF (K : PySem.W.Frag) : R2 := fun x y H Q => ∃ l k xs, x = .ref l ∧ y = .int k ∧ SqT K H l xs ∧ -(2 ^ 63) ≤ k ∧ k < 2 ^ 63 ∧ xs.length * k.toNat ≤ 1000000 ∧
  ((xs = [] ∨ k = 1) → Q (.ref l) H) ∧ (¬ (xs = [] ∨ k = 1) → ∀ p, H p = none → Q (.ref p) (upd H p (.tup (List.replicate k.toNat xs).flatten)))
theorem op_repF {X : Cx} : OpR X (binaryOp .Mult) (rRepF X.K) := by
  intro pins s σ H x y v u Q I rx ry hh
  obtain ⟨l, k, xs, rfl, rfl, hT, k1, k2, kz, q1, q2⟩ := hh
  cases rx
  obtain ⟨t, rfl⟩ := ry
  obtain ⟨its, r, ⟨⟨cls, dd, data, sl⟩, ho, hc, n, hd⟩, hs⟩ := I.tuple hT
  simp only at hc hd
  subst hc hd
  have le : its.length = xs.length := r.length.symm
  have z0 : (decide (k < -(2 ^ 63)) || decide (k ≥ 2 ^ 63)) = false := by
    rw [decide_eq_false (by omega), decide_eq_false (by omega)] <;> rfl
  have go : ∀ {Q' : Value → Shared → Prop}, wpAny (model X.prog X.w) X.A (call (.builtin "tuple.__mul__") [.ref l, .int k t]) Q' X.xe s → wpAny (model X.prog X.w) X.A (binaryOp .Mult (.ref l) (.int k t)) Q' X.xe s := fun {Q'} h =>
    wpAny_binaryOp_repeat_ref (U := "int") (T := "tuple") (by decide) ⟨_, ho, rfl⟩ (fun s' => typeIs_int s' k t) noFill_tuple_mul F.fills_int_mul F.slot_int_rmul repeat_tuple F.slot_int_index.lookup
      (call_meets F.slot_int_rmul (typeIs_int s k t) F.entry_int_rmul (F.args_int_rmul_2 _ _) (int_rmul_tuple k t l its.toArray n dd sl) ⟨ho, rfl, ⟨_, ho, rfl⟩, h⟩)
  have ei : its.toArray.isEmpty = xs.isEmpty := by
    cases its with
    | nil => cases xs with
      | nil => rfl
      | cons a b => simp at le
    | cons a b => cases xs with
      | nil => simp at le
      | cons a b => rfl
  have slot := PySem.F.slot_tuple_mul
  by_cases c : xs = [] ∨ k = 1
  · have z1 : (its.toArray.isEmpty || k == 1) = true := by
      rw [ei]
      rcases c with c | c
      · subst c; rfl
      · subst c; simp
    exact go (call_meets slot ⟨_, ho, rfl⟩ F.entry_tuple_mul (F.args_tuple_mul_2 _ _) (tmul_same l its.toArray n dd sl k t z0 z1) ⟨ho, .ref l, H, I, rfl, q1 c⟩)
  · have c' := not_or.mp c
    have hx : xs.isEmpty = false := by
      cases xs with
      | nil => exact absurd rfl c'.1
      | cons a b => rfl
    have z1 : (its.toArray.isEmpty || k == 1) = false := by
      rw [ei, hx, Bool.false_or]
      exact beq_eq_false_iff_ne.mpr c'.2
    by_cases hk : k ≤ 0
    · have z2 : (decide (k ≤ 0) || its.toArray.isEmpty) = true := by rw [decide_eq_true hk]; rfl
      refine go (call_meets slot ⟨_, ho, rfl⟩ F.entry_tuple_mul (F.args_tuple_mul_2 _ _) (tmul_none l its.toArray n dd sl k t z0 z1 z2) ⟨ho, ?_⟩)
      have e0 : k.toNat = 0 := by omega
      have q := q2 c s.heap.objs.size (I.hok.fresh (Nat.le_refl _))
      rw [e0] at q
      refine ⟨.ref s.heap.objs.size, _, I.laid (t' := s.toks) (o := .tup []) (fun b ob q => Heap.get?_push_of_some _ q) (Nat.le_refl _) ?_, rfl, q⟩
      exact ⟨Nat.zero_le _, [], .nil, IsTup.new _ _⟩
    · have hs0 : its.toArray.size = xs.length := by rw [List.size_toArray, le]
      have ek : ((k.toNat : Nat) : Int) = k := by omega
      have em : ((its.toArray.size : Nat) : Int) * k ≤ 1000000 := by
        rw [hs0, ← ek, ← Int.natCast_mul]; omega
      have fl : (List.replicate k.toNat its).flatten.length ≤ sizeLine := by
        rw [PyProof.Rows.lm_len_rep_flat, le, sizeLine_eq, Nat.mul_comm]; omega
      have z2 : (decide (k ≤ 0) || its.toArray.isEmpty) = false := by
        rw [ei, hx, Bool.or_false]; exact decide_eq_false hk
      have z4 : Builtin.Tuple.tupleTooMany (((its.toArray.size : Nat) : Int) * k) = false := by
        unfold Builtin.Tuple.tupleTooMany
        rw [sizeLine_eq]
        exact decide_eq_false (by omega)
      refine go (call_meets slot ⟨_, ho, rfl⟩ F.entry_tuple_mul (F.args_tuple_mul_2 _ _) (tuple_mulW l its.toArray n dd sl k t z0 z1 z2 (by omega) z4 (by rw [size_rep, List.size_toArray]; exact fl)) ⟨ho, ?_⟩)
      rw [size_rep]
      refine ⟨.ref s.heap.objs.size, _, I.laid (t' := s.toks) (o := .tup (List.replicate k.toNat xs).flatten) (fun b ob q => Heap.get?_push_of_some _ q) (Nat.le_refl _) ?_, rfl, q2 c _ (I.hok.fresh (Nat.le_refl _))⟩
      exact ⟨by rw [PyProof.Rows.lm_len_rep_flat, sizeLine_eq, Nat.mul_comm]; omega, _, r.rep k.toNat, IsTup.new _ _⟩
end Pd
namespace Pd
open PySem PySem.Spec PyProof.Rows L2
/-! ### the store read -/
def seqOf (M : Mem) (n : Nat) : Option (List D) := match M[n]? with
  | some (.lst l) => some l
  | some (.fz l) => some l
  | _ => none
def lstOf (M : Mem) (n : Nat) : Option (List D) := match M[n]? with
  | some (.lst l) => some l
  | _ => none
section
variable {R : RC} {w : Wd} {n : Nat} {l : List D}
theorem Wd.Ok.lst (o : w.Ok R) (h : lstOf w.M n = some l) : n < w.M.length ∧ w.M[n]? = some (.lst l) ∧ ∃ xs, w.H (w.ρ n) = some (.lst xs) ∧ RelL R w l xs := by
  unfold lstOf at h
  split at h
  · rename_i l' e
    cases h
    obtain ⟨u, h1, ⟨xs, e2, r⟩, _⟩ := o.at_ n _ e
    subst e2
    exact ⟨o.lt e, e, xs, h1, r⟩
  · cases h
theorem Wd.Ok.seq (o : w.Ok R) (h : seqOf w.M n = some l) : n < w.M.length ∧ ∃ xs, SqL R.K w.H (w.ρ n) xs ∧ RelL R w l xs ∧ ((w.H (w.ρ n) = some (.lst xs)) ∨ ∃ ob, w.H (w.ρ n) = some (.frz ob (.lst xs))) := by
  unfold seqOf at h
  split at h
  · rename_i l' e
    cases h
    obtain ⟨u, h1, ⟨xs, e2, r⟩, _⟩ := o.at_ n _ e
    subst e2
    exact ⟨o.lt e, xs, .inl (.inl h1), r, .inl h1⟩
  · rename_i l' e
    cases h
    obtain ⟨u, h1, ⟨ob, xs, e2, r⟩, _⟩ := o.at_ n _ e
    subst e2
    exact ⟨o.lt e, xs, .inl (.inr ⟨ob, h1⟩), r, .inr ⟨ob, h1⟩⟩
  · cases h
end
theorem RelD.ref {R : RC} {w : Wd} {n : Nat} {v : V} (r : RelD R w (.ref n) v) : n < w.M.length ∧ v = .ref (w.ρ n) := by unfold RelD at r; exact r
theorem RelD.mkInt {R : RC} {w : Wd} {i : Int} : RelD R w (.int i) (.int i) := by unfold RelD; rfl
theorem RelD.mkBl {R : RC} {w : Wd} {i : Bool} : RelD R w (.bl i) (.bl i) := by unfold RelD; rfl
theorem RelD.mkStr {R : RC} {w : Wd} {i : Str} : RelD R w (.str i) (.str i) := by unfold RelD; rfl
theorem RelD.mkNon {R : RC} {w : Wd} : RelD R w .non .non := by unfold RelD; rfl
theorem RelL.ints {R : RC} {w : Wd} : ∀ {ns : List Int} {xs : List V}, RelL R w (ns.map D.int) xs → xs = ns.map V.int
  | [], _, r => by unfold RelL at r; exact r
  | n :: ns, _, r => by
    rw [List.map_cons] at r
    unfold RelL at r
    obtain ⟨x, q, e, a, b⟩ := r
    subst e
    unfold RelD at a
    subst a
    rw [RelL.ints b, List.map_cons]
theorem RelL.mkInts {R : RC} {w : Wd} : ∀ (ns : List Int), RelL R w (ns.map D.int) (ns.map V.int)
  | [] => .nil
  | n :: ns => .cons .mkInt (RelL.mkInts ns)
theorem RelL.bls {R : RC} {w : Wd} : ∀ {ns : List Bool} {xs : List V}, RelL R w (ns.map D.bl) xs → xs = ns.map V.bl
  | [], _, r => by unfold RelL at r; exact r
  | n :: ns, _, r => by
    rw [List.map_cons] at r
    unfold RelL at r
    obtain ⟨x, q, e, a, b⟩ := r
    subst e
    unfold RelD at a
    subst a
    rw [RelL.bls b, List.map_cons]
/-- a list of ints, bools -/
def intsD : List D → Option (List Int)
  | [] => some []
  | .int i :: r => (intsD r).map (i :: ·)
  | _ => none
theorem intsD_map : ∀ {l : List D} {ns : List Int}, intsD l = some ns → l = ns.map D.int
  | [], ns, h => by cases h; rfl
  | d :: r, ns, h => by
    cases d with
    | int i =>
      unfold intsD at h
      cases e : intsD r with
      | none => rw [e] at h; cases h
      | some m =>
        rw [e] at h
        cases h
        rw [intsD_map e, List.map_cons]
    | _ => cases h
theorem intsD_of : ∀ (ns : List Int), intsD (ns.map D.int) = some ns
  | [] => rfl
  | n :: r => by rw [List.map_cons]; unfold intsD; rw [intsD_of r]; rfl
def blsD : List D → Option (List Bool)
  | [] => some []
  | .bl i :: r => (blsD r).map (i :: ·)
  | _ => none
theorem blsD_map : ∀ {l : List D} {ns : List Bool}, blsD l = some ns → l = ns.map D.bl
  | [], ns, h => by cases h; rfl
  | d :: r, ns, h => by
    cases d with
    | bl i =>
      unfold blsD at h
      cases e : blsD r with
      | none => rw [e] at h; cases h
      | some m =>
        rw [e] at h
        cases h
        rw [blsD_map e, List.map_cons]
    | _ => cases h
theorem blsD_of : ∀ (ns : List Bool), blsD (ns.map D.bl) = some ns
  | [] => rfl
  | n :: r => by rw [List.map_cons]; unfold blsD; rw [blsD_of r]; rfl
/-! ### data, for == -/
def pyL (f : D → Option PyData) : List D → Option (List PyData)
  | [] => some []
  | d :: r => match f d, pyL f r with
    | some p, some q => some (p :: q)
    | _, _ => none
def pyD (M : Mem) : Nat → D → Option PyData
  | 0, _ => none
  | _ + 1, .non => some .none
  | _ + 1, .bl b => some (.bool b)
  | _ + 1, .int i => some (.int i)
  | _ + 1, .str s => some (.str s)
  | n + 1, .tup l => (pyL (pyD M n) l).map .tuple
  | n + 1, .ref k => match seqOf M k with
    | some l => (pyL (pyD M n) l).map .list
    | none => none
  | _ + 1, .gl _ => none
  | _ + 1, .ty _ => none
  | _ + 1, .exn _ _ => none
theorem pyL_ok {R : RC} {w : Wd} {f : D → Option PyData} (hf : ∀ d p v, f d = some p → RelD R w d v → Dp R.K w.H v p) : ∀ (l : List D) (ps : List PyData) (xs : List V), pyL f l = some ps → RelL R w l xs → DpAll R.K w.H xs ps
  | [], ps, xs, h, r => by
    unfold RelL at r
    subst r
    cases h
    exact .nil
  | d :: l, ps, xs, h, r => by
    unfold RelL at r
    obtain ⟨x, q, e, a, b⟩ := r
    subst e
    unfold pyL at h
    split at h
    · rename_i p q' e1 e2
      cases h
      exact .cons (hf d p x e1 a) (pyL_ok hf l q' q e2 b)
    · cases h
theorem pyD_ok {R : RC} {w : Wd} (o : w.Ok R) : ∀ (n : Nat) (d : D) (p : PyData) (v : V), pyD w.M n d = some p → RelD R w d v → Dp R.K w.H v p
  | 0, _, _, _, h, _ => by unfold pyD at h; cases h
  | n + 1, .non, p, v, h, r => by unfold pyD at h; cases h; unfold RelD at r; subst r; exact .non
  | n + 1, .bl b, p, v, h, r => by unfold pyD at h; cases h; unfold RelD at r; subst r; exact .bl b
  | n + 1, .int b, p, v, h, r => by unfold pyD at h; cases h; unfold RelD at r; subst r; exact .int b
  | n + 1, .str b, p, v, h, r => by unfold pyD at h; cases h; unfold RelD at r; subst r; exact .str b
  | n + 1, .gl _, _, _, h, _ => by unfold pyD at h; cases h
  | n + 1, .ty _, _, _, h, _ => by unfold pyD at h; cases h
  | n + 1, .exn _ _, _, _, h, _ => by unfold pyD at h; cases h
  | n + 1, .tup l, p, v, h, r => by
    unfold pyD at h
    cases e : pyL (pyD w.M n) l with
    | none => rw [e] at h; cases h
    | some ps =>
      rw [e] at h
      cases h
      unfold RelD at r
      obtain ⟨a, xs, e2, s, t⟩ := r
      subst e2
      exact .tup s (pyL_ok (pyD_ok o n) l ps xs e t)
  | n + 1, .ref k, p, v, h, r => by
    unfold pyD at h
    cases e0 : seqOf w.M k with
    | none => rw [e0] at h; cases h
    | some l =>
      rw [e0] at h
      cases e : pyL (pyD w.M n) l with
      | none => simp only [e] at h; cases h
      | some ps =>
        simp only [e] at h
        cases h
        obtain ⟨_, xs, s, t, _⟩ := o.seq e0
        obtain ⟨_, e2⟩ := r.ref
        subst e2
        exact .lst s (pyL_ok (pyD_ok o n) l ps xs e t)
def FU : Nat := 20
def dEqB (M : Mem) (a b : D) : Option Bool := match pyD M FU a, pyD M FU b with
  | some p, some q => if SeqAt.shaped p && SeqAt.shaped q then some (PyData.eqv p q) else none
  | _, _ => none
def oEq (a b : D) (M : Mem) : OV := (dEqB M a b).map fun k => (.bl k, M)
def oNe (a b : D) (M : Mem) : OV := (dEqB M a b).map fun k => (.bl (!k), M)
theorem dEqB_ok {R : RC} {w : Wd} (o : w.Ok R) {a b : D} {k : Bool} {x y : V} (h : dEqB w.M a b = some k) (ra : RelD R w a x) (rb : RelD R w b y) :
    ∃ p q, Dp R.K w.H x p ∧ Dp R.K w.H y q ∧ SeqAt.shaped p = true ∧ SeqAt.shaped q = true ∧ PyData.eqv p q = k := by
  unfold dEqB at h
  split at h
  · rename_i p q e1 e2
    split at h
    · rename_i hs
      cases h
      have hs' := Bool.and_eq_true_iff.mp hs
      exact ⟨p, q, pyD_ok o _ a p x e1 ra, pyD_ok o _ b q y e2 rb, hs'.1, hs'.2, rfl⟩
    · cases h
  · cases h
section
variable {T : TB} {X : Cx}
theorem ok_eq : OpOk T X oEq (rEqD X.K) := fun w a b x y Q o ra rb h => by
  unfold oEq at h
  cases e : dEqB w.M a b with
  | none => rw [e] at h; exact h.elim
  | some k =>
    rw [e] at h
    obtain ⟨p, q, d1, d2, s1, s2, e3⟩ := dEqB_ok o e ra rb
    exact ⟨p, q, d1, d2, s1, s2, by rw [e3]; exact PostV.val h o .mkBl⟩
theorem ok_ne : OpOk T X oNe (rNeD X.K) := fun w a b x y Q o ra rb h => by
  unfold oNe at h
  cases e : dEqB w.M a b with
  | none => rw [e] at h; exact h.elim
  | some k =>
    rw [e] at h
    obtain ⟨p, q, d1, d2, s1, s2, e3⟩ := dEqB_ok o e ra rb
    exact ⟨p, q, d1, d2, s1, s2, by rw [e3]; exact PostV.val h o .mkBl⟩
/-! ### ints -/
def oInt (g : Int → Int → Option D) (a b : D) (M : Mem) : OV := match a, b with
  | .int i, .int j => (g i j).map fun d => (d, M)
  | _, _ => none
theorem oInt_ok {g : Int → Int → Option D} {C : Int → Int → Prop} {gv : Int → Int → V} (hg : ∀ i j d, g i j = some d → C i j ∧ ∀ R w, RelD R w d (gv i j)) : OpOk T X (oInt g) (rI C gv) := fun w a b x y Q o ra rb h => by
  cases a with
  | int i =>
    cases b with
    | int j =>
      unfold RelD at ra rb
      subst ra
      subst rb
      have h' : PostV (rc T X) w Q ((g i j).map fun d => (d, w.M)) := h
      cases e : g i j with
      | none => rw [e] at h'; exact h'.elim
      | some d =>
        rw [e] at h'
        exact ⟨i, j, rfl, rfl, (hg i j d e).1, PostV.val h' o ((hg i j d e).2 _ _)⟩
    | _ => exact h.elim
  | _ => exact h.elim
theorem rI0_of {f : Value → Value → Sem Value} {g : Int → Int → V} (h : OpR X f (rI0 g)) : OpR X f (rI (fun _ _ => True) g) := fun pins s σ H x y v u Q I r1 r2 ⟨i, j, e1, e2, _, q⟩ => h pins s σ H x y v u Q I r1 r2 ⟨i, j, e1, e2, q⟩
def oSub : D → D → Mem → OV := oInt fun i j => some (.int (i - j))
def oLt : D → D → Mem → OV := oInt fun i j => some (.bl (decide (i < j)))
def oLe : D → D → Mem → OV := oInt fun i j => some (.bl (decide (i ≤ j)))
def oGt : D → D → Mem → OV := oInt fun i j => some (.bl (decide (j < i)))
def oGe : D → D → Mem → OV := oInt fun i j => some (.bl (decide (j ≤ i)))
def oMod : D → D → Mem → OV := oInt fun i j => if 0 < j then some (.int (i % j)) else none
def oFdiv : D → D → Mem → OV := oInt fun i j => if 0 < j ∧ j.natAbs.log2 < 9000 then some (.int (i / j)) else none
def oPow : D → D → Mem → OV := oInt fun i j => if 0 ≤ j ∧ j ≤ 1000000 ∧ i.natAbs < 2 ^ 64 then some (.int (i ^ j.toNat)) else none
theorem ok_sub : OpOk T X oSub (rI (fun _ _ => True) fun i j => .int (i - j)) := oInt_ok fun i j d e => by cases e; exact ⟨trivial, fun _ _ => .mkInt⟩
theorem ok_lt : OpOk T X oLt (rI (fun _ _ => True) fun i j => .bl (decide (i < j))) := oInt_ok fun i j d e => by cases e; exact ⟨trivial, fun _ _ => .mkBl⟩
theorem ok_le : OpOk T X oLe (rI (fun _ _ => True) fun i j => .bl (decide (i ≤ j))) := oInt_ok fun i j d e => by cases e; exact ⟨trivial, fun _ _ => .mkBl⟩
theorem ok_gt : OpOk T X oGt (rI (fun _ _ => True) fun i j => .bl (decide (j < i))) := oInt_ok fun i j d e => by cases e; exact ⟨trivial, fun _ _ => .mkBl⟩
theorem ok_ge : OpOk T X oGe (rI (fun _ _ => True) fun i j => .bl (decide (j ≤ i))) := oInt_ok fun i j d e => by cases e; exact ⟨trivial, fun _ _ => .mkBl⟩
theorem ok_mod : OpOk T X oMod (rI (fun _ j => 0 < j) fun i j => .int (i % j)) := oInt_ok fun i j d e => by
  split at e
  · cases e; exact ⟨by assumption, fun _ _ => .mkInt⟩
  · cases e
theorem ok_fdiv : OpOk T X oFdiv (rI CDivW fun i j => .int (i / j)) := oInt_ok fun i j d e => by
  split at e
  · cases e; exact ⟨by assumption, fun _ _ => .mkInt⟩
  · cases e
theorem ok_pow : OpOk T X oPow (rI CPow fun i j => .int (i ^ j.toNat)) := oInt_ok fun i j d e => by
  split at e
  · cases e; exact ⟨by assumption, fun _ _ => .mkInt⟩
  · cases e
/-! ### +, * -/
theorem OpOk.or {op : D → D → Mem → OV} {r r' : R2} (h : ∀ w a b x y Q, w.Ok (rc T X) → RelD (rc T X) w a x → RelD (rc T X) w b y → PostV (rc T X) w Q (op a b w.M) → r x y w.H Q ∨ r' x y w.H Q) :
    OpOk T X op (fun x y H Q => r x y H Q ∨ r' x y H Q) := h
def oAdd (a b : D) (M : Mem) : OV := match a, b with
  | .int i, .int j => some (.int (i + j), M)
  | .int i, .bl k => some (.int (i + (if k then 1 else 0)), M)
  | .str x, .str y => if x.length + y.length ≤ sizeLine then some (.str (x ++ y), M) else none
  | .tup l, .tup m => if l.length + m.length ≤ sizeLine then some (.tup (l ++ m), M) else none
  | .ref i, .ref j => match lstOf M i, lstOf M j with
    | some l, some m => if l.length + m.length ≤ sizeLine then some (.ref M.length, M ++ [.lst (l ++ m)]) else none
    | _, _ => none
  | _, _ => none
abbrev rAddS : R2 := fun x y H Q => ∃ i j, x = .str i ∧ y = .str j ∧ i.length + j.length ≤ sizeLine ∧ Q (.str (i ++ j)) H
abbrev rAddB : R2 := fun x y H Q => ∃ i k, x = .int i ∧ y = .bl k ∧ Q (.int (i + b2i k)) H
def rPlus (K : PySem.W.Frag) : R2 := fun x y H Q => rI0 (fun i j => .int (i + j)) x y H Q ∨ rAddB x y H Q ∨ rAddS x y H Q ∨ rCatA K x y H Q ∨ rCat x y H Q
theorem op_plus : OpR X (binaryOp .Add) (rPlus X.K) := op_add.or (op_add_ib.or (op_add_str.or (op_catA.or op_cat)))
theorem RelD.tupI {R : RC} {w : Wd} {l : List D} {v : V} (r : RelD R w (.tup l) v) : ∃ a xs, v = .ref a ∧ SqT R.K w.H a xs ∧ RelL R w l xs := by unfold RelD at r; exact r
theorem ok_add : OpOk T X oAdd (rPlus X.K) := fun w a b x y Q o ra rb h => by
  cases a with
  | int i =>
    cases b with
    | int j =>
      unfold RelD at ra rb
      subst ra
      subst rb
      exact .inl ⟨i, j, rfl, rfl, PostV.val h o .mkInt⟩
    | bl k =>
      unfold RelD at ra rb
      subst ra
      subst rb
      exact .inr (.inl ⟨i, k, rfl, rfl, PostV.val h o (by cases k <;> exact .mkInt)⟩)
    | _ => exact h.elim
  | str i =>
    cases b with
    | str j =>
      unfold RelD at ra rb
      subst ra
      subst rb
      have h' : PostV (rc T X) w Q (if i.length + j.length ≤ sizeLine then some (.str (i ++ j), w.M) else none) := h
      split at h'
      · exact .inr (.inr (.inl ⟨i, j, rfl, rfl, by assumption, PostV.val h' o .mkStr⟩))
      · exact h'.elim
    | _ => exact h.elim
  | tup l =>
    cases b with
    | tup m =>
      obtain ⟨p, xs, e1, s1, r1⟩ := ra.tupI
      obtain ⟨q, ys, e2, s2, r2⟩ := rb.tupI
      subst e1
      subst e2
      have h' : PostV (rc T X) w Q (if l.length + m.length ≤ sizeLine then some (.tup (l ++ m), w.M) else none) := h
      split at h'
      · rename_i hz
        refine .inr (.inr (.inr (.inl ⟨p, q, xs, ys, rfl, rfl, s1, s2, by rw [r1.length, r2.length]; exact hz, fun e => ?_, fun _ e => ?_, fun _ _ => PostV.tup h' o (r1.app r2)⟩)))
        · subst e
          have hl : l = [] := List.eq_nil_of_length_eq_zero (by rw [← r1.length]; rfl)
          subst hl
          exact PostV.val h' o rb
        · subst e
          have hm : m = [] := List.eq_nil_of_length_eq_zero (by rw [← r2.length]; rfl)
          subst hm
          rw [List.append_nil] at h'
          exact PostV.val h' o ra
      · exact h'.elim
    | _ => exact h.elim
  | ref i =>
    cases b with
    | ref j =>
      obtain ⟨_, e1⟩ := ra.ref
      obtain ⟨_, e2⟩ := rb.ref
      subst e1
      subst e2
      have h' : PostV (rc T X) w Q (match lstOf w.M i, lstOf w.M j with
        | some l, some m => if l.length + m.length ≤ sizeLine then some (.ref w.M.length, w.M ++ [.lst (l ++ m)]) else none
        | _, _ => none) := h
      split at h'
      · rename_i l m c1 c2
        split at h'
        · rename_i hz
          obtain ⟨_, _, xs, s1, r1⟩ := o.lst c1
          obtain ⟨_, _, ys, s2, r2⟩ := o.lst c2
          exact .inr (.inr (.inr (.inr ⟨_, _, xs, ys, rfl, rfl, s1, s2, by rw [r1.length, r2.length]; exact hz, PostV.lst h' o (r1.app r2)⟩)))
        · exact h'.elim
      · exact h'.elim
    | _ => exact h.elim
  | _ => exact h.elim
def mulOk (i j : Int) : Bool := decide (-(2 ^ 64) < i ∧ i < 2 ^ 64) || decide (-(2 ^ 64) < j ∧ j < 2 ^ 64) || decide (i.natAbs.log2 + j.natAbs.log2 < 1000000)
def oMul (a b : D) (M : Mem) : OV := match a, b with
  | .int i, .int j => if mulOk i j = true then some (.int (i * j), M) else none
  | .tup l, .int k => if -(2 ^ 63) ≤ k ∧ k < 2 ^ 63 ∧ l.length * k.toNat ≤ 1000000 then some (.tup (List.replicate k.toNat l).flatten, M) else none
  | .ref i, .int k => match lstOf M i with
    | some l => if -(2 ^ 63) ≤ k ∧ k < 2 ^ 63 ∧ l.length * k.toNat ≤ sizeLine then some (.ref M.length, M ++ [.lst (List.replicate k.toNat l).flatten]) else none
    | none => none
  | _, _ => none
def rTimes (K : PySem.W.Frag) : R2 := fun x y H Q => rI CMul (fun i j => .int (i * j)) x y H Q ∨ rI CMulW (fun i j => .int (i * j)) x y H Q ∨ rRepF K x y H Q ∨ rRep x y H Q
theorem op_times : OpR X (binaryOp .Mult) (rTimes X.K) := op_mul.or (op_mulW.or (op_repF.or op_rep))
theorem RelL.repl {R : RC} {w : Wd} {l : List D} {xs : List V} (r : RelL R w l xs) : ∀ k : Nat, RelL R w (List.replicate k l).flatten (List.replicate k xs).flatten
  | 0 => .nil
  | k + 1 => by
    rw [List.replicate_succ, List.replicate_succ, List.flatten_cons, List.flatten_cons]
    exact r.app (RelL.repl r k)
theorem ok_mul : OpOk T X oMul (rTimes X.K) := fun w a b x y Q o ra rb h => by
  cases b with
  | int j =>
    unfold RelD at rb
    subst rb
    cases a with
    | int i =>
      unfold RelD at ra
      subst ra
      have h' : PostV (rc T X) w Q (if mulOk i j = true then some (.int (i * j), w.M) else none) := h
      split at h'
      · rename_i hm
        unfold mulOk at hm
        rcases Bool.or_eq_true_iff.mp hm with hm | hm
        · rcases Bool.or_eq_true_iff.mp hm with hm | hm
          · exact .inl ⟨i, j, rfl, rfl, .inl (of_decide_eq_true hm), PostV.val h' o .mkInt⟩
          · exact .inl ⟨i, j, rfl, rfl, .inr (of_decide_eq_true hm), PostV.val h' o .mkInt⟩
        · exact .inr (.inl ⟨i, j, rfl, rfl, (show i.natAbs.log2 + j.natAbs.log2 < 1000000 from of_decide_eq_true hm), PostV.val h' o .mkInt⟩)
      · exact h'.elim
    | tup l =>
      obtain ⟨p, xs, e1, s1, r1⟩ := ra.tupI
      subst e1
      have h' : PostV (rc T X) w Q (if -(2 ^ 63) ≤ j ∧ j < 2 ^ 63 ∧ l.length * j.toNat ≤ 1000000 then some (.tup (List.replicate j.toNat l).flatten, w.M) else none) := h
      split at h'
      · rename_i hz
        refine .inr (.inr (.inl ⟨p, j, xs, rfl, rfl, s1, hz.1, hz.2.1, by rw [r1.length]; exact hz.2.2, fun c => ?_, fun c => PostV.tup h' o (r1.repl _)⟩))
        have el : (List.replicate j.toNat l).flatten = l := by
          rcases c with c | c
          · have hl : l = [] := List.eq_nil_of_length_eq_zero (by rw [← r1.length, c]; rfl)
            subst hl
            induction j.toNat with
            | zero => rfl
            | succ k ih => rw [List.replicate_succ, List.flatten_cons, ih]; rfl
          · subst c
            show (List.replicate 1 l).flatten = l
            simp
        rw [el] at h'
        exact PostV.val h' o ra
      · exact h'.elim
    | ref i =>
      obtain ⟨_, e1⟩ := ra.ref
      subst e1
      have h' : PostV (rc T X) w Q (match lstOf w.M i with
        | some l => if -(2 ^ 63) ≤ j ∧ j < 2 ^ 63 ∧ l.length * j.toNat ≤ sizeLine then some (.ref w.M.length, w.M ++ [.lst (List.replicate j.toNat l).flatten]) else none
        | none => none) := h
      split at h'
      · rename_i l c1
        split at h'
        · rename_i hz
          obtain ⟨_, _, xs, s1, r1⟩ := o.lst c1
          exact .inr (.inr (.inr ⟨_, j, xs, rfl, rfl, s1, hz.1, hz.2.1, by rw [r1.length]; exact hz.2.2, PostV.lst h' o (r1.repl _)⟩))
        · exact h'.elim
      · exact h'.elim
    | _ => exact h.elim
  | _ => cases a <;> exact h.elim
/-! ### is None -/
def oIsN (a b : D) (M : Mem) : OV := match b with
  | .non => match a with
    | .non => some (.bl true, M)
    | .gl _ => none
    | _ => some (.bl false, M)
  | _ => none
def oNotN (a b : D) (M : Mem) : OV := match b with
  | .non => match a with
    | .non => some (.bl false, M)
    | .gl _ => none
    | _ => some (.bl true, M)
  | _ => none
theorem non_iff {R : RC} {w : Wd} {a : D} {v : V} (r : RelD R w a v) (hg : ∀ x, a ≠ .gl x) : decide (v = .non) = (match a with
    | .non => true
    | _ => false) := by
  cases a with
  | non => unfold RelD at r; subst r; rfl
  | bl b => unfold RelD at r; subst r; rfl
  | int b => unfold RelD at r; subst r; rfl
  | str b => unfold RelD at r; subst r; rfl
  | ty b => unfold RelD at r; subst r; rfl
  | exn b _ => unfold RelD at r; subst r; rfl
  | ref b => obtain ⟨_, e⟩ := r.ref; subst e; rfl
  | tup b => obtain ⟨_, _, e, _⟩ := r.tupI; subst e; rfl
  | gl b => exact absurd rfl (hg b)
theorem ok_isN : OpOk T X oIsN (fun x y H Q => y = .non ∧ Q (.bl (decide (x = .non))) H) := fun w a b x y Q o ra rb h => by
  cases b with
  | non =>
    unfold RelD at rb
    subst rb
    refine ⟨rfl, ?_⟩
    cases a with
    | gl z => exact h.elim
    | _ => rw [non_iff ra fun _ e => by cases e]; exact PostV.val h o .mkBl
  | _ => exact h.elim
theorem ok_notN : OpOk T X oNotN (fun x y H Q => y = .non ∧ Q (.bl (!decide (x = .non))) H) := fun w a b x y Q o ra rb h => by
  cases b with
  | non =>
    unfold RelD at rb
    subst rb
    refine ⟨rfl, ?_⟩
    cases a with
    | gl z => exact h.elim
    | _ => rw [non_iff ra fun _ e => by cases e]; exact PostV.val h o .mkBl
  | _ => exact h.elim
end
end Pd
namespace Pd
open PySem PySem.Spec PyProof.Rows L2
/-! ### min of a tuple of ints, max of three ints -/
section
variable {prog : Program} {w : World} {A : Around} {E : Value → Shared → Prop} {s : Shared} {l : Addr} {its : List Value} {ns : List Int} {Q : Value → Shared → Prop}
theorem iterT {items : Array Value} {Q : Value → Shared → Prop} (hl : s.heap.IsTuple l items)
    (h : ∀ s2 : Shared, s2 = { s with heap := s.heap.push { cls := .type "tuple_iterator", data := .fields #[.ref l, .int 0 0] } } → (s2.heap.IsTupleIter s.heap.objs.size l 0 ∧ s2.heap.IsTuple l items) → (∀ b ∈ [s.heap.objs.size, l], b < s2.heap.objs.size) → l ≠ s.heap.objs.size → Q (.ref s.heap.objs.size) s2) :
    wpAny (model prog w) A (pyIter (.ref l)) Q E s := by
  have hlt : l < s.heap.objs.size := by obtain ⟨_, e, _⟩ := hl; exact Heap.lt_size e
  refine wpAny_pyIter_tuple hl (h _ rfl ⟨⟨_, Heap.get?_push_size _ rfl, rfl, rfl⟩, hl.at fun o e => Heap.get?_push_of_some _ e⟩ (fun b hb => ?_) (Nat.ne_of_lt hlt))
  show b < (s.heap.push _).objs.size
  rw [Heap.size_push]
  have e' : b = s.heap.objs.size ∨ b = l := by simpa using hb
  rcases e' with z | z <;> rw [z]
  · exact Nat.lt_succ_self _
  · exact Nat.lt_succ_of_lt hlt
theorem minT (hh : A.handled = none) (hl : s.heap.IsTuple l its.toArray) (hi : IntsAre its ns) (hne : 0 < ns.length)
    (h : ∀ h' tk M t', (∀ b o, s.heap.get? b = some o → h'.get? b = some o) → M ∈ ns → (∀ a, a ∈ ns → M ≤ a) → Q (.int M t') { s with heap := h', toks := tk }) : wpAny (model prog w) A (call (.builtin "min") [.ref l]) Q E s := by
  obtain ⟨xs, e⟩ := hi.allInts.items
  have hn : numsOf (intItems xs).toList = ns := by rw [← e]; exact hi.numsOf
  rw [nums_intItems] at hn
  subst hn
  rw [e] at hl
  have hsz : 0 < xs.size := by simpa using hne
  refine call_min_walk (iterT hl fun s2 e st hfp hlI => ?_)
  subst e
  refine ⟨_, _, _, _, _, _, _, rfl, Walks.tuple (A := A.in1) hh _ l hlI (intItems xs), st, hfp, by simpa [intItems] using hsz, CmpOf.ints_lt (numAt xs) (fun _ _ => intItems_at), fun v h' tk hP hk => ?_⟩
  have hv : (intItems xs)[argBest (fun i j => decide (numAt xs i < numAt xs j)) (xs.size - 1)]? = some v := by simpa [intItems] using hP
  obtain ⟨t, rfl⟩ := intItems_at hv
  obtain ⟨h1, h2⟩ := argBest_lt (numAt xs) (xs.size - 1)
  refine h h' tk _ t (fun b o e' => hk b o (fun hm => Nat.ne_of_lt (Heap.lt_size e') (List.mem_singleton.mp hm)) (Heap.get?_push_of_some _ e')) ?_ fun a ha => ?_
  · rw [numAt_eq]
    exact PySem.getD_mem (by rw [List.length_map, Array.length_toList]; omega)
  · obtain ⟨j, hj, rfl⟩ := mem_getD ha
    rw [List.length_map, Array.length_toList] at hj
    rw [← numAt_eq]
    exact h2 j (by omega)
theorem sumT (hh : A.handled = none) (hl : s.heap.IsTuple l its.toArray) (hi : IntsAre its ns)
    (h : ∀ h' tk t', (∀ b o, s.heap.get? b = some o → h'.get? b = some o) → Q (.int ns.sum t') { s with heap := h', toks := tk }) : wpAny (model prog w) A (call (.builtin "sum") [.ref l]) Q E s := by
  obtain ⟨xs, e⟩ := hi.allInts.items
  have hn : numsOf (intItems xs).toList = ns := by rw [← e]; exact hi.numsOf
  rw [nums_intItems] at hn
  rw [e] at hl
  refine call_sum_walkG (iterT hl fun s2 e st hfp hlI => ?_)
  subst e
  refine ⟨_, _, _, _, _, _, numAt xs, rfl, Walks.tuple (A := A.in1) hh _ l hlI (intItems xs), st, hfp, (fun _ _ => intItems_at), fun h' tk t' hk => ?_⟩
  have := h h' tk t' fun b o e' => hk b o (fun hm => Nat.ne_of_lt (Heap.lt_size e') (List.mem_singleton.mp hm)) (Heap.get?_push_of_some _ e')
  rw [show (intItems xs).size = xs.size by simp [intItems], preSum_eq, List.take_of_length_le (by simp), hn]
  exact this
end
def rSumT (K : PySem.W.Frag) : List V → Hp → VK → Prop := fun vs H Q => ∃ (a : Addr) (ns : List Int), vs = [V.ref a] ∧ SqT K H a (ns.map V.int) ∧ Q (.int ns.sum) H
theorem cr_sumT {X : Cx} (hc : X.calm = true) : CallR X (.builtin "sum") (rSumT X.K) := by
  intro pins s σ H vs us Q I r h
  obtain ⟨a, ns, rfl, hs, q⟩ := h
  obtain ⟨its, rv, hl, _⟩ := I.tuple hs
  rw [Vals.ref1 r]
  exact sumT (I.ok.hd hc) hl rv.ints fun h' tk t' hk => ⟨.int _, H, I.kept hk, ⟨_, rfl⟩, q⟩
def rMinT (K : PySem.W.Frag) : List V → Hp → VK → Prop := fun vs H Q => ∃ (a : Addr) (ns : List Int), vs = [V.ref a] ∧ SqT K H a (ns.map V.int) ∧ 0 < ns.length ∧ ∀ m, m ∈ ns → (∀ y, y ∈ ns → m ≤ y) → Q (.int m) H
theorem cr_minT {X : Cx} (hc : X.calm = true) : CallR X (.builtin "min") (rMinT X.K) := by
  intro pins s σ H vs us Q I r h
  obtain ⟨a, ns, rfl, hs, hne, q⟩ := h
  obtain ⟨its, rv, hl, _⟩ := I.tuple hs
  rw [Vals.ref1 r]
  exact minT (I.ok.hd hc) hl rv.ints hne fun h' tk m t' hk h1 h2 => ⟨.int _, H, I.kept hk, ⟨_, rfl⟩, q m h1 h2⟩
def r3Max : List V → Hp → VK → Prop := fun vs H Q => ∃ i j k : Int, vs = [.int i, .int j, .int k] ∧ Q (.int (if k > (if j > i then j else i) then k else (if j > i then j else i))) H
theorem cr_max3 {X : Cx} (hc : X.calm = true) : CallR X (.builtin "max") r3Max := by
  intro pins s σ H vs us Q I r h
  obtain ⟨i, j, k, rfl, q⟩ := h
  cases r with
  | cons r1 r =>
    cases r with
    | cons r2 r =>
      cases r with
      | cons r3 r =>
        cases r
        obtain ⟨t1, rfl⟩ := r1
        obtain ⟨t2, rfl⟩ := r2
        obtain ⟨t3, rfl⟩ := r3
        refine max_three_ints (I.ok.hd hc) fun h' tk hk => ⟨_, H, I.kept hk, ?_, q⟩
        by_cases h1 : j > i
        · rw [if_pos h1, if_pos h1]
          by_cases h2 : k > j
          · rw [if_pos h2, if_pos h2]; exact ⟨_, rfl⟩
          · rw [if_neg h2, if_neg h2]; exact ⟨_, rfl⟩
        · rw [if_neg h1, if_neg h1]
          by_cases h2 : k > i
          · rw [if_pos h2, if_pos h2]; exact ⟨_, rfl⟩
          · rw [if_neg h2, if_neg h2]; exact ⟨_, rfl⟩
end Pd
namespace Pd
open PySem PySem.Spec PyProof.Rows L2
/-! ### dicts whose keys are nested tuples -/
mutual
def KeyAt (K : PySem.W.Frag) (H : Hp) : NestedKey → V → Prop
  | .none, v => v = .non
  | .num i, v => v = .int i ∨ ∃ b, v = .bl b ∧ i = if b = true then 1 else 0
  | .text x, v => v = .str x
  | .tup ks, v => ∃ a xs, v = .ref a ∧ SqT K H a xs ∧ KeyAts K H ks xs
def KeyAts (K : PySem.W.Frag) (H : Hp) : List NestedKey → List V → Prop
  | [], xs => xs = []
  | k :: ks, xs => ∃ x r, xs = x :: r ∧ KeyAt K H k x ∧ KeyAts K H ks r
end
section
variable {X : Cx} {pins : List (Addr × Obj)} {σ : St} {H : Hp} {s : Shared}
mutual
theorem nested_is (I : Inv X pins σ H s) : ∀ (k : NestedKey) (v : V) (u : Value), KeyAt X.K H k v → RelV v u → NestedIs s.heap k u
  | .none, v, u, h, r => by
    unfold KeyAt at h
    subst h
    cases r
    exact .none
  | .num i, v, u, h, r => by
    unfold KeyAt at h
    rcases h with h | ⟨b, h, e⟩
    · subst h
      obtain ⟨t, rfl⟩ := r
      exact .int i t
    · subst h
      cases r
      exact .bool e
  | .text x, v, u, h, r => by
    unfold KeyAt at h
    subst h
    obtain ⟨t, rfl⟩ := r
    exact .text x t
  | .tup ks, v, u, h, r => by
    unfold KeyAt at h
    obtain ⟨a, xs, rfl, hs, ht⟩ := h
    cases r
    obtain ⟨its, rv, ⟨o, h1, h2, n, h3⟩, _⟩ := I.tuple hs
    exact .tup h1 h2 h3 (by simpa using nested_all I ks xs its ht rv)
theorem nested_all (I : Inv X pins σ H s) : ∀ (ks : List NestedKey) (vs : List V) (us : List Value), KeyAts X.K H ks vs → Vals vs us → NestedAll s.heap ks us
  | [], vs, us, h, r => by
    unfold KeyAts at h
    subst h
    cases r
    exact .nil
  | k :: ks, vs, us, h, r => by
    unfold KeyAts at h
    obtain ⟨x, q, rfl, h1, h2⟩ := h
    cases r with
    | cons r1 r2 => exact .cons (nested_is I k x _ h1 r1) (nested_all I ks q _ h2 r2)
end
end
mutual
theorem keyAt_of {R : RC} {w : Wd} : ∀ (d : D) (v : V) (k : NestedKey), keyD d = some k → RelD R w d v → KeyAt R.K w.H k v
  | .non, v, k, h, r => by
    unfold keyD at h
    cases h
    unfold RelD at r
    unfold KeyAt
    exact r
  | .bl b, v, k, h, r => by
    unfold keyD at h
    cases h
    unfold RelD at r
    unfold KeyAt
    exact .inr ⟨b, r, rfl⟩
  | .int i, v, k, h, r => by
    unfold keyD at h
    cases h
    unfold RelD at r
    unfold KeyAt
    exact .inl r
  | .str x, v, k, h, r => by
    unfold keyD at h
    cases h
    unfold RelD at r
    unfold KeyAt
    exact r
  | .tup l, v, k, h, r => by
    unfold keyD at h
    obtain ⟨ks, e, rfl⟩ := Option.map_eq_some_iff.mp h
    unfold RelD at r
    obtain ⟨a, xs, rfl, hs, t⟩ := r
    unfold KeyAt
    exact ⟨a, xs, rfl, hs, keyAts_of l xs ks e t⟩
  | .ref _, _, _, h, _ => by unfold keyD at h; cases h
  | .gl _, _, _, h, _ => by unfold keyD at h; cases h
  | .ty _, _, _, h, _ => by unfold keyD at h; cases h
  | .exn _ _, _, _, h, _ => by unfold keyD at h; cases h
theorem keyAts_of {R : RC} {w : Wd} : ∀ (l : List D) (xs : List V) (ks : List NestedKey), keyL l = some ks → RelL R w l xs → KeyAts R.K w.H ks xs
  | [], xs, ks, h, r => by
    unfold keyL at h
    cases h
    unfold RelL at r
    unfold KeyAts
    exact r
  | d :: l, xs, ks, h, r => by
    unfold keyL at h
    split at h
    · rename_i k ks' e1 e2
      cases h
      unfold RelL at r
      obtain ⟨x, q, rfl, a, b⟩ := r
      unfold KeyAts
      exact ⟨x, q, rfl, keyAt_of d x k e1 a, keyAts_of l q ks' e2 b⟩
    · cases h
end
abbrev KN : List (NestedKey × Addr × V) → List (NestedKey × Addr × Value) → Prop := Paired fun p q => p.1 = q.1 ∧ p.2.1 = q.2.1 ∧ RelV p.2.2 q.2.2
def valN (xs : List (NestedKey × Addr × V)) (k : NestedKey) : Option V := (xs.find? fun p => decide (p.1 = k)).map (·.2.2)
def putN (xs : List (NestedKey × Addr × V)) (k : NestedKey) (a : Addr) (v : V) : List (NestedKey × Addr × V) :=
  if (xs.any fun p => decide (p.1 = k)) = true then xs.map fun p => if p.1 = k then (p.1, p.2.1, v) else p else xs ++ [(k, a, v)]
theorem KN.val {xs : List (NestedKey × Addr × V)} {ys : List (NestedKey × Addr × Value)} (r : KN xs ys) (k : NestedKey) : RelO (valN xs k) ((atKey ys k).map (·.2)) := by
  induction r with
  | nil => exact True.intro
  | @cons p q ps qs h t ih =>
    obtain ⟨h1, _, h2⟩ := h
    by_cases e : p.1 = k
    · have e' : q.1 = k := h1.symm.trans e
      have b : atKey (q :: qs) k = some q.2 := by simp [atKey, List.find?_cons, e']
      have a : valN (p :: ps) k = some p.2.2 := by simp [valN, List.find?_cons, e]
      rw [a, b]; exact h2
    · have e' : ¬ q.1 = k := fun z => e (h1.trans z)
      have b : atKey (q :: qs) k = atKey qs k := by simp [atKey, List.find?_cons, e']
      have a : valN (p :: ps) k = valN ps k := by simp [valN, List.find?_cons, e]
      rw [a, b]; exact ih
theorem valN_any (k : NestedKey) : ∀ xs : List (NestedKey × Addr × V), (xs.any fun p => decide (p.1 = k)) = (valN xs k).isSome
  | [] => rfl
  | p :: r => by
    rw [List.any_cons, valN_any k r]
    by_cases e : p.1 = k
    · simp [valN, List.find?_cons, e]
    · simp [valN, List.find?_cons, e]
theorem KN.put {xs : List (NestedKey × Addr × V)} {ys : List (NestedKey × Addr × Value)} (r : KN xs ys) (k : NestedKey) (b : Addr) {y : V} {u : Value} (ry : RelV y u) : KN (putN xs k b y) (storedH ys k b u) := by
  have e : (xs.any fun p => decide (p.1 = k)) = (atKey ys k).isSome := by
    rw [valN_any, (r.val k).isSome_eq, Option.isSome_map]
  unfold putN storedH
  rw [e]
  by_cases q : (atKey ys k).isSome = true
  · rw [if_pos q, if_pos q]
    clear e q
    induction r with
    | nil => exact .nil
    | @cons p q ps qs h t ih =>
      rw [List.map_cons, List.map_cons]
      refine .cons ?_ ih
      obtain ⟨h1, h2, h3⟩ := h
      unfold putAt
      by_cases e : p.1 = k
      · rw [if_pos e, if_pos (h1.symm.trans e)]; exact ⟨h1, h2, ry⟩
      · rw [if_neg e, if_neg (fun z => e (h1.trans z))]; exact ⟨h1, h2, h3⟩
  · rw [if_neg q, if_neg q]; exact Paired.snoc r ⟨rfl, rfl, ry⟩
theorem length_putN (xs : List (NestedKey × Addr × V)) (k : NestedKey) (a : Addr) (v : V) : (putN xs k a v).length ≤ xs.length + 1 := by
  unfold putN
  split
  · rw [List.length_map]; omega
  · simp
section
variable {X : Cx} {pins : List (Addr × Obj)} {σ : St} {H : Hp} {s : Shared} {a b : Addr} {u r : Value} {v : V} {A : Around} {E : Value → Shared → Prop}
theorem ext_addr {P : Program} {w : World} {h : Heap} {xs : List (NestedKey × Addr × V)} (x : ObjOk P w H h b (DcO w a xs)) : a = b := by
  by_cases g : a = b
  · exact g
  · exfalso
    obtain ⟨p, ⟨ob, e⟩, st⟩ := x
    obtain ⟨h1, h2, ys, h3, o, es, ep, h4, h5, h6, h7⟩ := id p
    have e2 : (h.update a fun _ => { cls := .none, data := .fields #[] }).get? b = some ob := (Heap.get?_update_ne _ _ _ _ (fun z => g z.symm)).trans e
    have p2 := st h (h.update a fun _ => { cls := .none, data := .fields #[] }) p fun o' q => by
      rw [e] at q
      cases q
      exact e2
    obtain ⟨_, _, ys', _, o', es', ep', k4, k5, _⟩ := p2
    have k4' : (h.update a fun _ => { cls := .none, data := .fields #[] }).get? a = some { cls := .none, data := .fields #[] } := Heap.get?_update_self _ h4 rfl
    rw [k4'] at k4
    cases k4
    have := k5.1
    cases this
/-- keys and their tuples -/
def KeysOk (K : PySem.W.Frag) (H : Hp) (xs : List (NestedKey × Addr × V)) : Prop := ∀ p ∈ xs, KeyAt K H p.1 (.ref p.2.1) ∧ p.1.depth ≤ 8
theorem dn_of {xs : List (NestedKey × Addr × V)} (I : Inv X pins σ H s) (e : H b = some (DcO X.w a xs)) (hk : KeysOk X.K H xs) : a = b ∧ (b == sysModules) = false ∧ xs.length ≤ sizeLine ∧ ∃ ys, KN xs ys ∧ s.heap.DictOfH (nestedKind X.prog X.w) b ys := by
  have x := I.hok b _ e
  have ab := ext_addr x
  subst ab
  obtain ⟨⟨h1, h2, ys, h3, o, es, ep, h4, h5, h6, h7, h8⟩, _⟩ := x
  refine ⟨rfl, h1, h2, ys, h3, o, es, ep, h4, h5, h6, h7, fun y hy => ?_, h8⟩
  have all : ∀ {l : List (NestedKey × Addr × V)} {m : List (NestedKey × Addr × Value)}, KN l m → KeysOk X.K H l → ∀ y ∈ m, (nestedKind X.prog X.w).is s.heap y.1 y.2.1 := by
    intro l m q
    induction q with
    | nil => intro _ y hy; exact nomatch hy
    | @cons p q ps qs hq t ih =>
      intro hk y hy
      rcases List.mem_cons.mp hy with e | hy
      · subst e
        obtain ⟨k1, k2⟩ := hk p List.mem_cons_self
        rw [hq.1, hq.2.1] at k1
        rw [hq.1] at k2
        exact ⟨nested_is I _ _ _ k1 rfl, k2⟩
      · exact ih (fun p hp => hk p (List.mem_cons_of_mem _ hp)) y hy
  exact all h3 hk y hy
/-- what the dict at b holds at the key y -/
def DnGet (K : PySem.W.Frag) (W : World) (H : Hp) (b : Addr) (y : V) (r : Option V) : Prop := ∃ a xs k ka, H b = some (DcO W a xs) ∧ KeysOk K H xs ∧ y = .ref ka ∧ KeyAt K H k y ∧ k.depth ≤ 8 ∧ r = valN xs k
theorem dn_room (hu : A.units + 65 < cLine) : (nestedKind X.prog X.w).room A.in1 := by show A.units + 1 + 8 < cLine; omega
theorem op_in_dn (hu : X.A.units + 65 < cLine) : OpR X (compareOp .In) (fun x y H Q => ∃ b o, y = .ref b ∧ DnGet X.K X.w H b x o ∧ Q (.bl o.isSome) H) := by
  intro pins s σ H x y v u Q I rx ry h
  obtain ⟨b, o, rfl, ⟨a, xs, k, ka, e, hk, rfl, ky, kd, rfl⟩, q⟩ := h
  cases rx
  cases ry
  obtain ⟨rfl, hd, hz, ys, rel, dd⟩ := dn_of I e hk
  refine wpAny_in_heap (dn_room hu) ⟨nested_is I _ _ _ ky rfl, kd⟩ hd dd ?_
  have q2 := (rel.val k).isSome_eq
  rw [Option.isSome_map] at q2
  rw [← q2]
  exact ⟨.bl _, H, I.tok _, rfl, q⟩
theorem op_nin_dn (hu : X.A.units + 65 < cLine) : OpR X (compareOp .NotIn) (fun x y H Q => ∃ b o, y = .ref b ∧ DnGet X.K X.w H b x o ∧ Q (.bl (!o.isSome)) H) := by
  intro pins s σ H x y v u Q I rx ry h
  obtain ⟨b, o, rfl, ⟨a, xs, k, ka, e, hk, rfl, ky, kd, rfl⟩, q⟩ := h
  cases rx
  cases ry
  obtain ⟨rfl, hd, hz, ys, rel, dd⟩ := dn_of I e hk
  refine wpAny_notIn_heap (dn_room hu) ⟨nested_is I _ _ _ ky rfl, kd⟩ hd dd ?_
  have q2 := (rel.val k).isSome_eq
  rw [Option.isSome_map] at q2
  rw [← q2]
  exact ⟨.bl _, H, I.tok _, rfl, q⟩
theorem dn_getItem {Q : Value → Shared → Prop} (hu : A.units + 65 < cLine) (I : Inv X pins σ H s) {y : V} (g : DnGet X.K X.w H b y (some v)) (ry : RelV y u) (h : ∀ w' s', Inv X pins σ H s' → RelV v w' → Q w' s') : wpAny (model X.prog X.w) A (getItem (.ref b) u) Q E s := by
  obtain ⟨a, xs, k, ka, e, hk, rfl, ky, kd, l⟩ := g
  cases ry
  obtain ⟨rfl, hd, hz, ys, rel, dd⟩ := dn_of I e hk
  obtain ⟨w', hw, rw'⟩ := RelO.some_of (v := v) (o := (atKey ys k).map (·.2)) (by rw [l]; exact rel.val k)
  obtain ⟨p, hp, hp2⟩ := Option.map_eq_some_iff.mp hw
  refine wpAny_getItem_heap (dn_room hu) ⟨nested_is I _ _ _ ky rfl, kd⟩ dd hp ?_
  rw [hp2]
  exact h w' _ (I.tok _) rw'
theorem ix_dn (hu : X.A.units + 65 < cLine) : IxR X (fun x y H Q => ∃ b v, x = .ref b ∧ DnGet X.K X.w H b y (some v) ∧ Q v H) := by
  intro value slice pins s σ H x y v u Q I rx ry h hs
  obtain ⟨b, z, rfl, g, q⟩ := h
  cases rx
  have tI : s.TypeIs (.ref b) "dict" := by
    obtain ⟨a, xs, k, ka, e, hk, _⟩ := g
    obtain ⟨rfl, hd, hz, ys, rel, dd⟩ := dn_of I e hk
    exact dd.typeIs
  unfold subscriptTail
  refine wpAny_bind ?_
  rw [getitemInPython_of_ne tI.not_modules]
  refine wpAny_bind (wpAny_specialOf tI PySem.F.slot_dict_getitem.lookup ?_)
  have fin : wpAny (model X.prog X.w) X.A (subscripted slice false (.ref b) u) (fun r s₃ => wpAny (model X.prog X.w) X.A (letTemporaryGo value (.ref b) r >>= fun _ => pure r) (EP X pins σ Q) X.xe s₃) X.xe s := by
    rw [hs]
    refine wpAny_operating (dn_getItem hu I g ry fun w' s' I' rw' => ?_)
    exact wpAny_bind (wpAny_letTemporaryGo (wpAny_pure ⟨z, H, I', rw', q⟩))
  first
    | exact wpAny_pure (wpAny_bind fin)
    | exact wpAny_bind (wpAny_pure (wpAny_bind fin))
    | exact wpAny_bind fin
theorem dc_obj {P : Program} {w : World} {H : Hp} {h : Heap} {a : Addr} {xs : List (NestedKey × Addr × V)} {ys : List (NestedKey × Addr × Value)} {o : Obj} {es : Array DictEntry} {ep : Nat} (hd : (a == sysModules) = false) (hl : xs.length ≤ sizeLine) (rel : KN xs ys)
    (h1 : h.get? a = some o) (h2 : o.ExactDict) (h3 : o.data = .dict es ep) (h4 : es.toList = ys.map (entryOfKey (nestedKind P w))) (h5 : (ys.map fun x => x.1).Nodup) : ObjOk P w H h a (DcO w a xs) :=
  ⟨⟨hd, hl, ys, rel, o, es, ep, h1, h2, h3, h4, h5⟩, ⟨o, h1⟩, fun a1 a2 p keep => by
    obtain ⟨p1, p2, ys, p3, o, es, ep, p4, p5⟩ := p
    exact ⟨p1, p2, ys, p3, o, es, ep, keep _ p4, p5⟩⟩
/-- d[y] = v -/
theorem set_dn (hu : X.A.units + 65 < cLine) : PSet X (fun o i v H Q => ∃ b a xs k ka, o = .ref b ∧ H b = some (DcO X.w a xs) ∧ KeysOk X.K H xs ∧ i = .ref ka ∧ KeyAt X.K H k i ∧ k.depth ≤ 8 ∧ xs.length < sizeLine ∧ Q (upd H b (DcO X.w b (putN xs k ka v)))) := by
  intro pins s σ H o i v ov iv r Q I ro ri rv h
  obtain ⟨b, a, xs, k, ka, rfl, e, hk, rfl, ky, kd, l, q⟩ := h
  cases ro
  cases ri
  obtain ⟨rfl, hd, hz, ys, rel, dd⟩ := dn_of I e hk
  have hz2 : ys.length ≤ sizeLine := by rw [← Paired.length rel]; exact hz
  have hl : (putN xs k ka v).length ≤ sizeLine := by have := length_putN xs k ka v; omega
  refine wpAny_setItem_heap (hsz := hz2) (dn_room hu) ⟨nested_is I _ _ _ ky rfl, kd⟩ dd fun h' dd' hs => ?_
  obtain ⟨o, es, ep, hq, h2, h3, h4, _, h5⟩ := dd'
  exact ⟨_, d_write I (by rw [e]; exact True.intro) hs ⟨o, hq⟩ (dc_obj hd hl (rel.put k ka rv) hq h2 h3 h4 h5), q⟩
/-- {} -/
theorem pe_dnewN {pos : Pos} : PE X (.Dict [] [] pos) (fun _ H Q => ∀ p, H p = none → Q (.ref p) (upd H p (DcO X.w p []))) := ⟨fun pins s σ H Q I h =>
  wpAny_Dict_empty ⟨.ref s.heap.objs.size, _, I.laid (a := s.heap.objs.size) (o := DcO X.w s.heap.objs.size []) (t' := s.toks) (fun _ _ q => Heap.get?_push_of_some _ q) (Nat.le_refl _)
    (dc_obj (beq_eq_false_iff_ne.mpr (Ne.symm (Nat.ne_of_lt I.big))) (Nat.zero_le _) .nil (Heap.get?_push_size _ rfl) ⟨rfl, rfl, rfl⟩ rfl rfl List.nodup_nil), rfl, h _ (I.hok.fresh (Nat.le_refl _))⟩⟩
end
/-! ### as data -/
def dctOf (M : Mem) (n : Nat) : Option (List (D × D)) := match M[n]? with
  | some (.dct kvs) => some kvs
  | _ => none
/-- a tuple that may be a key -/
def keyT (d : D) : Option NestedKey := match d with
  | .tup l => (keyD (.tup l)).bind fun k => if k.depth ≤ 8 then some k else none
  | _ => none
def valD (kvs : List (D × D)) (k : NestedKey) : Option D := (kvs.find? fun p => decide (keyD p.1 = some k)).map (·.2)
def putD (kvs : List (D × D)) (d v : D) (k : NestedKey) : List (D × D) := if (kvs.any fun p => decide (keyD p.1 = some k)) = true then kvs.map fun p => if keyD p.1 = some k then (p.1, v) else p else kvs ++ [(d, v)]
theorem keyT_ok {d : D} {k : NestedKey} (h : keyT d = some k) : keyD d = some k ∧ k.depth ≤ 8 ∧ ∃ l, d = .tup l := by
  cases d with
  | tup l =>
    obtain ⟨k', e1, e2⟩ := Option.bind_eq_some_iff.mp h
    split at e2
    · cases e2; exact ⟨e1, by assumption, l, rfl⟩
    · cases e2
  | _ => cases h
section
variable {R : RC} {w : Wd}
theorem RelK.len : ∀ {kvs : List (D × D)} {xs : List (NestedKey × Addr × V)}, RelK R w kvs xs → xs.length = kvs.length
  | [], _, r => by have e : _ = [] := r; subst e; rfl
  | p :: l, _, r => by
    obtain ⟨q, r', e, _, _, _, _, t⟩ := r
    subst e
    rw [List.length_cons, List.length_cons, RelK.len t]
theorem RelK.keys : ∀ {kvs : List (D × D)} {xs : List (NestedKey × Addr × V)}, RelK R w kvs xs → KeysOk R.K w.H xs
  | [], _, r => by
    have e : _ = [] := r
    subst e
    intro p hp
    cases hp
  | p :: l, _, r => by
    obtain ⟨q, r', e, a, b, c, _, t⟩ := r
    subst e
    intro z hz
    rcases List.mem_cons.mp hz with e | hz
    · subst e
      exact ⟨keyAt_of _ _ _ a c, b⟩
    · exact RelK.keys t z hz
theorem RelK.val (k : NestedKey) : ∀ {kvs : List (D × D)} {xs : List (NestedKey × Addr × V)}, RelK R w kvs xs → (valD kvs k = none ∧ valN xs k = none) ∨ ∃ d v, valD kvs k = some d ∧ valN xs k = some v ∧ RelD R w d v
  | [], _, r => by
    have e : _ = [] := r
    subst e
    exact .inl ⟨rfl, rfl⟩
  | p :: l, _, r => by
    obtain ⟨q, r', e, a, b, c, d, t⟩ := r
    subst e
    by_cases g : q.1 = k
    · refine .inr ⟨p.2, q.2.2, ?_, ?_, d⟩
      · have g' : keyD p.1 = some k := by rw [a, g]
        simp [valD, List.find?_cons, g']
      · simp [valN, List.find?_cons, g]
    · have g' : ¬ keyD p.1 = some k := fun z => g (by rw [a] at z; exact Option.some.inj z)
      have e1 : valD (p :: l) k = valD l k := by simp [valD, List.find?_cons, g']
      have e2 : valN (q :: r') k = valN r' k := by simp [valN, List.find?_cons, g]
      rw [e1, e2]
      exact RelK.val k t
theorem RelK.any (k : NestedKey) : ∀ {kvs : List (D × D)} {xs : List (NestedKey × Addr × V)}, RelK R w kvs xs → (kvs.any fun p => decide (keyD p.1 = some k)) = xs.any fun p => decide (p.1 = k)
  | [], _, r => by
    have e : _ = [] := r
    subst e
    rfl
  | p :: l, _, r => by
    obtain ⟨q, r', e, a, b, c, d, t⟩ := r
    subst e
    rw [List.any_cons, List.any_cons, RelK.any k t, a]
    congr 1
    by_cases g : q.1 = k
    · rw [decide_eq_true g, decide_eq_true (by rw [g])]
    · rw [decide_eq_false g, decide_eq_false fun z => g (Option.some.inj z)]
theorem RelK.snoc {d v : D} {k : NestedKey} {ka : Addr} {u : V} (h1 : keyD d = some k) (h2 : k.depth ≤ 8) (h3 : RelD R w d (.ref ka)) (h4 : RelD R w v u) : ∀ {kvs : List (D × D)} {xs : List (NestedKey × Addr × V)}, RelK R w kvs xs → RelK R w (kvs ++ [(d, v)]) (xs ++ [(k, ka, u)])
  | [], _, r => by
    have e : _ = [] := r
    subst e
    exact ⟨_, _, rfl, h1, h2, h3, h4, rfl⟩
  | p :: l, _, r => by
    obtain ⟨q, r', e, a, b, c, d, t⟩ := r
    subst e
    exact ⟨q, _, rfl, a, b, c, d, RelK.snoc h1 h2 h3 h4 t⟩
theorem RelK.repl {v : D} {k : NestedKey} {u : V} (h4 : RelD R w v u) : ∀ {kvs : List (D × D)} {xs : List (NestedKey × Addr × V)}, RelK R w kvs xs → RelK R w (kvs.map fun p => if keyD p.1 = some k then (p.1, v) else p) (xs.map fun p => if p.1 = k then (p.1, p.2.1, u) else p)
  | [], _, r => by
    have e : _ = [] := r
    subst e
    rfl
  | p :: l, _, r => by
    obtain ⟨q, r', e, a, b, c, d, t⟩ := r
    subst e
    rw [List.map_cons, List.map_cons]
    by_cases g : q.1 = k
    · rw [if_pos g, if_pos (by rw [a, g])]
      exact ⟨_, _, rfl, a, b, c, h4, RelK.repl h4 t⟩
    · rw [if_neg g, if_neg fun z => g (by rw [a] at z; exact Option.some.inj z)]
      exact ⟨_, _, rfl, a, b, c, d, RelK.repl h4 t⟩
theorem RelK.put {d v : D} {k : NestedKey} {ka : Addr} {u : V} {kvs : List (D × D)} {xs : List (NestedKey × Addr × V)} (r : RelK R w kvs xs) (h1 : keyD d = some k) (h2 : k.depth ≤ 8) (h3 : RelD R w d (.ref ka)) (h4 : RelD R w v u) : RelK R w (putD kvs d v k) (putN xs k ka u) := by
  unfold putD putN
  rw [RelK.any k r]
  split
  · exact RelK.repl h4 r
  · exact RelK.snoc h1 h2 h3 h4 r
theorem Wd.Ok.dct {n : Nat} {kvs : List (D × D)} (o : w.Ok R) (h : dctOf w.M n = some kvs) : n < w.M.length ∧ w.M[n]? = some (.dct kvs) ∧ ∃ a xs, w.H (w.ρ n) = some (DcO R.W a xs) ∧ RelK R w kvs xs := by
  unfold dctOf at h
  split at h
  · rename_i l' e
    cases h
    obtain ⟨u, h1, ⟨a, xs, e2, r⟩, _⟩ := o.at_ n _ e
    subst e2
    exact ⟨o.lt e, e, a, xs, h1, r⟩
  · cases h
/-- a look-up -/
theorem Wd.Ok.dget {n : Nat} {kvs : List (D × D)} {d : D} {x : V} {k : NestedKey} (o : w.Ok R) (h : dctOf w.M n = some kvs) (hk : keyT d = some k) (r : RelD R w d x) :
    (valD kvs k = none ∧ DnGet R.K R.W w.H (w.ρ n) x none) ∨ ∃ z v, valD kvs k = some z ∧ RelD R w z v ∧ DnGet R.K R.W w.H (w.ρ n) x (some v) := by
  obtain ⟨_, _, a, xs, e, rk⟩ := o.dct h
  obtain ⟨k1, k2, l, rfl⟩ := keyT_ok hk
  have r' := r
  unfold RelD at r'
  obtain ⟨ka, ys, rfl, _⟩ := r'
  have kk := keyAt_of _ _ _ k1 r
  rcases RelK.val k rk with ⟨h1, h2⟩ | ⟨z, v, h1, h2, h3⟩
  · exact .inl ⟨h1, a, xs, k, ka, e, RelK.keys rk, rfl, kk, k2, h2.symm⟩
  · exact .inr ⟨z, v, h1, h3, a, xs, k, ka, e, RelK.keys rk, rfl, kk, k2, h2.symm⟩
end
end Pd
namespace Pd
open PySem PySem.Spec PyProof.Rows L2
/-! ### in -/
def flatOf : D → Option V
  | .non => some .non
  | .bl b => some (.bl b)
  | .int i => some (.int i)
  | .str s => some (.str s)
  | _ => none
def flatL : List D → Option (List V)
  | [] => some []
  | d :: r => match flatOf d, flatL r with
    | some v, some vs => some (v :: vs)
    | _, _ => none
theorem flatOf_ok {R : RC} {w : Wd} {d : D} {v v' : V} (h : flatOf d = some v') (r : RelD R w d v) : v = v' ∧ flatV v' = true := by
  cases d with
  | non => cases h; unfold RelD at r; exact ⟨r, rfl⟩
  | bl _ => cases h; unfold RelD at r; exact ⟨r, rfl⟩
  | int _ => cases h; unfold RelD at r; exact ⟨r, rfl⟩
  | str _ => cases h; unfold RelD at r; exact ⟨r, rfl⟩
  | _ => cases h
theorem flatL_ok {R : RC} {w : Wd} : ∀ {l : List D} {xs ys : List V}, flatL l = some ys → RelL R w l xs → xs = ys ∧ ys.all flatV = true
  | [], xs, ys, h, r => by cases h; unfold RelL at r; exact ⟨r, rfl⟩
  | d :: l, xs, ys, h, r => by
    unfold RelL at r
    obtain ⟨x, q, e, a, b⟩ := r
    subst e
    unfold flatL at h
    split at h
    · rename_i v vs e1 e2
      cases h
      obtain ⟨h1, h2⟩ := flatOf_ok e1 a
      obtain ⟨h3, h4⟩ := flatL_ok e2 b
      exact ⟨by rw [h1, h3], by rw [List.all_cons, h2, h4]; rfl⟩
    · cases h
def itemsOf (M : Mem) : D → Option (List D)
  | .tup l => some l
  | .ref n => seqOf M n
  | _ => none
def inFlat (a b : D) (M : Mem) : Option Bool := match flatOf a, (itemsOf M b).bind flatL with
  | some x, some xs => some (inV x xs)
  | _, _ => none
def inDeep (a b : D) (M : Mem) : Option Bool := match b with
  | .ref n => match pyD M FU a, pyD M FU (.ref n) with
    | some d, some (.list ds) => if SeqAt.shaped d && SeqAt.shaped (.list ds) then some (ds.any fun z => PyData.eqv z d) else none
    | _, _ => none
  | _ => none
def inStr (a b : D) : Option Bool := match a, b with
  | .str x, .str y => some (!(Builtin.Str.occurrences y x 0 y.length 1).isEmpty)
  | _, _ => none
def inDct (a b : D) (M : Mem) : Option Bool := match b with
  | .ref n => match dctOf M n, keyT a with
    | some kvs, some k => some (valD kvs k).isSome
    | _, _ => none
  | _ => none
def dInB (a b : D) (M : Mem) : Option Bool := match inStr a b with
  | some k => some k
  | none => match inFlat a b M with
    | some k => some k
    | none => match inDeep a b M with
      | some k => some k
      | none => inDct a b M
def oIn (a b : D) (M : Mem) : OV := (dInB a b M).map fun k => (.bl k, M)
def oNin (a b : D) (M : Mem) : OV := (dInB a b M).map fun k => (.bl (!k), M)
def rInA (K : PySem.W.Frag) (W : World) : R2 := fun x y H Q => (∃ i j, x = .str i ∧ y = .str j ∧ Q (.bl (!(Builtin.Str.occurrences j i 0 j.length 1).isEmpty)) H) ∨ rIn K false x y H Q ∨ rInD K x y H Q ∨ ∃ b o, y = .ref b ∧ DnGet K W H b x o ∧ Q (.bl o.isSome) H
def rNinA (K : PySem.W.Frag) (W : World) : R2 := fun x y H Q => (∃ i j, x = .str i ∧ y = .str j ∧ Q (.bl (!(!(Builtin.Str.occurrences j i 0 j.length 1).isEmpty))) H) ∨ rIn K true x y H Q ∨ rNotInD K x y H Q ∨ ∃ b o, y = .ref b ∧ DnGet K W H b x o ∧ Q (.bl (!o.isSome)) H
section
variable {T : TB} {X : Cx}
theorem op_inA (hu : X.A.units + 65 < cLine) : OpR X (compareOp .In) (rInA X.K X.w) := op_in_str.or (op_in_seq.or ((op_inD hu).or (op_in_dn hu)))
theorem op_ninA (hu : X.A.units + 65 < cLine) : OpR X (compareOp .NotIn) (rNinA X.K X.w) := op_notIn_str.or (op_notIn_seq.or ((op_notInD hu).or (op_nin_dn hu)))
theorem inFlat_ok {R : RC} {w : Wd} (o : w.Ok R) {a b : D} {x y : V} {k : Bool} (h : inFlat a b w.M = some k) (ra : RelD R w a x) (rb : RelD R w b y) :
    ∃ p xs, y = .ref p ∧ (SqL R.K w.H p xs ∨ SqT R.K w.H p xs) ∧ flatV x = true ∧ xs.all flatV = true ∧ inV x xs = k := by
  unfold inFlat at h
  split at h
  · rename_i v vs e1 e2
    cases h
    obtain ⟨h1, h2⟩ := flatOf_ok e1 ra
    subst h1
    cases b with
    | tup l =>
      obtain ⟨p, xs, e, s, r⟩ := rb.tupI
      obtain ⟨h3, h4⟩ := flatL_ok (show flatL l = some vs from e2) r
      subst h3
      exact ⟨p, xs, e, .inr s, h2, h4, rfl⟩
    | ref n =>
      obtain ⟨_, e⟩ := rb.ref
      have e2' : (seqOf w.M n).bind flatL = some vs := e2
      cases c : seqOf w.M n with
      | none => rw [c] at e2'; cases e2'
      | some l =>
        rw [c] at e2'
        obtain ⟨_, xs, s, r, _⟩ := o.seq c
        obtain ⟨h3, h4⟩ := flatL_ok (show flatL l = some vs from e2') r
        subst h3
        exact ⟨_, xs, e, .inl s, h2, h4, rfl⟩
    | _ => cases e2
  · cases h
theorem inDeep_ok {R : RC} {w : Wd} (o : w.Ok R) {a b : D} {x y : V} {k : Bool} (h : inDeep a b w.M = some k) (ra : RelD R w a x) (rb : RelD R w b y) :
    ∃ d ds, Dp R.K w.H x d ∧ Dp R.K w.H y (.list ds) ∧ SeqAt.shaped d = true ∧ SeqAt.shaped (.list ds) = true ∧ (ds.any fun z => PyData.eqv z d) = k := by
  cases b with
  | ref n =>
    unfold inDeep at h
    simp only at h
    split at h
    · rename_i d ds e1 e2
      split at h
      · rename_i hs
        cases h
        have hs' := Bool.and_eq_true_iff.mp hs
        exact ⟨d, ds, pyD_ok o _ a d x e1 ra, pyD_ok o _ _ _ y e2 rb, hs'.1, hs'.2, rfl⟩
      · cases h
    · cases h
  | _ => cases h
theorem inStr_ok {R : RC} {w : Wd} {a b : D} {x y : V} {k : Bool} (h : inStr a b = some k) (ra : RelD R w a x) (rb : RelD R w b y) : ∃ i j, x = .str i ∧ y = .str j ∧ (!(Builtin.Str.occurrences j i 0 j.length 1).isEmpty) = k := by
  cases a with
  | str i =>
    cases b with
    | str j => cases h; unfold RelD at ra rb; exact ⟨i, j, ra, rb, rfl⟩
    | _ => cases h
  | _ => cases b <;> cases h
theorem inDct_ok {R : RC} {w : Wd} (o : w.Ok R) {a b : D} {x y : V} {k : Bool} (h : inDct a b w.M = some k) (ra : RelD R w a x) (rb : RelD R w b y) : ∃ p ov, y = .ref p ∧ DnGet R.K R.W w.H p x ov ∧ ov.isSome = k := by
  cases b with
  | ref n =>
    unfold inDct at h
    simp only at h
    split at h
    · rename_i kvs k' e1 e2
      cases h
      obtain ⟨_, e⟩ := rb.ref
      rcases o.dget e1 e2 ra with ⟨h1, h2⟩ | ⟨z, v, h1, _, h2⟩
      · exact ⟨_, none, e, h2, by rw [h1]; rfl⟩
      · exact ⟨_, some v, e, h2, by rw [h1]; rfl⟩
    · cases h
  | _ => cases h
theorem ok_in : OpOk T X oIn (rInA X.K X.w) := fun w a b x y Q o ra rb h => by
  unfold oIn at h
  cases e : dInB a b w.M with
  | none => rw [e] at h; exact h.elim
  | some k =>
    rw [e] at h
    have q := PostV.val h o .mkBl
    unfold dInB at e
    split at e
    · rename_i k' e1
      cases e
      obtain ⟨i, j, h1, h2, h3⟩ := inStr_ok e1 ra rb
      exact .inl ⟨i, j, h1, h2, by rw [h3]; exact q⟩
    · split at e
      · rename_i k' e1
        cases e
        obtain ⟨p, xs, h1, h2, h3, h4, h5⟩ := inFlat_ok o e1 ra rb
        exact .inr (.inl ⟨p, xs, h1, h2, h3, h4, by rw [if_neg Bool.false_ne_true, h5]; exact q⟩)
      · split at e
        · rename_i k' e1
          cases e
          obtain ⟨d, ds, h1, h2, h3, h4, h5⟩ := inDeep_ok o e1 ra rb
          exact .inr (.inr (.inl ⟨d, ds, h1, h2, h3, h4, by rw [h5]; exact q⟩))
        · obtain ⟨p, ov, h1, h2, h3⟩ := inDct_ok o e ra rb
          exact .inr (.inr (.inr ⟨p, ov, h1, h2, by rw [h3]; exact q⟩))
theorem ok_nin : OpOk T X oNin (rNinA X.K X.w) := fun w a b x y Q o ra rb h => by
  unfold oNin at h
  cases e : dInB a b w.M with
  | none => rw [e] at h; exact h.elim
  | some k =>
    rw [e] at h
    have q := PostV.val h o .mkBl
    unfold dInB at e
    split at e
    · rename_i k' e1
      cases e
      obtain ⟨i, j, h1, h2, h3⟩ := inStr_ok e1 ra rb
      exact .inl ⟨i, j, h1, h2, by rw [h3]; exact q⟩
    · split at e
      · rename_i k' e1
        cases e
        obtain ⟨p, xs, h1, h2, h3, h4, h5⟩ := inFlat_ok o e1 ra rb
        exact .inr (.inl ⟨p, xs, h1, h2, h3, h4, by rw [if_pos rfl, h5]; exact q⟩)
      · split at e
        · rename_i k' e1
          cases e
          obtain ⟨d, ds, h1, h2, h3, h4, h5⟩ := inDeep_ok o e1 ra rb
          exact .inr (.inr (.inl ⟨d, ds, h1, h2, h3, h4, by rw [h5]; exact q⟩))
        · obtain ⟨p, ov, h1, h2, h3⟩ := inDct_ok o e ra rb
          exact .inr (.inr (.inr ⟨p, ov, h1, h2, by rw [h3]; exact q⟩))
/-! ### places -/
def oIx (a b : D) (M : Mem) : OV := match b with
  | .int i => match a with
    | .tup l => (atI l i).map fun d => (d, M)
    | .ref n => (seqOf M n).bind fun l => (atI l i).map fun d => (d, M)
    | .str z => if z.length ≤ sizeLine then (atI z.cps.toList i).map fun c => (.str ⟨#[c]⟩, M) else none
    | _ => none
  | .tup t => match a with
    | .ref n => match dctOf M n, keyT (.tup t) with
      | some kvs, some k => (valD kvs k).map fun d => (d, M)
      | _, _ => none
    | _ => none
  | _ => none
theorem atI_rel {R : RC} {w : Wd} {l : List D} {xs : List V} {i : Int} {d : D} (r : RelL R w l xs) (h : atI l i = some d) : ∃ v, atI xs i = some v ∧ RelD R w d v := by
  unfold atI at h ⊢
  rw [r.length]
  cases e : ixN l.length i with
  | none => rw [e] at h; cases h
  | some j =>
    rw [e] at h
    obtain ⟨v, h1, h2⟩ := r.get (show l[j]? = some d from h)
    exact ⟨v, h1, h2⟩
def rIxA (X : Cx) : R2 := fun x y H Q => rIx X.K x y H Q ∨ ∃ b v, x = .ref b ∧ DnGet X.K X.w H b y (some v) ∧ Q v H
theorem ok_ix : OpOk T X oIx (rIxA X) := fun w a b x y Q o ra rb h => by
  cases b with
  | int i =>
    unfold RelD at rb
    subst rb
    cases a with
    | tup l =>
      obtain ⟨p, xs, e, s, r⟩ := ra.tupI
      have h' : PostV (rc T X) w Q ((atI l i).map fun d => (d, w.M)) := h
      cases c : atI l i with
      | none => rw [c] at h'; exact h'.elim
      | some d =>
        rw [c] at h'
        obtain ⟨v, h1, h2⟩ := atI_rel r c
        exact .inl (.inr (.inl ⟨p, xs, i, v, e, rfl, s, h1, PostV.val h' o h2⟩))
    | ref n =>
      obtain ⟨_, e⟩ := ra.ref
      have h' : PostV (rc T X) w Q ((seqOf w.M n).bind fun l => (atI l i).map fun d => (d, w.M)) := h
      cases c0 : seqOf w.M n with
      | none => rw [c0] at h'; exact h'.elim
      | some l =>
        rw [c0] at h'
        obtain ⟨_, xs, s, r, _⟩ := o.seq c0
        have h'' : PostV (rc T X) w Q ((atI l i).map fun d => (d, w.M)) := h'
        cases c : atI l i with
        | none => rw [c] at h''; exact h''.elim
        | some d =>
          rw [c] at h''
          obtain ⟨v, h1, h2⟩ := atI_rel r c
          exact .inl (.inl ⟨_, xs, i, v, e, rfl, s, h1, PostV.val h'' o h2⟩)
    | str z =>
      unfold RelD at ra
      have h' : PostV (rc T X) w Q (if z.length ≤ sizeLine then (atI z.cps.toList i).map fun c => (.str ⟨#[c]⟩, w.M) else none) := h
      split at h'
      · rename_i hz
        cases c : atI z.cps.toList i with
        | none => rw [c] at h'; exact h'.elim
        | some d =>
          rw [c] at h'
          exact .inl (.inr (.inr ⟨z, i, d, ra, rfl, hz, c, PostV.val h' o .mkStr⟩))
      · exact h'.elim
    | _ => exact h.elim
  | tup t =>
    cases a with
    | ref n =>
      obtain ⟨_, e⟩ := ra.ref
      have h' : PostV (rc T X) w Q (match dctOf w.M n, keyT (.tup t) with
        | some kvs, some k => (valD kvs k).map fun d => (d, w.M)
        | _, _ => none) := h
      split at h'
      · rename_i kvs k e1 e2
        rcases o.dget e1 e2 rb with ⟨h1, h2⟩ | ⟨z, v, h1, h2, h3⟩
        · rw [h1] at h'; exact h'.elim
        · rw [h1] at h'
          exact .inr ⟨_, v, e, h3, PostV.val h' o h2⟩
      · exact h'.elim
    | _ => exact h.elim
  | _ => cases a <;> exact h.elim
theorem EV.ix {W : WX} {a b : Expr} {f g : EF D} {pos : Pos} (hu : X.A.units + 65 < cLine) (ha : EV T W X a f) (hb : EV T W X b g) (hs : PlainIx b) : EV T W X (.Subscript a b pos) (dBin oIx f g) := by
  obtain ⟨ta, pa, qa⟩ := ha
  obtain ⟨tb, pb, qb⟩ := hb
  refine ⟨_, pe_ix (ix_seq.or (ix_dn hu)) pa pb hs, fun w δ σ Q o s h => ?_⟩
  refine qa w δ σ _ o s (h.bind fun d1 w1 v1 l1 o1 r1 h1 => ?_)
  refine qb w1 δ σ _ o1 (s.mono l1) (h1.bind fun d2 w2 v2 l2 o2 r2 h2 => ?_)
  exact ok_ix w2 d1 d2 v1 v2 Q o2 (RelD.mono l2 _ _ r1) r2 (post_ofV h2)
/-! ### slices -/
def EP (T : TB) (W : WX) (X : Cx) (e : Option Expr) (f : EF (Option Int)) : Prop :=
  ∃ t, PO X e t ∧ ∀ w δ σ Q, w.Ok (rc T X) → SRel (rc T X) w δ σ → Post (rc T X) W w σ (fun _ a b => a = b) Q (f δ w.M) → t σ w.H Q
def dNoP : EF (Option Int) := fun _ M => .ok none M
def dPart (f : EF D) : EF (Option Int) := fun δ M => (f δ M).bind fun a M1 => match a with
  | .int i => .ok (some i) M1
  | _ => .bad
theorem EP.none {W : WX} : EP T W X none dNoP := ⟨_, po_none, fun w δ σ Q o s h => h w _ rfl (.refl _) o rfl⟩
theorem EP.some {W : WX} {e : Expr} {f : EF D} (h : EV T W X e f) : EP T W X (some e) (dPart f) := by
  obtain ⟨ta, pa, qa⟩ := h
  refine ⟨_, po_some pa, fun w δ σ Q o s h => ?_⟩
  refine qa w δ σ _ o s (h.bind fun d1 w1 v1 l1 o1 r1 h1 => ?_)
  cases d1 with
  | int i => unfold RelD at r1; exact ⟨i, r1, h1 w1 _ rfl (.refl _) o1 rfl⟩
  | _ => exact h1.elim
def cutD (xs : List D) (lo hi : Option Int) : List D := (xs.drop (HT.sIx xs.length 0 lo)).take (HT.sIx xs.length xs.length hi - HT.sIx xs.length 0 lo)
theorem RelL.cut {R : RC} {w : Wd} {l : List D} {xs : List V} (r : RelL R w l xs) (lo hi : Option Int) : RelL R w (cutD l lo hi) (cutV xs lo hi) := by
  unfold cutD cutV
  rw [r.length]
  exact RelL.take _ (RelL.drop _ r)
def oSl (a : D) (lo hi : Option Int) (M : Mem) : OV := match a with
  | .tup l => some (.tup (cutD l lo hi), M)
  | .ref n => (seqOf M n).map fun l => (.ref M.length, M ++ [.lst (cutD l lo hi)])
  | .str z => if z.length ≤ sizeLine then some (.str (cutS z lo hi), M) else none
  | _ => none
def dSl (f : EF D) (g h : EF (Option Int)) : EF D := fun δ M => (f δ M).bind fun a M1 => (g δ M1).bind fun lo M2 => (h δ M2).bind fun hi M3 => ofV (oSl a lo hi M3)
def rSlAll (K : PySem.W.Frag) : V → Option Int → Option Int → Hp → VK → Prop := fun x lo hi H Q => rSlA K x lo hi H Q ∨ rSlL K x lo hi H Q ∨ rSlS x lo hi H Q
theorem sl_all : SlR X (rSlAll X.K) := sl_tupA.or (sl_list.or sl_str)
theorem EV.sl {W : WX} {e : Expr} {a b : Option Expr} {f : EF D} {g h : EF (Option Int)} {pos p2 : Pos} (hf : EV T W X e f) (hg : EP T W X a g) (hh : EP T W X b h) : EV T W X (.Subscript e (.Slice a b none p2) pos) (dSl f g h) := by
  obtain ⟨ta, pa, qa⟩ := hf
  obtain ⟨tb, pb, qb⟩ := hg
  obtain ⟨tc, pc, qc⟩ := hh
  refine ⟨_, pe_slice sl_all pa pb pc, fun w δ σ Q o s h => ?_⟩
  refine qa w δ σ _ o s (h.bind fun d w1 v l1 o1 r1 h1 => ?_)
  refine qb w1 δ σ _ o1 (s.mono l1) (h1.bind fun lo w2 lo' l2 o2 r2 h2 => ?_)
  cases (show lo = lo' from r2)
  refine qc w2 δ σ _ o2 (s.mono (l1.trans l2)) (h2.bind fun hi w3 hi' l3 o3 r3 h3 => ?_)
  cases (show hi = hi' from r3)
  have rd := RelD.mono (l2.trans l3) _ _ r1
  have h4 : PostV (rc T X) w3 Q (oSl d lo hi w3.M) := post_ofV h3
  cases d with
  | tup l =>
    obtain ⟨p, xs, e1, s1, rl⟩ := rd.tupI
    refine .inl ⟨p, xs, e1, s1, fun c => ?_, fun _ => PostV.tup h4 o3 (rl.cut lo hi)⟩
    have hl := rl.length
    have el : cutD l lo hi = l := by
      unfold cutD
      rw [hl] at c
      rw [c.1, c.2, List.drop_zero, Nat.sub_zero, List.take_length]
    have h5 : PostV (rc T X) w3 Q (some (.tup (cutD l lo hi), w3.M)) := h4
    rw [el] at h5
    subst e1
    exact PostV.val h5 o3 rd
  | ref n =>
    obtain ⟨_, e1⟩ := rd.ref
    have h5 : PostV (rc T X) w3 Q ((seqOf w3.M n).map fun l => (.ref w3.M.length, w3.M ++ [.lst (cutD l lo hi)])) := h4
    cases c : seqOf w3.M n with
    | none => rw [c] at h5; exact h5.elim
    | some l =>
      rw [c] at h5
      obtain ⟨_, xs, s1, rl, _⟩ := o3.seq c
      exact .inr (.inl ⟨_, xs, e1, s1, PostV.lst h5 o3 (rl.cut lo hi)⟩)
  | str z =>
    unfold RelD at rd
    have h5 : PostV (rc T X) w3 Q (if z.length ≤ sizeLine then some (.str (cutS z lo hi), w3.M) else none) := h4
    split at h5
    · exact .inr (.inr ⟨z, rd, by assumption, PostV.val h5 o3 .mkStr⟩)
    · exact h5.elim
  | _ => exact h4.elim
/-! ### built-ins -/
theorem EV.bltTy {W : WX} {x : Str} {n : String} {pos : Pos} (hg : Gl X x) (hm : X.mg x = none) (hv : bootBuiltins x = some (.type n)) (hn : x ≠ "__name__") (hd : (x == ("__debug__" : Str)) = false) : EV T W X (.Name x pos) (dC (.ty n)) :=
  EV.const (pe_bltn (v := .ty n) hg hm hv rfl hn hd) (fun _ _ _ h => h) fun _ => by unfold RelD; rfl
theorem RelL.one {R : RC} {w : Wd} {d : D} {xs : List V} (r : RelL R w [d] xs) : ∃ x, xs = [x] ∧ RelD R w d x := by
  unfold RelL at r
  obtain ⟨x, q, e, a, b⟩ := r
  unfold RelL at b
  subst b
  exact ⟨x, e, a⟩
theorem RelL.two {R : RC} {w : Wd} {d d2 : D} {xs : List V} (r : RelL R w [d, d2] xs) : ∃ x y, xs = [x, y] ∧ RelD R w d x ∧ RelD R w d2 y := by
  unfold RelL at r
  obtain ⟨x, q, e, a, b⟩ := r
  obtain ⟨y, e2, b2⟩ := RelL.one b
  subst e2
  exact ⟨x, y, e, a, b2⟩
def oLen (l : List D) (M : Mem) : OV := match l with
  | [.tup l] => some (.int l.length, M)
  | [.ref n] => (seqOf M n).map fun l => (.int l.length, M)
  | [.str z] => if z.length ≤ sizeLine then some (.int z.length, M) else none
  | _ => none
theorem bl_len : BlOk T X oLen (fun xs H Q => ∃ x n, xs = [x] ∧ LenV X.K x H n ∧ Q (.int n) H) := fun w l xs Q o r h => by
  unfold oLen at h
  split at h
  · rename_i l
    obtain ⟨x, e, rd⟩ := r.one
    obtain ⟨p, xs', e1, s1, rl⟩ := rd.tupI
    subst e1
    exact ⟨_, _, e, .inr ⟨xs', s1, rfl⟩, by rw [rl.length]; exact PostV.val h o .mkInt⟩
  · rename_i n
    obtain ⟨x, e, rd⟩ := r.one
    obtain ⟨_, e1⟩ := rd.ref
    subst e1
    cases c : seqOf w.M n with
    | none => rw [c] at h; exact h.elim
    | some l =>
      rw [c] at h
      obtain ⟨_, xs', s1, rl, _⟩ := o.seq c
      exact ⟨_, _, e, .inl ⟨xs', s1, rfl⟩, by rw [rl.length]; exact PostV.val h o .mkInt⟩
  · rename_i z
    obtain ⟨x, e, rd⟩ := r.one
    unfold RelD at rd
    subst rd
    split at h
    · exact ⟨_, _, e, ⟨by assumption, rfl⟩, PostV.val h o .mkInt⟩
    · exact h.elim
  · exact h.elim
def oToInt (l : List D) (M : Mem) : OV := match l with
  | [.int i] => some (.int i, M)
  | [.bl b] => some (.int (if b then 1 else 0), M)
  | _ => none
theorem bl_int : BlOk T X oToInt (fun xs H Q => (∃ i, xs = [.int i] ∧ Q (.int i) H) ∨ ∃ k, xs = [.bl k] ∧ Q (.int (if k then 1 else 0)) H) := fun w l xs Q o r h => by
  unfold oToInt at h
  split at h
  · obtain ⟨x, e, rd⟩ := r.one
    unfold RelD at rd
    subst rd
    exact .inl ⟨_, e, PostV.val h o .mkInt⟩
  · obtain ⟨x, e, rd⟩ := r.one
    unfold RelD at rd
    subst rd
    exact .inr ⟨_, e, PostV.val h o .mkInt⟩
  · exact h.elim
def oToBool (l : List D) (M : Mem) : OV := match l with
  | [.int i] => some (.bl (i != 0), M)
  | [.bl b] => some (.bl b, M)
  | _ => none
theorem bl_bool : BlOk T X oToBool (fun xs H Q => (∃ i, xs = [.int i] ∧ Q (.bl (i != 0)) H) ∨ ∃ k, xs = [.bl k] ∧ Q (.bl k) H) := fun w l xs Q o r h => by
  unfold oToBool at h
  split at h
  · obtain ⟨x, e, rd⟩ := r.one
    unfold RelD at rd
    subst rd
    exact .inl ⟨_, e, PostV.val h o .mkBl⟩
  · obtain ⟨x, e, rd⟩ := r.one
    unfold RelD at rd
    subst rd
    exact .inr ⟨_, e, PostV.val h o .mkBl⟩
  · exact h.elim
def oAbs (l : List D) (M : Mem) : OV := match l with
  | [.int i] => some (.int (if i < 0 then -i else i), M)
  | _ => none
theorem bl_abs : BlOk T X oAbs (fun xs H Q => ∃ i, xs = [.int i] ∧ Q (.int (if i < 0 then -i else i)) H) := fun w l xs Q o r h => by
  unfold oAbs at h
  split at h
  · obtain ⟨x, e, rd⟩ := r.one
    unfold RelD at rd
    subst rd
    exact ⟨_, e, PostV.val h o .mkInt⟩
  · exact h.elim
def oToStr (l : List D) (M : Mem) : OV := match l with
  | [.int i] => if i.natAbs.log2 < 1920 then some (.str (toString i), M) else none
  | _ => none
theorem bl_str : BlOk T X oToStr (fun xs H Q => ∃ i, xs = [.int i] ∧ i.natAbs.log2 < 1920 ∧ Q (.str (toString i)) H) := fun w l xs Q o r h => by
  unfold oToStr at h
  split at h
  · obtain ⟨x, e, rd⟩ := r.one
    unfold RelD at rd
    subst rd
    split at h
    · exact ⟨_, e, by assumption, PostV.val h o .mkStr⟩
    · exact h.elim
  · exact h.elim
def maxL : List Int → Int → Int
  | [], m => m
  | x :: r, m => maxL r (if m < x then x else m)
def minL : List Int → Int → Int
  | [], m => m
  | x :: r, m => minL r (if x < m then x else m)
theorem maxL_spec : ∀ (l : List Int) (m : Int), (maxL l m = m ∨ maxL l m ∈ l) ∧ m ≤ maxL l m ∧ ∀ x ∈ l, x ≤ maxL l m
  | [], m => ⟨.inl rfl, Int.le_refl _, fun x h => by cases h⟩
  | y :: r, m => by
    have ih := maxL_spec r (if m < y then y else m)
    have e : maxL (y :: r) m = maxL r (if m < y then y else m) := rfl
    rw [e]
    refine ⟨?_, ?_, fun x hx => ?_⟩
    · rcases ih.1 with h | h
      · rw [h]
        split
        · exact .inr List.mem_cons_self
        · exact .inl rfl
      · exact .inr (List.mem_cons_of_mem _ h)
    · refine Int.le_trans ?_ ih.2.1
      split <;> omega
    · rcases List.mem_cons.mp hx with h | h
      · subst h
        refine Int.le_trans ?_ ih.2.1
        split <;> omega
      · exact ih.2.2 x h
theorem minL_spec : ∀ (l : List Int) (m : Int), (minL l m = m ∨ minL l m ∈ l) ∧ minL l m ≤ m ∧ ∀ x ∈ l, minL l m ≤ x
  | [], m => ⟨.inl rfl, Int.le_refl _, fun x h => by cases h⟩
  | y :: r, m => by
    have ih := minL_spec r (if y < m then y else m)
    have e : minL (y :: r) m = minL r (if y < m then y else m) := rfl
    rw [e]
    refine ⟨?_, ?_, fun x hx => ?_⟩
    · rcases ih.1 with h | h
      · rw [h]
        split
        · exact .inr List.mem_cons_self
        · exact .inl rfl
      · exact .inr (List.mem_cons_of_mem _ h)
    · refine Int.le_trans ih.2.1 ?_
      split <;> omega
    · rcases List.mem_cons.mp hx with h | h
      · subst h
        refine Int.le_trans ih.2.1 ?_
        split <;> omega
      · exact ih.2.2 x h
def oMax (l : List D) (M : Mem) : OV := match l with
  | [.int i, .int j] => some (.int (if j > i then j else i), M)
  | [.int i, .int j, .int k] => some (.int (if k > (if j > i then j else i) then k else (if j > i then j else i)), M)
  | [.ref n] => match (seqOf M n).bind intsD with
    | some (x :: r) => some (.int (maxL r x), M)
    | _ => none
  | _ => none
def oMin (l : List D) (M : Mem) : OV := match l with
  | [.int i, .int j] => some (.int (if j < i then j else i), M)
  | [.ref n] => match (seqOf M n).bind intsD with
    | some (x :: r) => some (.int (minL r x), M)
    | _ => none
  | [.tup l] => match intsD l with
    | some (x :: r) => some (.int (minL r x), M)
    | _ => none
  | _ => none
theorem Wd.Ok.intsAt {R : RC} {w : Wd} (o : w.Ok R) {n : Nat} {ns : List Int} (h : (seqOf w.M n).bind intsD = some ns) : SqL R.K w.H (w.ρ n) (ns.map V.int) ∧ seqOf w.M n = some (ns.map D.int) := by
  cases c : seqOf w.M n with
  | none => rw [c] at h; cases h
  | some l =>
    rw [c] at h
    have e := intsD_map (show intsD l = some ns from h)
    subst e
    obtain ⟨_, xs, s1, rl, _⟩ := o.seq c
    rw [rl.ints] at s1
    exact ⟨s1, rfl⟩
theorem bl_max : BlOk T X oMax (fun xs H Q => (∃ i j, xs = [.int i, .int j] ∧ Q (.int (if j > i then j else i)) H) ∨ (rMax X.K xs H Q ∨ r3Max xs H Q)) := fun w l xs Q o r h => by
  unfold oMax at h
  split at h
  · obtain ⟨x, y, e, rd, rd2⟩ := r.two
    unfold RelD at rd rd2
    subst rd rd2
    exact .inl ⟨_, _, e, PostV.val h o .mkInt⟩
  · unfold RelL at r
    obtain ⟨x, q, e, rd, r⟩ := r
    obtain ⟨y, z, e2, rd2, rd3⟩ := r.two
    unfold RelD at rd rd2 rd3
    subst e e2 rd rd2 rd3
    exact .inr (.inr ⟨_, _, _, rfl, PostV.val h o .mkInt⟩)
  · rename_i n
    obtain ⟨x, e, rd⟩ := r.one
    obtain ⟨_, e1⟩ := rd.ref
    subst e1
    split at h
    · rename_i y q c
      obtain ⟨s, _⟩ := o.intsAt c
      refine .inr (.inl ⟨_, y :: q, e, s, by simp, fun m hm hle => ?_⟩)
      have sp := maxL_spec q y
      have : m = maxL q y := by
        have h1 : maxL q y ≤ m := by
          rcases sp.1 with h1 | h1
          · rw [h1]; exact hle y List.mem_cons_self
          · exact hle _ (List.mem_cons_of_mem _ h1)
        have h2 : m ≤ maxL q y := by
          rcases List.mem_cons.mp hm with h2 | h2
          · rw [h2]; exact sp.2.1
          · exact sp.2.2 m h2
        omega
      rw [this]
      exact PostV.val h o .mkInt
    · exact h.elim
  · exact h.elim
theorem bl_min : BlOk T X oMin (fun xs H Q => (∃ i j, xs = [.int i, .int j] ∧ Q (.int (if j < i then j else i)) H) ∨ (rMin X.K xs H Q ∨ rMinT X.K xs H Q)) := fun w l xs Q o r h => by
  unfold oMin at h
  split at h
  · obtain ⟨x, y, e, rd, rd2⟩ := r.two
    unfold RelD at rd rd2
    subst rd rd2
    exact .inl ⟨_, _, e, PostV.val h o .mkInt⟩
  · rename_i n
    obtain ⟨x, e, rd⟩ := r.one
    obtain ⟨_, e1⟩ := rd.ref
    subst e1
    split at h
    · rename_i y q c
      obtain ⟨s, _⟩ := o.intsAt c
      refine .inr (.inl ⟨_, y :: q, e, s, by simp, fun m hm hle => ?_⟩)
      have sp := minL_spec q y
      have : m = minL q y := by
        have h1 : m ≤ minL q y := by
          rcases sp.1 with h1 | h1
          · rw [h1]; exact hle y List.mem_cons_self
          · exact hle _ (List.mem_cons_of_mem _ h1)
        have h2 : minL q y ≤ m := by
          rcases List.mem_cons.mp hm with h2 | h2
          · rw [h2]; exact sp.2.1
          · exact sp.2.2 m h2
        omega
      rw [this]
      exact PostV.val h o .mkInt
    · exact h.elim
  · rename_i l
    obtain ⟨x, e, rd⟩ := r.one
    obtain ⟨a, xs', ea, sa, ra⟩ := rd.tupI
    subst ea
    split at h
    · rename_i y q c
      have c2 := intsD_map c
      subst c2
      rw [ra.ints] at sa
      refine .inr (.inr ⟨_, y :: q, e, sa, by simp, fun m hm hle => ?_⟩)
      have sp := minL_spec q y
      have : m = minL q y := by
        have h1 : m ≤ minL q y := by
          rcases sp.1 with h1 | h1
          · rw [h1]; exact hle y List.mem_cons_self
          · exact hle _ (List.mem_cons_of_mem _ h1)
        have h2 : minL q y ≤ m := by
          rcases List.mem_cons.mp hm with h2 | h2
          · rw [h2]; exact sp.2.1
          · exact sp.2.2 m h2
        omega
      rw [this]
      exact PostV.val h o .mkInt
    · exact h.elim
  · exact h.elim
def oSum (l : List D) (M : Mem) : OV := match l with
  | [.ref n] => match (seqOf M n).bind intsD with
    | some ns => some (.int ns.sum, M)
    | none => none
  | [.tup l] => match intsD l with
    | some ns => some (.int ns.sum, M)
    | none => none
  | _ => none
theorem bl_sum : BlOk T X oSum (fun xs H Q => rSum X.K xs H Q ∨ rSumT X.K xs H Q) := fun w l xs Q o r h => by
  unfold oSum at h
  split at h
  · rename_i n
    obtain ⟨x, e, rd⟩ := r.one
    obtain ⟨_, e1⟩ := rd.ref
    subst e1
    split at h
    · rename_i ns c
      obtain ⟨s, _⟩ := o.intsAt c
      exact .inl ⟨_, ns, e, s, PostV.val h o .mkInt⟩
    · exact h.elim
  · rename_i l
    obtain ⟨x, e, rd⟩ := r.one
    obtain ⟨a, xs', ea, sa, ra⟩ := rd.tupI
    subst ea
    split at h
    · rename_i ns c
      have c2 := intsD_map c
      subst c2
      rw [ra.ints] at sa
      exact .inr ⟨_, ns, e, sa, PostV.val h o .mkInt⟩
    · exact h.elim
  · exact h.elim
def oAll (l : List D) (M : Mem) : OV := match l with
  | [.ref n] => match (seqOf M n).bind blsD with
    | some ns => some (.bl (ns.all id), M)
    | none => none
  | _ => none
theorem bl_all : BlOk T X oAll (rAll X.K) := fun w l xs Q o r h => by
  unfold oAll at h
  split at h
  · rename_i n
    obtain ⟨x, e, rd⟩ := r.one
    obtain ⟨_, e1⟩ := rd.ref
    subst e1
    cases c : seqOf w.M n with
    | none => rw [c] at h; exact h.elim
    | some l =>
      rw [c] at h
      split at h
      · rename_i ns c2
        have e2 := blsD_map (show blsD l = some ns from c2)
        subst e2
        obtain ⟨_, xs', s1, rl, _⟩ := o.seq c
        rw [rl.bls] at s1
        exact ⟨_, ns, e, s1, PostV.val h o .mkBl⟩
      · exact h.elim
  · exact h.elim
def oToTup (l : List D) (M : Mem) : OV := match l with
  | [.tup l] => some (.tup l, M)
  | [.ref n] => (seqOf M n).map fun l => (.tup l, M)
  | _ => none
theorem bl_tup : BlOk T X oToTup (fun xs H Q => ∃ p ys, xs = [.ref p] ∧ ((SqL X.K H p ys ∧ ∀ l, H l = none → Q (.ref l) (upd H l (.tup ys))) ∨ (SqT X.K H p ys ∧ Q (.ref p) H))) := fun w l xs Q o r h => by
  unfold oToTup at h
  split at h
  · obtain ⟨x, e, rd⟩ := r.one
    obtain ⟨p, ys, e1, s1, rl⟩ := id rd.tupI
    subst e1
    exact ⟨p, ys, e, .inr ⟨s1, PostV.val h o rd⟩⟩
  · rename_i n
    obtain ⟨x, e, rd⟩ := r.one
    obtain ⟨_, e1⟩ := rd.ref
    subst e1
    cases c : seqOf w.M n with
    | none => rw [c] at h; exact h.elim
    | some l =>
      rw [c] at h
      obtain ⟨_, xs', s1, rl, _⟩ := o.seq c
      exact ⟨_, xs', e, .inl ⟨s1, PostV.tup h o rl⟩⟩
  · exact h.elim
def oToLst (l : List D) (M : Mem) : OV := match l with
  | [.tup l] => some (.ref M.length, M ++ [.lst l])
  | [.ref n] => (seqOf M n).map fun l => (.ref M.length, M ++ [.lst l])
  | _ => none
theorem bl_lst : BlOk T X oToLst (fun xs H Q => ∃ p ys, xs = [.ref p] ∧ (SqL X.K H p ys ∨ SqT X.K H p ys) ∧ ∀ l, H l = none → Q (.ref l) (upd H l (.lst ys))) := fun w l xs Q o r h => by
  unfold oToLst at h
  split at h
  · obtain ⟨x, e, rd⟩ := r.one
    obtain ⟨p, ys, e1, s1, rl⟩ := id rd.tupI
    subst e1
    exact ⟨p, ys, e, .inr s1, PostV.lst h o rl⟩
  · rename_i n
    obtain ⟨x, e, rd⟩ := r.one
    obtain ⟨_, e1⟩ := rd.ref
    subst e1
    cases c : seqOf w.M n with
    | none => rw [c] at h; exact h.elim
    | some l =>
      rw [c] at h
      obtain ⟨_, xs', s1, rl, _⟩ := o.seq c
      exact ⟨_, xs', e, .inl s1, PostV.lst h o rl⟩
  · exact h.elim
/-- ints in order -/
def insI (x : Int) : List Int → List Int
  | [] => [x]
  | y :: r => if x ≤ y then x :: y :: r else y :: insI x r
def sortI : List Int → List Int
  | [] => []
  | x :: r => insI x (sortI r)
theorem insI_perm (x : Int) : ∀ l, (insI x l).Perm (x :: l)
  | [] => .refl _
  | y :: r => by
    unfold insI
    split
    · exact .refl _
    · exact ((insI_perm x r).cons y).trans (.swap x y r)
theorem sortI_perm : ∀ l, (sortI l).Perm l
  | [] => .refl _
  | x :: r => (insI_perm x _).trans ((sortI_perm r).cons x)
theorem insI_sorted (x : Int) : ∀ l : List Int, l.Pairwise (· ≤ ·) → (insI x l).Pairwise (· ≤ ·)
  | [], _ => by simp [insI]
  | y :: r, h => by
    have h' := List.pairwise_cons.mp h
    unfold insI
    split
    · rename_i hxy
      refine List.pairwise_cons.mpr ⟨fun z hz => ?_, h⟩
      rcases List.mem_cons.mp hz with e | hz
      · subst e; exact hxy
      · exact Int.le_trans hxy (h'.1 z hz)
    · rename_i hxy
      refine List.pairwise_cons.mpr ⟨fun z hz => ?_, insI_sorted x r h'.2⟩
      rcases List.mem_cons.mp ((insI_perm x r).mem_iff.mp hz) with e | hz
      · subst e; omega
      · exact h'.1 z hz
theorem sortI_sorted : ∀ l, (sortI l).Pairwise (· ≤ ·)
  | [] => by simp [sortI]
  | x :: r => insI_sorted x _ (sortI_sorted r)
theorem sorted_one : ∀ {l m : List Int}, l.Pairwise (· ≤ ·) → m.Pairwise (· ≤ ·) → l.Perm m → l = m
  | [], m, _, _, p => (List.nil_perm.mp p).symm
  | x :: r, [], _, _, p => by have := p.length_eq; simp at this
  | x :: r, y :: q, h1, h2, p => by
    have a := List.pairwise_cons.mp h1
    have b := List.pairwise_cons.mp h2
    have e : x = y := by
      have hx : x ∈ y :: q := p.mem_iff.mp List.mem_cons_self
      have hy : y ∈ x :: r := p.mem_iff.mpr List.mem_cons_self
      rcases List.mem_cons.mp hx with e | hx
      · exact e
      · rcases List.mem_cons.mp hy with e | hy
        · exact e.symm
        · have := b.1 x hx
          have := a.1 y hy
          omega
    subst e
    rw [sorted_one a.2 b.2 (List.perm_cons _ |>.mp p)]
def oSorted (l : List D) (M : Mem) : OV := match l with
  | [.ref n] => match (seqOf M n).bind intsD with
    | some ns => if ns.length < 64 then some (.ref M.length, M ++ [.lst ((sortI ns).map D.int)]) else none
    | none => none
  | _ => none
theorem bl_sorted : BlOk T X oSorted (rSorted X.K) := fun w l xs Q o r h => by
  unfold oSorted at h
  split at h
  · rename_i n
    obtain ⟨x, e, rd⟩ := r.one
    obtain ⟨_, e1⟩ := rd.ref
    subst e1
    split at h
    · rename_i ns c
      obtain ⟨s, _⟩ := o.intsAt c
      split at h
      · rename_i hz
        refine ⟨_, ns, e, s, hz, fun ns' p pm so hp => ?_⟩
        have e2 : ns' = sortI ns := sorted_one so (sortI_sorted ns) (pm.trans (sortI_perm ns).symm)
        subst e2
        exact PostV.lst h o (RelL.mkInts _) p hp
      · exact h.elim
    · exact h.elim
  · exact h.elim
/-! isinstance -/
def tyOf (M : Mem) : D → Option String
  | .non => some "NoneType"
  | .bl _ => some "bool"
  | .int _ => some "int"
  | .str _ => some "str"
  | .tup _ => some "tuple"
  | .ref n => (seqOf M n).map fun _ => "list"
  | _ => none
def isiT (a t : String) : Option Bool := if a = t then some true else if a = "bool" ∧ t = "int" then some true else
  if t = "int" ∨ t = "bool" ∨ t = "str" ∨ t = "tuple" ∨ t = "list" then (if a = "NoneType" ∨ a = "int" ∨ a = "bool" ∨ a = "str" ∨ a = "tuple" ∨ a = "list" then some false else none) else none
theorem isiT_ok {a t : String} {b : Bool} (h : isiT a t = some b) : kitB a t = some b := by
  unfold isiT at h
  split at h
  · rename_i e
    subst e
    cases h
    unfold kitB
    rw [if_pos (beq_self_eq_true _)]
  · split at h
    · rename_i e
      obtain ⟨rfl, rfl⟩ := e
      cases h
      decide +kernel
    · split at h
      · rename_i n1 n2 ht
        split at h
        · rename_i ha
          cases h
          rcases ht with rfl | rfl | rfl | rfl | rfl <;> rcases ha with rfl | rfl | rfl | rfl | rfl | rfl <;> first | exact absurd rfl n1 | exact absurd ⟨rfl, rfl⟩ n2 | decide +kernel
        · cases h
      · cases h
def oIsi (l : List D) (M : Mem) : OV := match l with
  | [d, .ty t] => (tyOf M d).bind fun a => (isiT a t).map fun b => (.bl b, M)
  | _ => none
theorem tyOf_ok {R : RC} {w : Wd} (o : w.Ok R) {d : D} {v : V} {a : String} (h : tyOf w.M d = some a) (r : RelD R w d v) : TyX R.K w.H v (.type a) := by
  cases d with
  | non => cases h; unfold RelD at r; subst r; exact .base .non
  | bl b => cases h; unfold RelD at r; subst r; exact .base (.bl b)
  | int b => cases h; unfold RelD at r; subst r; exact .base (.int b)
  | str b => cases h; unfold RelD at r; subst r; exact .base (.str b)
  | tup l =>
    cases h
    obtain ⟨p, xs, e, s, _⟩ := r.tupI
    subst e
    rcases s with (s | ⟨ob, s⟩) | ⟨ob, its, n, k, c, _⟩
    · exact .base (.tup s)
    · exact .fTuple s
    · exact .kTuple k c
  | ref n =>
    obtain ⟨_, e⟩ := r.ref
    subst e
    have h' : ((seqOf w.M n).map fun _ => "list") = some a := h
    cases c : seqOf w.M n with
    | none => rw [c] at h'; cases h'
    | some l =>
      rw [c] at h'
      cases h'
      obtain ⟨_, xs, _, _, s | ⟨ob, s⟩⟩ := o.seq c
      · exact .base (.lst s)
      · exact .base (.frz s)
  | _ => cases h
theorem bl_isi : BlOk T X oIsi (rIsi X.K) := fun w l xs Q o r h => by
  unfold oIsi at h
  split at h
  · rename_i d t
    obtain ⟨x, y, e, r1, r2⟩ := r.two
    unfold RelD at r2
    subst r2
    cases c : tyOf w.M d with
    | none => rw [c] at h; exact h.elim
    | some a =>
      rw [c] at h
      have h' : PostV (rc T X) w Q ((isiT a t).map fun b => (.bl b, w.M)) := h
      cases c2 : isiT a t with
      | none => rw [c2] at h'; exact h'.elim
      | some b =>
        rw [c2] at h'
        exact ⟨x, .ty t, .type a, .type t, b, e, ClsV.ty t, tyOf_ok o c r1, kit_ty (isiT_ok c2), PostV.val h' o .mkBl⟩
  · exact h.elim
end
end Pd
namespace Pd
open PySem PySem.Spec PyProof.Rows L2
/-! ### canonical readings -/
def tE {α β : Type} (R : RC) (W : WX) (rel : Wd → α → β → Prop) (f : EF α) : St → Hp → (β → Hp → Prop) → Prop :=
  fun σ H Q => ∃ w δ, w.H = H ∧ w.Ok R ∧ SRel R w δ σ ∧ Post R W w σ rel Q (f δ w.M)
section
variable {T : TB} {W : WX} {X : Cx}
theorem EV.pe {e : Expr} {f : EF D} (h : EV T W X e f) : PE X e (tE (rc T X) W (RelD (rc T X)) f) := by
  obtain ⟨t, p, q⟩ := h
  refine ⟨fun pins s σ H Q I ⟨w, δ, e1, o, sr, k⟩ => ?_⟩
  subst e1
  exact p.run pins s σ w.H Q I (q w δ σ Q o sr k)
theorem ET.pt {e : Expr} {f : EF Bool} (h : ET T W X e f) : PT X e (tE (rc T X) W relB f) := by
  obtain ⟨t, p, q⟩ := h
  refine ⟨fun pins s σ H Q I ⟨w, δ, e1, o, sr, k⟩ => ?_⟩
  subst e1
  exact p.run pins s σ w.H Q I (q w δ σ Q o sr k)
end
/-! ### targets -/
def wipeD (δ : DEnv) : List Nat → DEnv
  | [] => δ
  | v :: vs => (wipeD δ vs).set v none
theorem SRel.wipe {R : RC} {w : Wd} {δ : DEnv} {σ : St} (s : SRel R w δ σ) : ∀ vs, SRel R w (wipeD δ vs) (wipe σ vs)
  | [] => s
  | v :: vs => (SRel.wipe s vs).forget v
abbrev GF (α : Type) := α → DEnv → Mem → Option (DEnv × Mem)
def PostG (R : RC) (w : Wd) (vs : List Nat) (σ : St) (Q : St → Hp → Prop) : Option (DEnv × Mem) → Prop
  | some p => ∀ w' σ', w'.M = p.2 → w.le w' → w'.Ok R → SRel R w' p.1 σ' → (∀ us, (∀ i ∈ vs, i ∈ us) → L2.wipe σ' us = L2.wipe σ us) → Q σ' w'.H
  | none => False
/-- a target; vs: the slots that it stores -/
def EG (T : TB) (X : Cx) (tg : Expr) (vs : List Nat) (g : GF D) : Prop :=
  ∃ t, PG X tg t ∧ ∀ w δ σ d v Q, w.Ok (rc T X) → SRel (rc T X) w δ σ → RelD (rc T X) w d v → PostG (rc T X) w vs σ Q (g d δ w.M) → t v σ w.H Q
def EGs (T : TB) (X : Cx) (ts : List Expr) (vs : List Nat) (g : GF (List D)) : Prop :=
  ∃ t, PGs X ts t ∧ ∀ w δ σ d v Q, w.Ok (rc T X) → SRel (rc T X) w δ σ → RelL (rc T X) w d v → PostG (rc T X) w vs σ Q (g d δ w.M) → t v σ w.H Q
def gNm (i : Nat) : GF D := fun d δ M => some (δ.set i (some d), M)
def gsNil : GF (List D) := fun l δ M => match l with
  | [] => some (δ, M)
  | _ => none
def gsCons (g : GF D) (h : GF (List D)) : GF (List D) := fun l δ M => match l with
  | d :: r => (g d δ M).bind fun p => h r p.1 p.2
  | [] => none
def gTp (n : Nat) (h : GF (List D)) : GF D := fun d δ M => match d with
  | .tup l => if l.length = n then h l δ M else none
  | .ref k => match seqOf M k with
    | some l => if l.length = n then h l δ M else none
    | none => none
  | _ => none
/-- a tuple alone -/
def gTpT (n : Nat) (h : GF (List D)) : GF D := fun d δ M => match d with
  | .tup l => if l.length = n then h l δ M else none
  | _ => none
theorem wipe_set {σ : St} {i : Nat} {v : Option V} : ∀ {us : List Nat}, i ∈ us → L2.wipe (σ.set i v) us = L2.wipe σ us
  | [], h => by cases h
  | u :: us, h => by
    show (L2.wipe (σ.set i v) us).set u none = (L2.wipe σ us).set u none
    by_cases hi : i ∈ us
    · rw [wipe_set hi]
    · have e : i = u := by
        rcases List.mem_cons.mp h with h | h
        · exact h
        · exact absurd h hi
      subst e
      have : ∀ us : List Nat, i ∉ us → L2.wipe (σ.set i v) us = (L2.wipe σ us).set i v := by
        intro us
        induction us with
        | nil => intro _; rfl
        | cons a r ih =>
          intro hn
          show (L2.wipe (σ.set i v) r).set a none = ((L2.wipe σ r).set a none).set i v
          rw [ih fun z => hn (List.mem_cons_of_mem _ z)]
          exact List.set_comm _ _ fun z => hn (by rw [z]; exact List.mem_cons_self)
      rw [this us hi, List.set_set]
section
variable {T : TB} {X : Cx} {x : Str} {i : Nat} {pos : Pos} {vs us : List Nat} {g : GF D} {h : GF (List D)} {e : Expr} {es : List Expr}
theorem EG.name (hN : X.N.Nodup) (hi : X.N[i]? = some x) (hx : Loc X.env.scope x) (hf : X.fn x = true ∨ X.env.scope.names.lookup x = some .local) : EG T X (.Name x pos) [i] (gNm i) :=
  ⟨gName i, pg_name hN hi hx hf, fun w δ σ d v Q o s r k => k w _ rfl (.refl _) o (s.set r i) fun us h => wipe_set (h i List.mem_cons_self)⟩
theorem EGs.nil : EGs T X [] [] gsNil := by
  refine ⟨gNil, pgs_nil, fun w δ σ d v Q o s r k => ?_⟩
  cases d with
  | nil => unfold RelL at r; exact ⟨r, k w _ rfl (.refl _) o s fun _ _ => rfl⟩
  | cons a b => exact k.elim
theorem EGs.cons (hg : EG T X e vs g) (hh : EGs T X es us h) (hs : (assignEach (e :: es) X.env).map (·.2) = assign e X.env :: (assignEach es X.env).map (·.2)) : EGs T X (e :: es) (vs ++ us) (gsCons g h) := by
  obtain ⟨tg, pg, qg⟩ := hg
  obtain ⟨th, ph, qh⟩ := hh
  refine ⟨gCons tg th, pgs_cons pg ph hs, fun w δ σ d v Q o s r k => ?_⟩
  cases d with
  | nil => exact k.elim
  | cons a b =>
    unfold RelL at r
    obtain ⟨x, q, e1, ra, rb⟩ := r
    subst e1
    refine ⟨x, q, rfl, qg w δ σ a x _ o s ra ?_⟩
    have k' : PostG (rc T X) w (vs ++ us) σ Q ((g a δ w.M).bind fun p => h b p.1 p.2) := k
    cases c : g a δ w.M with
    | none => rw [c] at k'; exact k'.elim
    | some p =>
      rw [c] at k'
      intro w1 σ1 e1 l1 o1 s1 u1
      refine qh w1 p.1 σ1 b q Q o1 s1 (RelL.mono l1 _ _ rb) ?_
      rw [e1]
      have k2 : PostG (rc T X) w (vs ++ us) σ Q (h b p.1 p.2) := k'
      cases c2 : h b p.1 p.2 with
      | none => rw [c2] at k2; exact k2.elim
      | some p2 =>
        rw [c2] at k2
        intro w2 σ2 e2 l2 o2 s2 u2
        refine k2 w2 σ2 e2 (l1.trans l2) o2 s2 fun ks hk => ?_
        rw [u2 ks fun i hi => hk i (List.mem_append_right _ hi), u1 ks fun i hi => hk i (List.mem_append_left _ hi)]
theorem EG.tup {k n : Nat} (hc : X.calm = true) (hh : EGs T X es us h) (hn : (assignEach es X.env).length = n) (hst : (assignEach es X.env).findIdx? (·.1) = none) : EG T X (.Tuple es k pos) us (gTp n h) := by
  obtain ⟨th, ph, qh⟩ := hh
  refine ⟨fun v σ H Q => gTup X.K n th v σ H Q ∨ gUnl X.K n th v σ H Q, ⟨fun pins s σ H v u Q I r q => ?_⟩, fun w δ σ d v Q o s r k => ?_⟩
  · rcases q with q | q
    · exact (pg_tup hc ph hn hst).run pins s σ H v u Q I r q
    · exact (pg_unl hc ph hn hst).run pins s σ H v u Q I r q
  cases d with
  | tup l =>
    obtain ⟨p, xs, e1, s1, rl⟩ := r.tupI
    have k' : PostG (rc T X) w us σ Q (if l.length = n then h l δ w.M else none) := k
    split at k'
    · rename_i hl
      exact .inl ⟨p, xs, e1, s1, by rw [rl.length]; exact hl, qh w δ σ l xs Q o s rl k'⟩
    · exact k'.elim
  | ref m =>
    obtain ⟨_, ev⟩ := r.ref
    have k' : PostG (rc T X) w us σ Q (match seqOf w.M m with
      | some l => if l.length = n then h l δ w.M else none
      | none => none) := k
    split at k'
    · rename_i l c
      obtain ⟨_, xs, s1, rl, _⟩ := o.seq c
      split at k'
      · rename_i hl
        exact .inr ⟨_, xs, ev, s1, by rw [rl.length]; exact hl, qh w δ σ l xs Q o s rl k'⟩
      · exact k'.elim
    · exact k'.elim
  | _ => exact k.elim
end
/-- o[i] = .. -/
def gSb (f i : EF D) : GF D := fun d δ M => match f δ M with
  | .ok a M1 => match i δ M1 with
    | .ok b M2 => match a, b with
      | .ref n, .int k => match lstOf M2 n with
        | some l => (ixN l.length k).map fun j => (δ, M2.set n (.lst (l.set j d)))
        | none => none
      | .ref n, .tup t => match dctOf M2 n, keyT (.tup t) with
        | some kvs, some k => if kvs.length < sizeLine then some (δ, M2.set n (.dct (putD kvs (.tup t) d k))) else none
        | _, _ => none
      | _, _ => none
    | _ => none
  | _ => none
theorem PSet.or {X : Cx} {t t' : TSet} (h : PSet X t) (h' : PSet X t') : PSet X fun o i v H Q => t o i v H Q ∨ t' o i v H Q := by
  intro pins s σ H o i v ov iv u Q I ro ri rv q
  rcases q with q | q
  · exact h pins s σ H o i v ov iv u Q I ro ri rv q
  · exact h' pins s σ H o i v ov iv u Q I ro ri rv q
theorem EG.sub {T : TB} {X : Cx} {W : WX} {o i : Expr} {f g : EF D} {pos : Pos} (hu : X.A.units + 65 < cLine) (hf : EV T W X o f) (hg : EV T W X i g) (ha : ∀ v, assign (.Subscript o i pos) X.env v = (do
      let ov ← holding [v] (eval o X.env)
      let iv ← holding [v, ov] (eval i X.env)
      standAt pos
      holding [v, ov, iv] (setItem ov iv v)
      release [v, ov, iv] [])) : EG T X (.Subscript o i pos) [] (gSb f g) := by
  obtain ⟨ta, pa, qa⟩ := hf
  obtain ⟨tb, pb, qb⟩ := hg
  refine ⟨_, pg_sub pa pb (PSet.or set_list (set_dn hu)) ha, fun w δ σ d v Q ok s r k => ?_⟩
  unfold gSb at k
  split at k
  · rename_i a M1 e1
    refine qa w δ σ _ ok s ?_
    rw [e1]
    intro w1 v1 m1 l1 o1 r1
    subst m1
    split at k
    · rename_i b M2 e2
      refine qb w1 δ σ _ o1 (s.mono l1) ?_
      rw [e2]
      intro w2 v2 m2 l2 o2 r2
      subst m2
      split at k
      · rename_i n j
        split at k
        · rename_i l c
          obtain ⟨hn, hM, xs, hH, rl⟩ := o2.lst c
          obtain ⟨_, ev⟩ := (RelD.mono l2 _ _ r1).ref
          unfold RelD at r2
          cases c2 : ixN l.length j with
          | none => rw [c2] at k; exact k.elim
          | some q =>
            rw [c2] at k
            have rv := RelD.mono (l1.trans l2) _ _ r
            obtain ⟨op, lp⟩ := o2.putted hM hH trivial (m := .lst (l.set q d)) (u := .lst (xs.set q v)) (fun w' le => ⟨_, rfl, RelL.mono le _ _ (RelL.set rv q rl)⟩) (fun _ z => by cases z)
            exact .inl ⟨_, xs, j, q, ev, r2, hH, by rw [rl.length]; exact c2, k (w2.put n (.lst (l.set q d)) (.lst (xs.set q v))) σ rfl ((l1.trans l2).trans lp) op (s.mono ((l1.trans l2).trans lp)) fun _ _ => rfl⟩
        · exact k.elim
      · rename_i n t
        split at k
        · rename_i kvs kk e1 e2
          split at k
          · rename_i hl
            obtain ⟨hn, hM, a, xs, hH, rk⟩ := o2.dct e1
            obtain ⟨_, ev⟩ := (RelD.mono l2 _ _ r1).ref
            obtain ⟨k1, k2, _⟩ := keyT_ok e2
            have r2' := r2
            unfold RelD at r2'
            obtain ⟨ka, ys, ek, _⟩ := r2'
            subst ek
            have rv := RelD.mono (l1.trans l2) _ _ r
            obtain ⟨op, lp⟩ := o2.putted hM hH (by exact True.intro) (m := .dct (putD kvs (.tup t) d kk)) (u := DcO X.w (w2.ρ n) (putN xs kk ka v)) (fun w' le => ⟨_, _, rfl, RelK.mono le _ _ (RelK.put rk k1 k2 r2 rv)⟩) (fun _ z => by cases z)
            exact .inr ⟨_, a, xs, kk, ka, ev, hH, RelK.keys rk, rfl, keyAt_of _ _ _ k1 r2, k2, by rw [RelK.len rk]; exact hl, k (w2.put n (.dct (putD kvs (.tup t) d kk)) (DcO X.w (w2.ρ n) (putN xs kk ka v))) σ rfl ((l1.trans l2).trans lp) op (s.mono ((l1.trans l2).trans lp)) fun _ _ => rfl⟩
          · exact k.elim
        · exact k.elim
      · exact k.elim
    · exact k.elim
  · exact k.elim
/-! ### statements -/
def PostS (R : RC) (W : WX) (w : Wd) (D : Ends) : ResS → Prop
  | .nx δ M => ∀ w' σ', w'.M = M → w.le w' → w'.Ok R → SRel R w' δ σ' → D.nx σ' w'.H
  | .rt d M => ∀ w' v, w'.M = M → w.le w' → w'.Ok R → RelD R w' d v → D.rt v w'.H
  | .bk δ M => ∀ w' σ', w'.M = M → w.le w' → w'.Ok R → SRel R w' δ σ' → D.bk σ' w'.H
  | .ct δ M => ∀ w' σ', w'.M = M → w.le w' → w'.Ok R → SRel R w' δ σ' → D.ct σ' w'.H
  | .exc x δ M => ∀ w' σ' cls dx, w'.M = M → w.le w' → w'.Ok R → SRel R w' δ σ' → RelX R w' x cls dx → W cls dx σ' w'.H
  | .bad => False
theorem PostS.at {R : RC} {W : WX} {w w' : Wd} {E : Ends} (l : w.le w') : ∀ {r : ResS}, PostS R W w E r → PostS R W w' E r
  | .nx _ _, h => fun w2 σ e l2 o s => h w2 σ e (l.trans l2) o s
  | .rt _ _, h => fun w2 σ e l2 o s => h w2 σ e (l.trans l2) o s
  | .bk _ _, h => fun w2 σ e l2 o s => h w2 σ e (l.trans l2) o s
  | .ct _ _, h => fun w2 σ e l2 o s => h w2 σ e (l.trans l2) o s
  | .exc _ _ _, h => fun w2 σ c d e l2 o s x => h w2 σ c d e (l.trans l2) o s x
  | .bad, h => h
def ES (T : TB) (W : WX) (X : Cx) (st : Stmt) (f : DS) : Prop :=
  ∃ t, PS X st t ∧ ∀ w δ σ E, w.Ok (rc T X) → SRel (rc T X) w δ σ → PostS (rc T X) W w E (f δ w.M) → t E σ w.H
def ESs (T : TB) (W : WX) (X : Cx) (st : List Stmt) (f : DS) : Prop :=
  ∃ t, PSs X st t ∧ ∀ w δ σ E, w.Ok (rc T X) → SRel (rc T X) w δ σ → PostS (rc T X) W w E (f δ w.M) → t E σ w.H
/-- from a value on -/
def onV {α : Type} (r : Res α) (δ : DEnv) (k : α → Mem → ResS) : ResS := match r with
  | .ok a M => k a M
  | .exc x M => .exc x δ M
  | .bad => .bad
def onG (r : Option (DEnv × Mem)) (k : DEnv → Mem → ResS) : ResS := match r with
  | some p => k p.1 p.2
  | none => .bad
def sBad : DS := fun _ _ => .bad
def sNil : DS := fun δ M => .nx δ M
def sSeq (f g : DS) : DS := fun δ M => match f δ M with
  | .nx δ1 M1 => g δ1 M1
  | r => r
def sAsg (f : EF D) (g : GF D) : DS := fun δ M => onV (f δ M) δ fun d M1 => onG (g d δ M1) .nx
def sPar (js : List Nat) (f : EF (List D)) : DS := fun δ M => onV (f δ M) δ fun l M1 => if l.length = js.length then .nx ((js.zip l).foldl (fun δ p => δ.set p.1 (some p.2)) δ) M1 else .bad
def sDrop (f : EF D) : DS := fun δ M => onV (f δ M) δ fun _ M1 => .nx δ M1
def sRet (f : EF D) : DS := fun δ M => onV (f δ M) δ fun d M1 => .rt d M1
def sRetN : DS := fun _ M => .rt .non M
def sIf (c : EF Bool) (f g : DS) : DS := fun δ M => onV (c δ M) δ fun b M1 => if b = true then f δ M1 else g δ M1
def sBrk : DS := fun δ M => .bk δ M
def sCnt : DS := fun δ M => .ct δ M
theorem onV_post {α β : Type} {R : RC} {W : WX} {w : Wd} {σ : St} {δ : DEnv} {E : Ends} {rel : Wd → α → β → Prop} {r : Res α} {k : α → Mem → ResS} {Q : β → Hp → Prop} (s : SRel R w δ σ) (h : PostS R W w E (onV r δ k))
    (hk : ∀ a w' b, w.le w' → w'.Ok R → rel w' a b → PostS R W w' E (k a w'.M) → Q b w'.H) : Post R W w σ rel Q r := by
  cases r with
  | ok a M => exact fun w' b e l o q => hk a w' b l o q (by subst e; exact PostS.at l h)
  | exc x M => exact fun w' c d e l o q => h w' σ c d e l o (s.mono l) q
  | bad => exact h
section
variable {T : TB} {W : WX} {X : Cx} {st : Stmt} {rest : List Stmt} {e : Expr} {pos : Pos} {f : EF D} {g : DS} {g2 : DS}
theorem ES.bad : ES T W X st sBad := ⟨tNever, ps_never, fun _ _ _ _ _ _ h => h⟩
theorem ESs.bad : ESs T W X rest sBad := ⟨tNever, pss_never, fun _ _ _ _ _ _ h => h⟩
theorem ESs.nil : ESs T W X [] sNil := ⟨_, pss_nil, fun w δ σ E o s h => h w σ rfl (.refl _) o s⟩
theorem ESs.cons (h1 : ES T W X st g) (h2 : ESs T W X rest g2) : ESs T W X (st :: rest) (sSeq g g2) := by
  obtain ⟨t1, p1, q1⟩ := h1
  obtain ⟨t2, p2, q2⟩ := h2
  refine ⟨_, pss_cons p1 p2, fun w δ σ E o s h => ?_⟩
  refine q1 w δ σ _ o s ?_
  unfold sSeq at h
  split at h
  · rename_i δ1 M1 e1
    rw [e1]
    intro w' σ' m l o' s'
    subst m
    exact q2 w' δ1 σ' E o' s' (PostS.at l h)
  · rename_i r hr
    cases c : g δ w.M with
    | nx δ1 M1 => exact absurd c (hr δ1 M1)
    | rt d M => rw [c] at h; exact h
    | bk d M => rw [c] at h; exact h
    | ct d M => rw [c] at h; exact h
    | exc x d M => rw [c] at h; exact h
    | bad => rw [c] at h; exact h
theorem ES.pass : ES T W X (.Pass pos) sNil := ⟨_, ps_pass, fun w δ σ E o s h => h w σ rfl (.refl _) o s⟩
theorem ES.brk : ES T W X (.Break pos) sBrk := ⟨_, ps_break, fun w δ σ E o s h => h w σ rfl (.refl _) o s⟩
theorem ES.cnt : ES T W X (.Continue pos) sCnt := ⟨_, ps_continue, fun w δ σ E o s h => h w σ rfl (.refl _) o s⟩
theorem ES.expr (he : EV T W X e f) (hs : swapsWith e none pos.line X.env = pure false) : ES T W X (.Expr e pos) (sDrop f) := by
  obtain ⟨ta, pa, qa⟩ := he
  refine ⟨_, ps_expr pa hs, fun w δ σ E o s h => qa w δ σ _ o s (onV_post s h fun a w' b l o' r k => k w' σ rfl (.refl _) o' (s.mono l))⟩
theorem ES.ret (he : EV T W X e f) : ES T W X (.Return (some e) pos) (sRet f) := by
  obtain ⟨ta, pa, qa⟩ := he
  refine ⟨_, ps_ret pa, fun w δ σ E o s h => qa w δ σ _ o s (onV_post s h fun a w' b l o' r k => k w' b rfl (.refl _) o' r)⟩
theorem ES.retN : ES T W X (.Return none pos) sRetN := ⟨_, ps_retN, fun w δ σ E o s h => h w .non rfl (.refl _) o .mkNon⟩
theorem ES.ite {c : Expr} {a b : List Stmt} {c0 : EF Bool} (hc : ET T W X c c0) (ha : ESs T W X a g) (hb : ESs T W X b g2) : ES T W X (.If c a b pos) (sIf c0 g g2) := by
  obtain ⟨tc, pc, qc⟩ := hc
  obtain ⟨ta, pa, qa⟩ := ha
  obtain ⟨tb, pb, qb⟩ := hb
  refine ⟨_, ps_if pc pa pb, fun w δ σ E o s h => qc w δ σ _ o s (onV_post s h fun d w' d' l o' r k => ?_)⟩
  cases (show d = d' from r)
  cases d with
  | true => rw [if_pos rfl]; exact qa w' δ σ E o' (s.mono l) k
  | false => rw [if_neg Bool.false_ne_true]; exact qb w' δ σ E o' (s.mono l) k
theorem ES.set {i : Nat} {x : Str} {p : Pos} (hN : X.N.Nodup) (hi : X.N[i]? = some x) (hx : Loc X.env.scope x) (hf : X.fn x = true ∨ X.env.scope.names.lookup x = some .local) (he : EV T W X e f) (hs : swapsWith e (some (.Name x p)) pos.line X.env = pure false) :
    ES T W X (.Assign [.Name x p] e pos) (sAsg f (gNm i)) := by
  obtain ⟨ta, pa, qa⟩ := he
  refine ⟨_, ps_set hN hi hx pa hs hf, fun w δ σ E o s h => qa w δ σ _ o s (onV_post s h fun d w' v l o' r k => ?_)⟩
  exact k w' _ rfl (.refl _) o' ((s.mono l).set r i)
theorem ES.asg {tg : Expr} {vs : List Nat} {gt : GF D} (he : EV T W X e f) (hg : EG T X tg vs gt) (hs : swapsWithSole [tg] e pos.line X.env = pure false) (hw : swappedStores [tg] e X.env = pure none)
    (h1 : (assignEach [tg] X.env).map (·.2) = [assign tg X.env]) : ES T W X (.Assign [tg] e pos) (sAsg f gt) := by
  obtain ⟨ta, pa, qa⟩ := he
  obtain ⟨tg', pg, qg⟩ := hg
  refine ⟨_, ps_asg pa pg hs hw h1, fun w δ σ E o s h => qa w δ σ _ o s (onV_post s h fun d w' v l o' r k => ?_)⟩
  refine qg w' δ σ d v _ o' (s.mono l) r ?_
  cases c : gt d δ w'.M with
  | none => rw [c] at k; exact k.elim
  | some p => rw [c] at k; exact fun w2 σ2 e2 l2 o2 s2 _ => k w2 σ2 e2 l2 o2 s2
theorem ES.par {i j : Nat} {x y : Str} {a b : Expr} {ga : EF (List D)} {px py pt : Pos} {kt k2 pt2} (hc : X.calm = true) (hN : X.N.Nodup) (hi : X.N[i]? = some x) (hj : X.N[j]? = some y) (hij : i ≠ j)
    (hx : X.env.scope.names.lookup x = some .local) (hy : X.env.scope.names.lookup y = some .local) (ha : EA T W X [a, b] ga)
    (hw : swappedStores [.Tuple [.Name x px, .Name y py] kt pt] (.Tuple [a, b] k2 pt2) X.env = pure (some [x, y])) (hs : swapsWithSole [.Tuple [.Name x px, .Name y py] kt pt] (.Tuple [a, b] k2 pt2) pos.line X.env = pure false) :
    ES T W X (.Assign [.Tuple [.Name x px, .Name y py] kt pt] (.Tuple [a, b] k2 pt2) pos) (sPar [i, j] ga) := by
  obtain ⟨ta, pa, qa⟩ := ha
  refine ⟨_, ps_par hc hN hi hj hij hx hy pa hw hs, fun w δ σ E o s h => qa w δ σ _ o s (onV_post s h fun d w' v l o' r k => ?_)⟩
  split at k
  · rename_i hl
    match d, hl with
    | [d1, d2], _ =>
      obtain ⟨v1, v2, e, r1, r2⟩ := RelL.two r
      exact ⟨v1, v2, e, k w' _ rfl (.refl _) o' (((s.mono l).set r1 i).set r2 j)⟩
  · exact k.elim
end
end Pd
namespace Pd
open PySem PySem.Spec PyProof.Rows L2
/-! ### enumerate over a tuple, min and max of a tuple -/
theorem enT_new {v : Value} {o : Obj} {H : Heap → Prop} (B : Begins v o H) :
    Meets (Builtin.«enumerate.__new__» ⟨[.type "enumerate", v], []⟩) (fun _ R s => H s.heap ∧
      R (.ok (.ret (.ref (s.heap.push o).objs.size))) { s with heap := (s.heap.push o).push { cls := .type "enumerate", data := .fields #[.none, .bool false, .ref s.heap.objs.size, rawInt 0, .none, .none] } }) :=
  .of_wp fun prog w A R s h => by
    obtain ⟨hp, g, d, tk, os⟩ := s
    obtain ⟨hH, h⟩ := h
    have sube := sub_enumerate
    have qi : ∀ {A' : Around} {E : Value → Shared → Prop} {Q : Value → Shared → Prop}, Q (.ref hp.objs.size) ⟨hp.push o, g, d, tk, os⟩ → wpAny (model prog w) A' (pyIter v) Q E ⟨hp, g, d, tk, os⟩ := fun q => B.iter prog w _ _ ⟨hp, g, d, tk, os⟩ _ hH q
    wp_walk using qi
    refine wpAny_stack_any fun st => wpAny_pure ?_
    split
    · rename_i cl _ _ _ _ _
      cases (cl == Value.type "enumerate") <;> (wp_walk using qi; exact ⟨_, rfl, h⟩)
    · wp_walk using qi
      exact ⟨_, rfl, h⟩
theorem enT_call {prog : Program} {w : World} {A : Around} {E : Value → Shared → Prop} {s : Shared} {t : Addr} {items : Array Value} {Q : Value → Shared → Prop} (ht : s.heap.IsTuple t items)
    (h : ∀ h', IsEnum h' (s.heap.objs.size + 1) s.heap.objs.size 0 .none → h'.IsTupleIter s.heap.objs.size t 0 → (∀ b o, s.heap.get? b = some o → h'.get? b = some o) → Q (.ref (s.heap.objs.size + 1)) { s with heap := h' }) :
    wpAny (model prog w) A (call (.type "enumerate") [.ref t]) Q E s := by
  have B := begins_tuple t items
  refine callType_new F.called_enumerate (by decide) (F.typeCall_enumerate_1 _) (F.newCall_enumerate_1 _) (fun obj => F.args_object_init_2 obj _) F.entry_enumerate_new (enT_new B) ⟨ht, ?_⟩
  generalize ho : ({ cls := .type "tuple_iterator", data := .fields #[.ref t, .int 0 0] } : Obj) = o at B
  have hz : (s.heap.push o).objs.size = s.heap.objs.size + 1 := Heap.size_push ..
  show _ ∧ _
  rw [hz]
  have he : IsEnum ((s.heap.push o).push { cls := .type "enumerate", data := .fields #[.none, .bool false, .ref s.heap.objs.size, rawInt 0, .none, .none] }) (s.heap.objs.size + 1) s.heap.objs.size 0 .none := by
    have e := Heap.get?_push_size (s.heap.push o) (o := { cls := .type "enumerate", data := .fields #[.none, .bool false, .ref s.heap.objs.size, rawInt 0, .none, .none] }) rfl
    rw [hz] at e
    exact e
  refine ⟨⟨_, he, rfl⟩, h _ he ?_ fun b o x => Heap.get?_push_of_some _ (Heap.get?_push_of_some _ x)⟩
  subst ho
  exact ⟨_, Heap.get?_push_of_some _ (Heap.get?_push_size _ rfl), rfl, rfl⟩
/-- the tuple at a as it stands at each turn, each item in a new pair -/
def ItT (K : PySem.W.Frag) (a : Addr) : It :=
  ⟨fun i H => ∃ (xs : List V) (x : V), SqT K H a xs ∧ xs[i]? = some x, fun i H v H' => ∃ T x, v = .ref T ∧ H T = none ∧ H' = upd H T (.tup [.int (i : Nat), x]) ∧ ∀ xs, SqT K H a xs → xs[i]? = some x, fun i H => ∃ xs : List V, SqT K H a xs ∧ xs.length ≤ i⟩
theorem turn_enT {P : Program} {w : World} {K : PySem.W.Frag} {elts : List Expr} {kk : Nat} {tpos : Pos} (a e it : Addr) (hai : a ≠ it) (hae : a ≠ e) :
    Turn P w K (.Tuple elts kk tpos) (ItT K a) [e, it] e (fun i h => (∃ old, IsEnum h e it ((i : Nat) : Int) old) ∧ h.IsTupleIter it a i ∧ e ≠ it) where
  mem := by simp
  obj := fun i h st b hb => by
    obtain ⟨⟨old, he⟩, ⟨o, ho, hc, hd⟩, _⟩ := st
    have e' : b = e ∨ b = it := by simpa using hb
    rcases e' with z | z <;> rw [z]
    · exact ⟨_, he, fun v q => nomatch q⟩
    · exact ⟨o, ho, fun v q => by rw [hd] at q; cases q⟩
  keep := fun i h h' ⟨⟨old, he⟩, hi, hne⟩ k => ⟨⟨old, k e (by simp) _ he⟩, hi.at fun o q => k it (by simp) o q, hne⟩
  item := by
    intro X hP hw hK hc i pins s σ H E I hf st hg
    subst hP hw hK
    obtain ⟨⟨old, he⟩, hit, hne⟩ := st
    obtain ⟨xs, x, hq, hx⟩ := hg
    obtain ⟨its, rv, p, hz⟩ := I.tuple hq
    obtain ⟨u, hu, ru⟩ := rv.get hx
    have hel : e < s.heap.objs.size := Heap.lt_size he
    have hil : it < s.heap.objs.size := by obtain ⟨_, q, _⟩ := hit; exact Heap.lt_size q
    have hsz : i < its.toArray.size := by
      have := (List.getElem?_eq_some_iff.mp hu).1
      simpa using this
    refine wpAny_pyNext_enum_itemD (Draws.tuple (A := X.A.in1) (I.ok.hd hc) it a hai its.toArray) he ⟨hit, p⟩ hsz hne (by simp [hne, Ne.symm hae]) fun y h' tk hy ho hst' hT _ hk => ?_
    have hy : y = u := by
      have hy : its.toArray[i]? = some y := hy
      have : its.toArray[i]? = some u := by simpa using hu
      rw [this] at hy
      exact (Option.some.inj hy).symm
    subst hy
    refine ⟨_, rfl, wpAny_letOwnedTupleGo_enum (s := { s with heap := h', toks := _ }) ho fun h'' he' sb => ?_⟩
    have hT2 : h''.get? s.heap.objs.size = some { cls := .type "tuple", data := .seq #[.int i tk, y] } := (sb.2 _ (Nat.ne_of_gt hel)).trans hT
    have new : ObjOk X.prog X.w (upd H s.heap.objs.size (.tup [.int (i : Nat), x])) h'' s.heap.objs.size (.tup [.int (i : Nat), x]) :=
      ⟨by show 2 ≤ sizeLine; decide, [.int i tk, y], .cons ⟨_, rfl⟩ (.cons ru .nil), ⟨_, hT2, rfl, _, rfl⟩⟩
    have I1 := I.turnedNew (t' := tk + 1) (ch := [e, it]) (h' := h'') (fun b ob hb q => (sb.2 b (fun z => hb (by simp [z]))).trans (hk b ob (fun z => hb (by simp [z])) (fun z => hb (by simp [z])) q)) hf (Nat.le_refl _) new
    refine ⟨.ref s.heap.objs.size, _, I1, rfl, ⟨_, x, rfl, I.hok.fresh (Nat.le_refl _), rfl, fun ys hy => by rw [I.tuple_inj hy hq]; exact hx⟩, ⟨⟨y, ?_⟩, hst'.1.at fun o q => (sb.2 it (Ne.symm hne)).trans q, hne⟩, fun b hb => ?_⟩
    · rw [show ((i + 1 : Nat) : Int) = (i : Int) + 1 by omega]
      exact he'
    · have hb' : b < s.heap.objs.size := by
        have e' : b = e ∨ b = it := by simpa using hb
        rcases e' with z | z <;> rw [z] <;> assumption
      rw [upd_ne (Nat.ne_of_lt hb')]
      exact (hf b hb).1
  done := by
    intro X hP hw hK hc i pins s σ H E I hf st hg
    subst hP hw hK
    obtain ⟨⟨old, he⟩, hit, hne⟩ := st
    obtain ⟨xs, hq, hx⟩ := hg
    obtain ⟨its, rv, p, hz⟩ := I.tuple hq
    obtain ⟨f0, f1, f2, f3, f4, f5⟩ := hf it (by simp)
    have hl := rv.length
    by_cases hi : i = its.toArray.size
    · subst hi
      exact wpAny_pyNext_enum_endD (Draws.tuple (A := X.A.in1) (I.ok.hd hc) it a hai its.toArray) he ⟨hit, p⟩ fun h' eb => ⟨rfl, I.turned (t' := s.toks) (fun b o hb q => eb b o hb q) f0 f1 f3 f4 f5⟩
    · -- past the end: as at the end
      have hend : its.toArray[i]? = none := by simp; omega
      unfold pyNext
      refine wpAny_bind (wpAny_attempt (wpAny_callSpecial?_slot (name := Str.ofString "__next__") ⟨_, he, rfl⟩ F.slot_enumerate_next (wpAny_call_entry F.slot_enumerate_next ⟨_, he, rfl⟩ F.entry_enumerate_next ?_ (F.args_enumerate_next_1 _))))
      show wpAny _ _ (field (.ref e) 2 >>= _) _ _ _
      refine wpAny_bind (wpAny_field he rfl (x := .ref it) rfl ?_)
      refine wpAny_bind (wpAny_nextOf_tuple_end (I.ok.hd hc) hit p hend fun h' x he' hx' => ?_)
      obtain ⟨o, ho, hc'⟩ := hx'
      refine wpAny_bind (wpAny_isInstance (T := "StopIteration") (b := true) ⟨o, ho, hc'⟩ isSubtype_stop ?_)
      exact wpAny_pure ⟨rfl, I.turned (t' := s.toks) (fun b o hb q => he' b o hb q) f0 f1 f3 f4 f5⟩
  self := fun A i s Q E ⟨⟨_, he⟩, _⟩ h => wpAny_pyIter_enum he h
def iEnA (K : PySem.W.Frag) (ta : TA) : TI := fun σ H R => ta σ H fun vs H1 => ∃ a xs, vs = [.ref a] ∧ ((SqT K H1 a xs ∧ R (ItT K a) H1) ∨ (SqL K H1 a xs ∧ R (Ite K a) H1))
theorem pi_enA {X : Cx} {e : Expr} {ta : TA} {p pos tpos : Pos} {elts : List Expr} {kk : Nat} (hg : Gl X "enumerate") (hm : X.mg "enumerate" = none) (ha : PA X [e] ta) (hs : starEach [e] X.env = [(false, eval e X.env)]) :
    PI X (.Tuple elts kk tpos) (.Call (.Name "enumerate" p) [e] [] pos) (iEnA X.K ta) := by
  refine ⟨fun pins s σ H R I h => ?_⟩
  refine Call_ (ld_blt I hg hm boot_enumerate (PyProof.Rows.callWith_type1 (thn (ha.run pos pins s σ H _ I h) fun us s1 ⟨vs, H1, I1, r1, q1⟩ => ?_) hs rfl))
  obtain ⟨a, xs, ex, q1⟩ := q1
  subst ex
  cases r1 with
  | cons r rr =>
    cases rr
    cases r
    have fresh2 : ∀ b, b ∈ [s1.heap.objs.size + 1, s1.heap.objs.size] → FpOk X pins H1 b := fun b hb => by
      have hle : s1.heap.objs.size ≤ b := by
        have e' : b = s1.heap.objs.size + 1 ∨ b = s1.heap.objs.size := by simpa using hb
        rcases e' with z | z <;> rw [z]
        · exact Nat.le_succ _
        · exact Nat.le_refl _
      exact I1.fpOk hle (I1.hok.fresh hle)
    rcases q1 with ⟨hq, q⟩ | ⟨hq, q⟩
    case inr =>
      obtain ⟨its, rv, p', hz⟩ := I1.list hq
      refine call_enumerate_list p'.isList fun h' he hit hsz hk => wpAny_pyIter_enum he ?_
      have I2 : Inv X pins σ H1 { s1 with heap := h' } := I1.kept (t' := s1.toks) hk
      exact ⟨s1.heap.objs.size + 1, [s1.heap.objs.size + 1, s1.heap.objs.size], _, _, H1, rfl, I2, turn_enum a (s1.heap.objs.size + 1) s1.heap.objs.size, ⟨⟨.none, he⟩, hit, Nat.succ_ne_self _⟩, fresh2, q⟩
    obtain ⟨its, rv, p', hz⟩ := I1.tuple hq
    obtain ⟨o', ho', _⟩ := id p'
    have hal : a < s1.heap.objs.size := Heap.lt_size ho'
    refine enT_call p' fun h' he hit hk => wpAny_pyIter_enum he ?_
    have I2 : Inv X pins σ H1 { s1 with heap := h' } := I1.kept (t' := s1.toks) hk
    exact ⟨s1.heap.objs.size + 1, [s1.heap.objs.size + 1, s1.heap.objs.size], _, _, H1, rfl, I2, turn_enT a (s1.heap.objs.size + 1) s1.heap.objs.size (Nat.ne_of_lt hal) (Nat.ne_of_lt (Nat.lt_succ_of_lt hal)), ⟨⟨.none, he⟩, hit, Nat.succ_ne_self _⟩, fresh2, q⟩
end Pd
namespace Pd
open PySem PySem.Spec PyProof.Rows L2
/-! ### what is walked -/
inductive Src where
  | items (l : List D) | live (n : Nat) | liveE (n : Nat)
def Src.item (M : Mem) (i : Nat) : Src → Option (Option D)
  | .items l => some l[i]?
  | .live n => (seqOf M n).map fun l => l[i]?
  | .liveE n => (seqOf M n).map fun l => l[i]?.map fun d => .tup [.int (i : Nat), d]
def Src.size (M : Mem) : Src → Nat
  | .items l => l.length
  | .live n => ((seqOf M n).getD []).length
  | .liveE n => ((seqOf M n).getD []).length
def SrcJ (R : RC) (w0 : Wd) (s : Src) (J : It) : Prop := ∀ (i : Nat) (w : Wd), w0.le w → w.Ok R → match s.item w.M i with
  | some (some d) => J.go i w.H ∧ ∀ x H', J.yld i w.H x H' → ∃ w', w'.H = H' ∧ w'.M = w.M ∧ w.le w' ∧ w'.Ok R ∧ RelD R w' d x
  | some none => J.stop i w.H
  | none => True
theorem SrcJ.at {R : RC} {w0 w1 : Wd} {s : Src} {J : It} (h : SrcJ R w0 s J) (l : w0.le w1) : SrcJ R w1 s J := fun i w l2 o => h i w (l.trans l2) o
def EI (T : TB) (W : WX) (X : Cx) (tg iter : Expr) (f : EF Src) : Prop :=
  ∃ wi, PI X tg iter wi ∧ ∀ w δ σ Q, w.Ok (rc T X) → SRel (rc T X) w δ σ → Post (rc T X) W w σ (fun w' s J => SrcJ (rc T X) w' s J) Q (f δ w.M) → wi σ w.H Q
def dSeqSrc (f : EF D) : EF Src := fun δ M => (f δ M).bind fun a M1 => match a with
  | .tup l => .ok (.items l) M1
  | .ref n => if (seqOf M1 n).isSome then .ok (.live n) M1 else .bad
  | _ => .bad
def intsR (lo : Int) (n : Nat) : List D := (List.range n).map fun k => .int (lo + (k : Nat))
def dRng1 (g : EF (List D)) : EF Src := fun δ M => (g δ M).bind fun l M1 => match l with
  | [.int j] => if -(2 ^ 62) ≤ j ∧ j < 2 ^ 62 then .ok (.items (intsR 0 j.toNat)) M1 else .bad
  | _ => .bad
def dRng2 (g : EF (List D)) : EF Src := fun δ M => (g δ M).bind fun l M1 => match l with
  | [.int i, .int j] => if -(2 ^ 62) ≤ i ∧ i < 2 ^ 62 ∧ -(2 ^ 62) ≤ j ∧ j < 2 ^ 62 then .ok (.items (intsR i (j - i).toNat)) M1 else .bad
  | _ => .bad
def pairsD : List D → List D → List D
  | a :: l, b :: m => .tup [a, b] :: pairsD l m
  | _, _ => []
def dZip (g : EF (List D)) : EF Src := fun δ M => (g δ M).bind fun l M1 => match l with
  | [.tup l, .tup m] => .ok (.items (pairsD l m)) M1
  | _ => .bad
def enumD : Nat → List D → List D
  | _, [] => []
  | i, d :: l => .tup [.int (i : Nat), d] :: enumD (i + 1) l
theorem enumD_get : ∀ (l : List D) (k i : Nat), (enumD k l)[i]? = l[i]?.map fun d => .tup [.int (k + i : Nat), d]
  | [], k, i => by simp [enumD]
  | d :: l, k, 0 => rfl
  | d :: l, k, i + 1 => by
    show (enumD (k + 1) l)[i]? = _
    rw [enumD_get l (k + 1) i, show k + 1 + i = k + (i + 1) by omega]
    rfl
def dEnumL (g : EF (List D)) : EF Src := fun δ M => (g δ M).bind fun l M1 => match l with
  | [.ref n] => if (seqOf M1 n).isSome then .ok (.liveE n) M1 else .bad
  | [.tup l] => .ok (.items (enumD 0 l)) M1
  | _ => .bad
theorem pi_or {X : Cx} {tg e : Expr} {u v : TI} (h1 : PI X tg e u) (h2 : PI X tg e v) : PI X tg e (fun σ H R => u σ H R ∨ v σ H R) :=
  ⟨fun pins s σ H R I h => h.elim (h1.run pins s σ H R I) (h2.run pins s σ H R I)⟩
theorem pairsD_get : ∀ (l m : List D) (i : Nat), (pairsD l m)[i]? = match l[i]?, m[i]? with
    | some a, some b => some (.tup [a, b])
    | _, _ => none
  | [], m, i => by simp [pairsD]
  | a :: l, [], i => by
    simp only [pairsD, List.getElem?_nil]
    split
    · rename_i _ h; cases h
    · rfl
  | a :: l, b :: m, 0 => rfl
  | a :: l, b :: m, i + 1 => by
    show (pairsD l m)[i]? = _
    rw [pairsD_get l m i]
    rfl
section
variable {T : TB} {W : WX} {X : Cx} {e e2 tg : Expr} {f g : EF D} {p pos : Pos}
theorem src_tup {R : RC} {w0 : Wd} {a : Addr} {l : List D} {xs : List V} (s : SqT R.K w0.H a xs) (r : RelL R w0 l xs) : SrcJ R w0 (.items l) (Itt R.K a) := fun i w le o => by
  have s' := le.fr.sqT s
  have r' := RelL.mono le _ _ r
  show match (some l[i]? : Option (Option D)) with
    | some (some d) => _
    | some none => _
    | none => True
  cases c : l[i]? with
  | none =>
    refine ⟨xs, s', ?_⟩
    rw [r'.length]
    exact List.getElem?_eq_none_iff.mp c
  | some d =>
    obtain ⟨x, hx, rx⟩ := r'.get c
    refine ⟨⟨xs, x, s', hx⟩, fun y H' hy => ?_⟩
    obtain ⟨e1, h1⟩ := hy
    have e2 := h1 xs s'
    rw [hx] at e2
    cases e2
    subst e1
    exact ⟨w, rfl, rfl, .refl _, o, rx⟩
theorem src_live {R : RC} {w0 : Wd} {n : Nat} (hn : n < w0.M.length) : SrcJ R w0 (.live n) (Itl R.K (w0.ρ n)) := fun i w le o => by
  show match ((seqOf w.M n).map fun l => l[i]? : Option (Option D)) with
    | some (some d) => _
    | some none => _
    | none => True
  cases c : seqOf w.M n with
  | none => trivial
  | some l =>
    obtain ⟨_, xs, s1, rl, _⟩ := o.seq c
    rw [le.ρ n hn] at s1
    show match (some l[i]? : Option (Option D)) with
      | some (some d) => _
      | some none => _
      | none => True
    cases c2 : l[i]? with
    | none => exact ⟨xs, s1, by rw [rl.length]; exact List.getElem?_eq_none_iff.mp c2⟩
    | some d =>
      obtain ⟨x, hx, rx⟩ := rl.get c2
      refine ⟨⟨xs, x, s1, hx⟩, fun y H' hy => ?_⟩
      obtain ⟨e1, h1⟩ := hy
      have e2 := h1 xs s1
      rw [hx] at e2
      cases e2
      subst e1
      exact ⟨w, rfl, rfl, .refl _, o, rx⟩
theorem EI.seq (he : EV T W X e f) : EI T W X tg e (dSeqSrc f) := by
  refine ⟨_, pi_or (pi_tup he.pe) (pi_list he.pe), fun w δ σ Q o s h => ?_⟩
  cases c : f δ w.M with
  | bad => unfold dSeqSrc at h; rw [c] at h; exact h.elim
  | exc x M =>
    refine .inl ⟨w, δ, rfl, o, s, ?_⟩
    unfold dSeqSrc at h
    rw [c] at h ⊢
    exact h
  | ok d M =>
    unfold dSeqSrc at h
    rw [c] at h
    cases d with
    | tup l =>
      refine .inl ⟨w, δ, rfl, o, s, ?_⟩
      rw [c]
      intro w' v e1 l1 o1 r1
      obtain ⟨a, xs, ev, s1, rl⟩ := r1.tupI
      exact ⟨a, ev, ⟨xs, s1⟩, h w' _ e1 l1 o1 (src_tup s1 rl)⟩
    | ref n =>
      have h' : Post (rc T X) W w σ (fun w' s J => SrcJ (rc T X) w' s J) Q (if (seqOf M n).isSome then .ok (.live n) M else .bad) := h
      split at h'
      · rename_i hs
        refine .inr ⟨w, δ, rfl, o, s, ?_⟩
        rw [c]
        intro w' v e1 l1 o1 r1
        obtain ⟨hn, ev⟩ := r1.ref
        obtain ⟨l, hl⟩ := Option.isSome_iff_exists.mp hs
        rw [← e1] at hl
        obtain ⟨_, xs, s1, _, _⟩ := o1.seq hl
        exact ⟨_, ev, ⟨xs, s1⟩, h' w' _ e1 l1 o1 (src_live hn)⟩
      · exact h'.elim
    | _ => exact h.elim
theorem intsR_get (lo : Int) (n i : Nat) : (intsR lo n)[i]? = if i < n then some (.int (lo + (i : Nat))) else none := by
  unfold intsR
  rw [List.getElem?_map]
  by_cases h : i < n
  · rw [List.getElem?_range h, if_pos h]; rfl
  · rw [List.getElem?_eq_none (by rw [List.length_range]; omega), if_neg h]; rfl
theorem src_rng {R : RC} {w0 : Wd} {lo : Int} {n : Nat} : SrcJ R w0 (.items (intsR lo n)) (Itr lo n) := fun i w le o => by
  show match (some (intsR lo n)[i]? : Option (Option D)) with
    | some (some d) => _
    | some none => _
    | none => True
  rw [intsR_get]
  by_cases h : i < n
  · rw [if_pos h]
    exact ⟨h, fun x H' hy => ⟨w, hy.1.symm, rfl, .refl _, o, by rw [hy.2]; exact .mkInt⟩⟩
  · rw [if_neg h]
    exact (show n ≤ i by omega)
theorem EI.rng1 {ga : EF (List D)} (hg : Gl X "range") (hm : X.mg "range" = none) (ha : EA T W X [e] ga) (hs : starEach [e] X.env = [(false, eval e X.env)]) : EI T W X tg (.Call (.Name "range" p) [e] [] pos) (dRng1 ga) := by
  obtain ⟨t, pa, qa⟩ := ha
  refine ⟨_, pi_range1 hg hm pa hs, fun w δ σ Q o s h => ?_⟩
  unfold dRng1 at h
  refine qa w δ σ _ o s (h.bind fun l w1 xs l1 o1 r1 h1 => ?_)
  split at h1
  · rename_i j
    obtain ⟨x, e2, r2⟩ := r1.one
    unfold RelD at r2
    subst r2
    split at h1
    · rename_i hj
      exact ⟨j, e2, hj.1, hj.2, h1 w1 _ rfl (.refl _) o1 src_rng⟩
    · exact h1.elim
  · exact h1.elim
theorem EI.rng2 {ga : EF (List D)} (hg : Gl X "range") (hm : X.mg "range" = none) (ha : EA T W X [e, e2] ga) (hs : starEach [e, e2] X.env = [(false, eval e X.env), (false, eval e2 X.env)]) (hs2 : starEach [e2] X.env = [(false, eval e2 X.env)]) :
    EI T W X tg (.Call (.Name "range" p) [e, e2] [] pos) (dRng2 ga) := by
  obtain ⟨t, pa, qa⟩ := ha
  refine ⟨_, pi_range2 hg hm pa hs hs2, fun w δ σ Q o s h => ?_⟩
  unfold dRng2 at h
  refine qa w δ σ _ o s (h.bind fun l w1 xs l1 o1 r1 h1 => ?_)
  split at h1
  · rename_i i j
    obtain ⟨x, y, e2, r2, r3⟩ := r1.two
    unfold RelD at r2 r3
    subst r2 r3
    split at h1
    · rename_i hj
      exact ⟨i, j, e2, hj, h1 w1 _ rfl (.refl _) o1 src_rng⟩
    · exact h1.elim
  · exact h1.elim
theorem src_zipT {R : RC} {w0 : Wd} {a b : Addr} {l m : List D} {xs ys : List V} (s : SqT R.K w0.H a xs) (r : RelL R w0 l xs) (s2 : SqT R.K w0.H b ys) (r2 : RelL R w0 m ys) : SrcJ R w0 (.items (pairsD l m)) (RZ.ItzT R.K a b) := fun i w le o => by
  have s' := le.fr.sqT s
  have s2' := le.fr.sqT s2
  have r' := RelL.mono le _ _ r
  have r2' := RelL.mono le _ _ r2
  show match (some (pairsD l m)[i]? : Option (Option D)) with
    | some (some d) => _
    | some none => _
    | none => True
  rw [pairsD_get]
  cases c : l[i]? with
  | none => exact ⟨xs, ys, s', s2', .inl (by rw [r'.length]; exact List.getElem?_eq_none_iff.mp c)⟩
  | some d =>
    cases c2 : m[i]? with
    | none => exact ⟨xs, ys, s', s2', .inr (by rw [r2'.length]; exact List.getElem?_eq_none_iff.mp c2)⟩
    | some d2 =>
      obtain ⟨x, hx, rx⟩ := r'.get c
      obtain ⟨y, hy, ry⟩ := r2'.get c2
      refine ⟨⟨xs, ys, x, y, s', s2', hx, hy⟩, fun v H' hv => ?_⟩
      obtain ⟨p, x', y', ev, hp, eH, h1, h2⟩ := hv
      have e1 := h1 xs s'
      have e2 := h2 ys s2'
      rw [hx] at e1
      rw [hy] at e2
      cases e1
      cases e2
      obtain ⟨o', l'⟩ := o.beside (u := .tup [x, y]) hp
      refine ⟨⟨w.ρ, w.M, upd w.H p (.tup [x, y]), w.cp⟩, eH.symm, rfl, l', o', ?_⟩
      unfold RelD
      exact ⟨p, [x, y], ev, .inl (.inl upd_same), RelL.mono l' _ _ (.cons rx (.cons ry .nil))⟩
theorem EI.zip {ga : EF (List D)} {elts : List Expr} {kk : Nat} {tpos : Pos} (hg : Gl X "zip") (hm : X.mg "zip" = none) (ha : EA T W X [e, e2] ga) (hs : starEach [e, e2] X.env = (false, eval e X.env) :: starEach [e2] X.env) (hpl : (backTo pos (starEach [e2] X.env)).any (·.1) = false) :
    EI T W X (.Tuple elts kk tpos) (.Call (.Name "zip" p) [e, e2] [] pos) (dZip ga) := by
  obtain ⟨t, pa, qa⟩ := ha
  refine ⟨_, RZ.pi_zipA hg hm pa hs hpl, fun w δ σ Q o s h => ?_⟩
  unfold dZip at h
  refine qa w δ σ _ o s (h.bind fun l w1 xs l1 o1 r1 h1 => ?_)
  split at h1
  · rename_i l m
    obtain ⟨x, y, e2, r2, r3⟩ := r1.two
    obtain ⟨a, xs', ea, sa, ra⟩ := r2.tupI
    obtain ⟨b, ys', eb, sb, rb⟩ := r3.tupI
    subst ea eb
    exact ⟨a, b, xs', ys', e2, .inr ⟨sa, sb, h1 w1 _ rfl (.refl _) o1 (src_zipT sa ra sb rb)⟩⟩
  · exact h1.elim
theorem src_enum {R : RC} {w0 : Wd} {n : Nat} (hn : n < w0.M.length) : SrcJ R w0 (.liveE n) (Ite R.K (w0.ρ n)) := fun i w le o => by
  show match ((seqOf w.M n).map fun l => l[i]?.map fun d => .tup [.int (i : Nat), d] : Option (Option D)) with
    | some (some d) => _
    | some none => _
    | none => True
  cases c : seqOf w.M n with
  | none => trivial
  | some l =>
    obtain ⟨_, xs, s1, rl, _⟩ := o.seq c
    rw [le.ρ n hn] at s1
    show match (some (l[i]?.map fun d => .tup [.int (i : Nat), d]) : Option (Option D)) with
      | some (some d) => _
      | some none => _
      | none => True
    cases c2 : l[i]? with
    | none => exact ⟨xs, s1, by rw [rl.length]; exact List.getElem?_eq_none_iff.mp c2⟩
    | some d =>
      obtain ⟨x, hx, rx⟩ := rl.get c2
      refine ⟨⟨xs, x, s1, hx⟩, fun y H' hy => ?_⟩
      obtain ⟨p, x', ev, hp, eH, h1⟩ := hy
      have e2 := h1 xs s1
      rw [hx] at e2
      cases e2
      obtain ⟨o', l'⟩ := o.beside (u := .tup [.int (i : Nat), x]) hp
      refine ⟨⟨w.ρ, w.M, upd w.H p (.tup [.int (i : Nat), x]), w.cp⟩, eH.symm, rfl, l', o', ?_⟩
      unfold RelD
      exact ⟨p, [.int (i : Nat), x], ev, .inl (.inl upd_same), .cons .mkInt (.cons (RelD.mono l' _ _ rx) .nil)⟩
theorem src_enT {R : RC} {w0 : Wd} {a : Addr} {l : List D} {xs : List V} (s : SqT R.K w0.H a xs) (r : RelL R w0 l xs) : SrcJ R w0 (.items (enumD 0 l)) (ItT R.K a) := fun i w le o => by
  have s' := le.fr.sqT s
  have r' := RelL.mono le _ _ r
  show match (some (enumD 0 l)[i]? : Option (Option D)) with
    | some (some d) => _
    | some none => _
    | none => True
  rw [enumD_get, Nat.zero_add]
  cases c : l[i]? with
  | none => exact ⟨xs, s', by rw [r'.length]; exact List.getElem?_eq_none_iff.mp c⟩
  | some d =>
    obtain ⟨x, hx, rx⟩ := r'.get c
    refine ⟨⟨xs, x, s', hx⟩, fun v H' hv => ?_⟩
    obtain ⟨p, x', ev, hp, eH, h1⟩ := hv
    have e1 := h1 xs s'
    rw [hx] at e1
    cases e1
    obtain ⟨o', l'⟩ := o.beside (u := .tup [.int (i : Nat), x]) hp
    refine ⟨⟨w.ρ, w.M, upd w.H p (.tup [.int (i : Nat), x]), w.cp⟩, eH.symm, rfl, l', o', ?_⟩
    unfold RelD
    exact ⟨p, [.int (i : Nat), x], ev, .inl (.inl upd_same), .cons .mkInt (RelL.mono l' _ _ (.cons rx .nil))⟩
theorem EI.enumL {ga : EF (List D)} {elts : List Expr} {kk : Nat} {tpos : Pos} (hg : Gl X "enumerate") (hm : X.mg "enumerate" = none) (ha : EA T W X [e] ga) (hs : starEach [e] X.env = [(false, eval e X.env)]) :
    EI T W X (.Tuple elts kk tpos) (.Call (.Name "enumerate" p) [e] [] pos) (dEnumL ga) := by
  obtain ⟨t, pa, qa⟩ := ha
  refine ⟨_, pi_enA hg hm pa hs, fun w δ σ Q o s h => ?_⟩
  unfold dEnumL at h
  refine qa w δ σ _ o s (h.bind fun l w1 xs l1 o1 r1 h1 => ?_)
  split at h1
  · rename_i n
    obtain ⟨x, e2, r2⟩ := r1.one
    obtain ⟨hn, ev⟩ := r2.ref
    subst ev
    split at h1
    · rename_i hs'
      obtain ⟨l, hl⟩ := Option.isSome_iff_exists.mp hs'
      obtain ⟨_, xs', s1, _, _⟩ := o1.seq hl
      exact ⟨_, xs', e2, .inr ⟨s1, h1 w1 _ rfl (.refl _) o1 (src_enum hn)⟩⟩
    · exact h1.elim
  · rename_i l
    obtain ⟨x, e2, r2⟩ := r1.one
    obtain ⟨a, xs', ea, sa, ra⟩ := r2.tupI
    subst ea
    exact ⟨a, xs', e2, .inl ⟨sa, h1 w1 _ rfl (.refl _) o1 (src_enT sa ra)⟩⟩
  · exact h1.elim
end
/-! ### for -/
def forF (s : Src) (g : GF D) (body : DS) : Nat → Nat → DS
  | 0, _ => fun _ _ => .bad
  | k + 1, i => fun δ M => match s.item M i with
    | none => .bad
    | some none => .nx δ M
    | some (some d) => onG (g d δ M) fun δ1 M1 => match body δ1 M1 with
      | .nx δ2 M2 => forF s g body k (i + 1) δ2 M2
      | .ct δ2 M2 => forF s g body k (i + 1) δ2 M2
      | .bk δ2 M2 => .nx δ2 M2
      | r => r
def forL (g : GF D) (body : DS) : List D → DS
  | [] => fun δ M => .nx δ M
  | d :: l => fun δ M => onG (g d δ M) fun δ1 M1 => match body δ1 M1 with
      | .nx δ2 M2 => forL g body l δ2 M2
      | .ct δ2 M2 => forL g body l δ2 M2
      | .bk δ2 M2 => .nx δ2 M2
      | r => r
theorem forF_items (l : List D) (g : GF D) (body : DS) : ∀ (k i : Nat), l.length - i < k → ∀ δ M, forF (.items l) g body k i δ M = forL g body (l.drop i) δ M
  | 0, _, h => by omega
  | k + 1, i, h => fun δ M => by
    unfold forF
    show (match (some l[i]? : Option (Option D)) with
      | none => ResS.bad
      | some none => _
      | some (some d) => _) = _
    cases c : l[i]? with
    | none =>
      rw [List.drop_eq_nil_of_le (List.getElem?_eq_none_iff.mp c)]
      rfl
    | some d =>
      obtain ⟨hi, e⟩ := List.getElem?_eq_some_iff.mp c
      rw [List.drop_eq_getElem_cons hi, e]
      unfold forL
      dsimp only
      cases g d δ M with
      | none => rfl
      | some p =>
        dsimp only [onG]
        cases body p.1 p.2 with
        | nx δ2 M2 => exact forF_items l g body k (i + 1) (by omega) δ2 M2
        | ct δ2 M2 => exact forF_items l g body k (i + 1) (by omega) δ2 M2
        | _ => rfl
def loopS (g : GF D) (body : DS) (s : Src) : DS := match s with
  | .items l => forL g body l
  | .live n => fun δ M => forF (.live n) g body (Src.size M (.live n) + 1) 0 δ M
  | .liveE n => fun δ M => forF (.liveE n) g body (Src.size M (.liveE n) + 1) 0 δ M
theorem loopS_eq (g : GF D) (body : DS) (s : Src) (δ : DEnv) (M : Mem) : loopS g body s δ M = forF s g body (s.size M + 1) 0 δ M := by
  cases s with
  | items l => rw [forF_items l g body _ 0 (by show l.length - 0 < l.length + 1; omega)]; rfl
  | live n => rfl
  | liveE n => rfl
def sFor (src : EF Src) (g : GF D) (body : DS) : DS := fun δ M => onV (src δ M) δ fun s M1 => loopS g body s δ M1
section
variable {T : TB} {W : WX} {X : Cx} {tg iter : Expr} {body : List Stmt} {src : EF Src} {vs : List Nat} {g : GF D} {b : DS} {pos : Pos}
theorem ES.for (hp : PassesOwn (model X.prog X.w) X.A X.env X.xe) (hc : X.calm = true) (hi : EI T W X tg iter src) (hg : EG T X tg vs g) (hb : ESs T W X body b)
    (hs : ∀ x, foldedSetIterable iter X.env x = pure x) : ES T W X (.For tg iter body [] pos) (sFor src g b) := by
  obtain ⟨wi, pi, qi⟩ := hi
  obtain ⟨tg', pg, qg⟩ := hg
  obtain ⟨tb, pb, qb⟩ := hb
  refine ⟨_, ps_for hp hc pi pg pb hs, fun w δ σ E o s h => qi w δ σ _ o s (onV_post s h fun sc w1 J l1 o1 sj k => ?_)⟩
  rw [loopS_eq] at k
  refine ⟨fun i m σ H => ∃ w δ, w.H = H ∧ w1.le w ∧ w.Ok (rc T X) ∧ SRel (rc T X) w δ σ ∧ PostS (rc T X) W w E (forF sc g b m i δ w.M), ⟨_, w1, δ, rfl, .refl _, o1, s.mono l1, k⟩, ?_⟩
  rintro i m σ2 H2 ⟨w2, δ2, e2, l2, o2, s2, k2⟩
  subst e2
  cases m with
  | zero => exact k2.elim
  | succ m =>
    have j := sj i w2 l2 o2
    unfold forF at k2
    cases c : sc.item w2.M i with
    | none => rw [c] at k2; exact k2.elim
    | some od =>
      rw [c] at k2 j
      cases od with
      | none => exact .inl ⟨j, k2 w2 σ2 rfl (.refl _) o2 s2⟩
      | some d =>
        refine .inr ⟨j.1, fun σ' H' => ∃ w δ, w.H = H' ∧ w1.le w ∧ w.Ok (rc T X) ∧ SRel (rc T X) w δ σ' ∧ PostS (rc T X) W w E (forF sc g b m (i + 1) δ w.M), fun σ' H' n => ⟨m, Nat.lt_succ_self _, n⟩, fun x H' hy => ?_⟩
        obtain ⟨w3, e3, m3, l3, o3, r3⟩ := j.2 x H' hy
        subst e3
        refine qg w3 δ2 σ2 d x _ o3 (s2.mono l3) r3 ?_
        have k3 : PostS (rc T X) W w2 E (onG (g d δ2 w2.M) fun δ1 M1 => match b δ1 M1 with
          | .nx δ2 M2 => forF sc g b m (i + 1) δ2 M2
          | .ct δ2 M2 => forF sc g b m (i + 1) δ2 M2
          | .bk δ2 M2 => .nx δ2 M2
          | r => r) := k2
        rw [m3]
        cases c2 : g d δ2 w2.M with
        | none => rw [c2] at k3; exact k3.elim
        | some q =>
          rw [c2] at k3
          intro w4 σ4 e4 l4 o4 s4 _
          refine qb w4 q.1 σ4 _ o4 s4 ?_
          rw [e4]
          have k4 : PostS (rc T X) W w4 E (match b q.1 q.2 with
            | .nx δ2 M2 => forF sc g b m (i + 1) δ2 M2
            | .ct δ2 M2 => forF sc g b m (i + 1) δ2 M2
            | .bk δ2 M2 => .nx δ2 M2
            | r => r) := PostS.at (l3.trans l4) k3
          cases c3 : b q.1 q.2 with
          | nx δ5 M5 => rw [c3] at k4; exact fun w5 σ5 e5 l5 o5 s5 => ⟨w5, δ5, rfl, ((l2.trans l3).trans l4).trans l5, o5, s5, by subst e5; exact PostS.at l5 k4⟩
          | ct δ5 M5 => rw [c3] at k4; exact fun w5 σ5 e5 l5 o5 s5 => ⟨w5, δ5, rfl, ((l2.trans l3).trans l4).trans l5, o5, s5, by subst e5; exact PostS.at l5 k4⟩
          | bk δ5 M5 => rw [c3] at k4; exact k4
          | rt d M => rw [c3] at k4; exact k4
          | exc x d M => rw [c3] at k4; exact k4
          | bad => rw [c3] at k4; exact k4
end
/-! ### while -/
def whF (c : EF Bool) (body : DS) : Nat → DS
  | 0 => fun _ _ => .bad
  | n + 1 => fun δ M => onV (c δ M) δ fun b M1 => if b = true then (match body δ M1 with
      | .nx δ2 M2 => whF c body n δ2 M2
      | .ct δ2 M2 => whF c body n δ2 M2
      | .bk δ2 M2 => .nx δ2 M2
      | r => r) else .nx δ M1
open Classical in
noncomputable def sWh (c : EF Bool) (body : DS) : DS := fun δ M => if h : ∃ n, whF c body n δ M ≠ .bad then whF c body (Classical.choose h) δ M else .bad
theorem whF_more {c : EF Bool} {body : DS} : ∀ (n m : Nat) (δ : DEnv) (M : Mem), n ≤ m → whF c body n δ M ≠ .bad → whF c body m δ M = whF c body n δ M
  | 0, _, _, _, _, h => absurd rfl h
  | n + 1, 0, _, _, l, _ => by omega
  | n + 1, m + 1, δ, M, l, h => by
    unfold whF at h ⊢
    cases c1 : c δ M with
    | bad => rfl
    | exc x M1 => rfl
    | ok b M1 =>
      rw [c1] at h
      show (if b = true then _ else _) = (if b = true then _ else _)
      have h : (if b = true then (match body δ M1 with
        | .nx δ2 M2 => whF c body n δ2 M2
        | .ct δ2 M2 => whF c body n δ2 M2
        | .bk δ2 M2 => .nx δ2 M2
        | r => r) else .nx δ M1) ≠ ResS.bad := h
      by_cases hb : b = true
      · rw [if_pos hb] at h ⊢
        rw [if_pos hb]
        cases c2 : body δ M1 with
        | nx δ2 M2 => rw [c2] at h; exact whF_more n m δ2 M2 (by omega) h
        | ct δ2 M2 => rw [c2] at h; exact whF_more n m δ2 M2 (by omega) h
        | bk δ2 M2 => rfl
        | rt d M2 => rfl
        | exc x d M2 => rfl
        | bad => rfl
      · rw [if_neg hb, if_neg hb]
theorem sWh_of {c : EF Bool} {body : DS} {δ : DEnv} {M : Mem} {r : ResS} (n : Nat) (h : whF c body n δ M = r) (hr : r ≠ .bad) : sWh c body δ M = r := by
  unfold sWh
  have ex : ∃ n, whF c body n δ M ≠ .bad := ⟨n, by rw [h]; exact hr⟩
  rw [dif_pos ex]
  have hc := Classical.choose_spec ex
  rcases Nat.le_total n (Classical.choose ex) with l | l
  · rw [whF_more n _ δ M l (by rw [h]; exact hr), h]
  · rw [← whF_more (Classical.choose ex) n δ M l hc, h]
theorem sWh_fuel {c : EF Bool} {body : DS} {δ : DEnv} {M : Mem} : ∃ n, sWh c body δ M = whF c body n δ M := by
  unfold sWh
  split
  · exact ⟨_, rfl⟩
  · exact ⟨0, rfl⟩
section
variable {T : TB} {W : WX} {X : Cx} {c : Expr} {body : List Stmt} {c0 : EF Bool} {b : DS} {pos : Pos}
theorem ES.while (hp : PassesOwn (model X.prog X.w) X.A X.env X.xe) (hc : ET T W X c c0) (hb : ESs T W X body b) : ES T W X (.While c body [] pos) (sWh c0 b) := by
  obtain ⟨tc, pc, qc⟩ := hc
  obtain ⟨tb, pb, qb⟩ := hb
  refine ⟨_, ps_while hp pc pb, fun w δ σ E o s h => ?_⟩
  refine ⟨fun m σ H => ∃ w δ, w.H = H ∧ w.Ok (rc T X) ∧ SRel (rc T X) w δ σ ∧ PostS (rc T X) W w E (whF c0 b m δ w.M), ?start, ?_⟩
  · obtain ⟨n, e⟩ := sWh_fuel (c := c0) (body := b) (δ := δ) (M := w.M)
    exact ⟨n, w, δ, rfl, o, s, by rw [← e]; exact h⟩
  rintro m σ2 H2 ⟨w2, δ2, e2, o2, s2, k2⟩
  subst e2
  cases m with
  | zero => exact k2.elim
  | succ m =>
    unfold whF at k2
    refine qc w2 δ2 σ2 _ o2 s2 (onV_post s2 k2 fun d w3 d' l3 o3 r3 k3 => ?_)
    cases (show d = d' from r3)
    cases d with
    | false => rw [if_neg Bool.false_ne_true]; exact k3 w3 σ2 rfl (.refl _) o3 (s2.mono l3)
    | true =>
      rw [if_pos rfl]
      refine ⟨fun σ' H' => ∃ w δ, w.H = H' ∧ w.Ok (rc T X) ∧ SRel (rc T X) w δ σ' ∧ PostS (rc T X) W w E (whF c0 b m δ w.M), fun σ' H' n => ⟨m, Nat.lt_succ_self _, n⟩, ?_⟩
      refine qb w3 δ2 σ2 _ o3 (s2.mono l3) ?_
      rw [if_pos rfl] at k3
      cases c3 : b δ2 w3.M with
      | nx δ5 M5 => rw [c3] at k3; exact fun w5 σ5 e5 l5 o5 s5 => ⟨w5, δ5, rfl, o5, s5, by subst e5; exact PostS.at l5 k3⟩
      | ct δ5 M5 => rw [c3] at k3; exact fun w5 σ5 e5 l5 o5 s5 => ⟨w5, δ5, rfl, o5, s5, by subst e5; exact PostS.at l5 k3⟩
      | bk δ5 M5 => rw [c3] at k3; exact k3
      | rt d M => rw [c3] at k3; exact k3
      | exc x d M => rw [c3] at k3; exact k3
      | bad => rw [c3] at k3; exact k3
end
end Pd
namespace Pd
open PySem PySem.Spec PyProof.Rows L2
abbrev WF : WX := fun _ _ _ _ => False
/-! ### list comprehensions -/
def compStep (n : Nat) (g : GF D) (tt : EF Bool) (te : EF D) (δ : DEnv) (d : D) (M : Mem) : Option Mem := match g d δ M with
  | none => none
  | some p => match tt p.1 p.2 with
    | .ok b M2 => if b = true then (match te p.1 M2 with
        | .ok y M3 => match lstOf M3 n with
          | some acc => if acc.length < sizeLine then some (M3.set n (.lst (acc ++ [y]))) else none
          | none => none
        | _ => none) else some M2
    | _ => none
def compF (n : Nat) (g : GF D) (tt : EF Bool) (te : EF D) (δ : DEnv) (s : Src) : Nat → Nat → Mem → Option Mem
  | 0, _, _ => none
  | k + 1, i, M => match s.item M i with
    | none => none
    | some none => some M
    | some (some d) => (compStep n g tt te δ d M).bind fun M' => compF n g tt te δ s k (i + 1) M'
def compL (n : Nat) (g : GF D) (tt : EF Bool) (te : EF D) (δ : DEnv) : List D → Mem → Option Mem
  | [], M => some M
  | d :: l, M => (compStep n g tt te δ d M).bind fun M' => compL n g tt te δ l M'
theorem compF_items {n : Nat} {g : GF D} {tt : EF Bool} {te : EF D} {δ : DEnv} (l : List D) : ∀ (k i : Nat), l.length - i < k → ∀ M, compF n g tt te δ (.items l) k i M = compL n g tt te δ (l.drop i) M
  | 0, _, h => by omega
  | k + 1, i, h => fun M => by
    unfold compF
    show (match (some l[i]? : Option (Option D)) with
      | none => (none : Option Mem)
      | some none => _
      | some (some d) => _) = _
    cases c : l[i]? with
    | none =>
      rw [List.drop_eq_nil_of_le (List.getElem?_eq_none_iff.mp c)]
      rfl
    | some d =>
      obtain ⟨hi, e⟩ := List.getElem?_eq_some_iff.mp c
      rw [List.drop_eq_getElem_cons hi, e]
      unfold compL
      dsimp only
      cases compStep n g tt te δ d M with
      | none => rfl
      | some M' => exact compF_items l k (i + 1) (by omega) M'
def compS (n : Nat) (g : GF D) (tt : EF Bool) (te : EF D) (δ : DEnv) (s : Src) (M : Mem) : Option Mem := match s with
  | .items l => compL n g tt te δ l M
  | .live k => compF n g tt te δ (.live k) (Src.size M (.live k) + 1) 0 M
  | .liveE k => compF n g tt te δ (.liveE k) (Src.size M (.liveE k) + 1) 0 M
theorem compS_eq (n : Nat) (g : GF D) (tt : EF Bool) (te : EF D) (δ : DEnv) (s : Src) (M : Mem) : compS n g tt te δ s M = compF n g tt te δ s (s.size M + 1) 0 M := by
  cases s with
  | items l => rw [compF_items l _ 0 (by show l.length - 0 < l.length + 1; omega)]; rfl
  | live n => rfl
  | liveE n => rfl
def dLc (own : List Nat) (src : EF Src) (g : GF D) (tt : EF Bool) (te : EF D) : EF D := fun δ M => (src δ M).bind fun s M1 => match compS M1.length g tt te (wipeD δ own) s (M1 ++ [.lst []]) with
  | some M' => .ok (.ref M1.length) M'
  | none => .bad
def tTrue : EF Bool := fun _ M => .ok true M
def tGc (R : RC) (vs : List Nat) (g : GF D) : TG := fun v σ H Q => ∃ w δ d, w.H = H ∧ w.Ok R ∧ SRel R w δ σ ∧ RelD R w d v ∧ PostG R w vs σ Q (g d δ w.M)
section
variable {T : TB} {W : WX} {X : Cx}
theorem EG.pg {tg : Expr} {vs : List Nat} {g : GF D} (h : EG T X tg vs g) : PG X tg (tGc (rc T X) vs g) := by
  obtain ⟨t, p, q⟩ := h
  refine ⟨fun pins s σ H v u Q I r ⟨w, δ, d, e1, o, sr, rd, k⟩ => ?_⟩
  subst e1
  exact p.run pins s σ w.H v u Q I r (q w δ σ d v Q o sr rd k)
/-- a clause's tests -/
def ETs (T : TB) (W : WX) (X : Cx) (ifs : List Expr) (f : EF Bool) : Prop := PTs X ifs (tE (rc T X) W relB f)
theorem ETs.nil : ETs T W X [] tTrue := ⟨fun pins s σ H Q I ⟨w, δ, e1, o, sr, k⟩ => by
  subst e1
  exact pts_nil.run pins s σ w.H Q I (k w true rfl (.refl _) o rfl)⟩
theorem ETs.one {c : Expr} {f : EF Bool} (h : ET T W X c f) : ETs T W X [c] f := pts_one h.pt
theorem wipe_wipe (σ : St) : ∀ vs : List Nat, L2.wipe (L2.wipe σ vs) vs = L2.wipe σ vs
  | [] => rfl
  | v :: vs => by
    have h : ∀ us : List Nat, L2.wipe (L2.wipe σ (v :: vs)) us = L2.wipe (L2.wipe σ us) (v :: vs) := by
      intro us
      induction us with
      | nil => rfl
      | cons a r ih =>
        show (L2.wipe (L2.wipe σ (v :: vs)) r).set a none = L2.wipe ((L2.wipe σ r).set a none) (v :: vs)
        rw [ih]
        have : ∀ (ks : List Nat) (τ : St), (L2.wipe τ ks).set a none = L2.wipe (τ.set a none) ks := by
          intro ks
          induction ks with
          | nil => intro τ; rfl
          | cons b q ih2 =>
            intro τ
            show ((L2.wipe τ q).set b none).set a none = (L2.wipe (τ.set a none) q).set b none
            rw [← ih2]
            by_cases e : a = b
            · subst e; rw [List.set_set]
            · rw [List.set_comm _ _ e]
        rw [this]
    have idem : ∀ (ks : List Nat), (∀ i ∈ ks, i ∈ v :: vs) → L2.wipe (L2.wipe σ (v :: vs)) ks = L2.wipe σ (v :: vs) := by
      have keep : ∀ (ks : List Nat) (i : Nat), i ∈ ks → (L2.wipe σ ks).set i none = L2.wipe σ ks := by
        intro ks
        induction ks with
        | nil => intro i h; cases h
        | cons a r ih =>
          intro i h
          show ((L2.wipe σ r).set a none).set i none = (L2.wipe σ r).set a none
          by_cases e : i = a
          · subst e; rw [List.set_set]
          · rw [List.set_comm _ _ (Ne.symm e), ih i ((List.mem_cons.mp h).resolve_left e)]
      intro ks
      induction ks with
      | nil => intro _; rfl
      | cons a r ih =>
        intro hs
        show (L2.wipe (L2.wipe σ (v :: vs)) r).set a none = _
        rw [ih fun i h => hs i (List.mem_cons_of_mem _ h)]
        exact keep _ a (hs a List.mem_cons_self)
    exact idem (v :: vs) fun _ h => h
theorem comp_core {R : RC} {own vs : List Nat} {src : EF Src} {wi : TI} {g : GF D} {tt : EF Bool} {te : EF D} (hv : ∀ i ∈ vs, i ∈ own)
    (qi : ∀ w δ σ Q, w.Ok R → SRel R w δ σ → Post R W w σ (fun w' s J => SrcJ R w' s J) Q (src δ w.M) → wi σ w.H Q)
    {w : Wd} {δ : DEnv} {σ : St} {Q : VK} (o : w.Ok R) (s : SRel R w δ σ) (h : Post R W w σ (RelD R) Q (dLc own src g tt te δ w.M)) :
    tLc wi (tGc R vs g) (tE R WF relB tt) (tE R WF (RelD R) te) own σ w.H Q := by
  refine qi w δ σ _ o s (h.bind fun sc w1 J l1 o1 sj k => fun Da hD => ?_)
  rw [compS_eq] at k
  obtain ⟨oP, lP, eP⟩ := o1.pushed hD (m := .lst []) (u := .lst []) (fun w' le => ⟨[], rfl, .nil⟩) (fun _ z => by cases z)
  have sP : ∀ w2, (w1.push Da (.lst []) (.lst [])).le w2 → w2.ρ w1.M.length = Da := fun w2 l2 => by
    rw [l2.ρ _ (by show w1.M.length < (w1.M ++ [_]).length; simp), eP]
  have szE : sc.size (w1.M ++ [.lst []]) = sc.size (w1.push Da (.lst []) (.lst [])).M := rfl
  generalize hf : compF w1.M.length g tt te (wipeD δ own) sc (sc.size (w1.M ++ [MO.lst []]) + 1) 0 (w1.M ++ [.lst []]) = r at k
  cases r with
  | none => exact k.elim
  | some Mf =>
    have fin : ∀ w', w'.M = Mf → w1.le w' → w'.Ok R → w'.ρ w1.M.length = Da → w1.M.length < w'.M.length → Q (.ref Da) w'.H := fun w' em le ok ed hl => k w' (.ref Da) em le ok (by unfold RelD; exact ⟨hl, by rw [ed]⟩)
    refine ⟨fun i m H => ∃ w, w.H = H ∧ (w1.push Da (.lst []) (.lst [])).le w ∧ w.Ok R ∧ compF w1.M.length g tt te (wipeD δ own) sc m i w.M = some Mf, ⟨_, _, rfl, .refl _, oP, hf⟩, ?_⟩
    rintro i m H ⟨w2, e2, l2, o2, k2⟩
    subst e2
    have lw := lP.trans l2
    have hlen : w1.M.length < w2.M.length := Nat.lt_of_lt_of_le (by show w1.M.length < (w1.M ++ [_]).length; simp) l2.len
    cases m with
    | zero => unfold compF at k2; cases k2
    | succ m =>
      have j := sj i w2 lw o2
      unfold compF at k2
      cases c : sc.item w2.M i with
      | none => rw [c] at k2; cases k2
      | some od =>
        rw [c] at k2 j
        cases od with
        | none => cases k2; exact .inl ⟨j, fin w2 rfl lw o2 (sP w2 l2) hlen⟩
        | some d =>
          refine .inr ⟨j.1, fun H' => ∃ w, w.H = H' ∧ (w1.push Da (.lst []) (.lst [])).le w ∧ w.Ok R ∧ compF w1.M.length g tt te (wipeD δ own) sc m (i + 1) w.M = some Mf, fun H' n => ⟨m, Nat.lt_succ_self _, n⟩, fun x H' hy => ?_⟩
          obtain ⟨w3, e3, m3, l3, o3, r3⟩ := j.2 x H' hy
          subst e3
          have s3 : SRel R w3 (wipeD δ own) (L2.wipe σ own) := (s.mono ((l1.trans lw).trans l3)).wipe own
          refine ⟨w3, wipeD δ own, d, rfl, o3, s3, r3, ?_⟩
          have k3 : (compStep w1.M.length g tt te (wipeD δ own) d w2.M).bind (fun M' => compF w1.M.length g tt te (wipeD δ own) sc m (i + 1) M') = some Mf := k2
          unfold compStep at k3
          rw [m3]
          cases c2 : g d (wipeD δ own) w2.M with
          | none => rw [c2] at k3; cases k3
          | some p =>
            rw [c2] at k3
            dsimp only at k3
            intro w4 σ4 e4 l4 o4 s4 u4
            refine ⟨by rw [u4 own hv, wipe_wipe], w4, p.1, rfl, o4, s4, ?_⟩
            rw [e4]
            cases c3 : tt p.1 p.2 with
            | bad => rw [c3] at k3; cases k3
            | exc x M => rw [c3] at k3; cases k3
            | ok b M5 =>
              rw [c3] at k3
              dsimp only at k3
              intro w5 b' e5 l5 o5 eb
              cases (show b = b' from eb)
              subst e5
              cases b with
              | false =>
                rw [if_neg Bool.false_ne_true] at k3 ⊢
                exact ⟨w5, rfl, ((l2.trans l3).trans l4).trans l5, o5, k3⟩
              | true =>
                rw [if_pos rfl] at k3 ⊢
                refine ⟨w5, p.1, rfl, o5, s4.mono l5, ?_⟩
                cases c6 : te p.1 w5.M with
                | bad => rw [c6] at k3; cases k3
                | exc x M => rw [c6] at k3; cases k3
                | ok y M6 =>
                  rw [c6] at k3
                  dsimp only at k3
                  intro w6 v6 e6 l6 o6 r6
                  subst e6
                  cases c7 : lstOf w6.M w1.M.length with
                  | none => rw [c7] at k3; cases k3
                  | some acc =>
                    rw [c7] at k3
                    dsimp only at k3
                    split at k3
                    · rename_i hz
                      have lt := (((l2.trans l3).trans l4).trans l5).trans l6
                      obtain ⟨h7, hM7, xs7, hH7, r7⟩ := o6.lst c7
                      rw [sP w6 lt] at hH7
                      obtain ⟨o8, l8⟩ := o6.putted hM7 (u₀ := .lst xs7) (by rw [sP w6 lt]; exact hH7) trivial (m := .lst (acc ++ [y])) (u := .lst (xs7 ++ [v6])) (fun w' le => ⟨_, rfl, (RelL.mono le _ _ r7).app (.cons (RelD.mono le _ _ r6) .nil)⟩) (fun _ z => by cases z)
                      refine ⟨xs7, hH7, by rw [r7.length]; exact hz, w6.put w1.M.length (.lst (acc ++ [y])) (.lst (xs7 ++ [v6])), ?_, lt.trans l8, o8, k3⟩
                      show upd w6.H (w6.ρ w1.M.length) _ = _
                      rw [sP w6 lt]
                    · cases k3
variable {elt tg iter : Expr} {ifs : List Expr} {scope : Scope} {own : List (Str × Nat)} {pos : Pos} {src : EF Src} {vs : List Nat} {g : GF D} {tt : EF Bool} {te : EF D}
theorem EV.lc (hc : X.calm = true) (hN : X.N.Nodup) (hi : EI T W X tg iter src) (ok : BlkOk X.N X.env.scope scope own) (hv : ∀ i ∈ vs, i ∈ own.map (·.2))
    (hg : ∀ (s : Shared) (H : Hp) (C : Addr) (cl : List (Str × Addr)) (fp : List Addr), EG T (X.blk s H scope (compEnvC scope cl C X.env) fp) tg vs g)
    (ht : ∀ (s : Shared) (H : Hp) (C : Addr) (cl : List (Str × Addr)) (fp : List Addr), ETs T WF (X.blk s H scope (compEnvC scope cl C X.env) fp) ifs tt)
    (he : ∀ (s : Shared) (H : Hp) (C : Addr) (cl : List (Str × Addr)) (fp : List Addr), EV T WF (X.blk s H scope (compEnvC scope cl C X.env) fp) elt te) (hs : ∀ x, foldedSetIterable iter X.env x = pure x) :
    EV T W X (.ListComp elt [⟨tg, iter, ifs, 0⟩] scope pos) (dLc (own.map (·.2)) src g tt te) := by
  obtain ⟨wi, pi, qi⟩ := hi
  exact ⟨_, pe_lc (g := tGc (rc T X) vs g) (tt := tE (rc T X) WF relB tt) (te := tE (rc T X) WF (RelD (rc T X)) te) hc hN pi ok (fun s H C cl fp => (hg s H C cl fp).pg) (fun s H C cl fp => ht s H C cl fp) (fun s H C cl fp => (he s H C cl fp).pe) hs, fun w δ σ Q o s h => comp_core hv qi o s h⟩
theorem ES.setLc {i : Nat} {y : Str} {py spos : Pos} (hc : X.calm = true) (hN : X.N.Nodup) (hy : X.N[i]? = some y) (hyl : X.env.scope.names.lookup y = some .local)
    (hsw : swapsWith (.ListComp elt [⟨tg, iter, ifs, 0⟩] scope pos) (some (.Name y py)) spos.line X.env = pure true) (hi : EI T W X tg iter src) (ok : BlkOk X.N X.env.scope scope own) (hv : ∀ i ∈ vs, i ∈ own.map (·.2))
    (hg : ∀ (s : Shared) (H : Hp) (C : Addr) (cl : List (Str × Addr)) (fp : List Addr), EG T (X.blk s H scope (compEnvC scope cl C X.env) fp) tg vs g)
    (ht : ∀ (s : Shared) (H : Hp) (C : Addr) (cl : List (Str × Addr)) (fp : List Addr), ETs T WF (X.blk s H scope (compEnvC scope cl C X.env) fp) ifs tt)
    (he : ∀ (s : Shared) (H : Hp) (C : Addr) (cl : List (Str × Addr)) (fp : List Addr), EV T WF (X.blk s H scope (compEnvC scope cl C X.env) fp) elt te) (hs : ∀ x, foldedSetIterable iter X.env x = pure x) :
    ES T W X (.Assign [.Name y py] (.ListComp elt [⟨tg, iter, ifs, 0⟩] scope pos) spos) (sAsg (dLc (own.map (·.2)) src g tt te) (gNm i)) := by
  obtain ⟨wi, pi, qi⟩ := hi
  refine ⟨_, ps_setLc (g := tGc (rc T X) vs g) (tt := tE (rc T X) WF relB tt) (te := tE (rc T X) WF (RelD (rc T X)) te) hc hN hy hyl hsw pi ok (fun s H C cl fp => (hg s H C cl fp).pg) (fun s H C cl fp => ht s H C cl fp) (fun s H C cl fp => (he s H C cl fp).pe) hs, fun w δ σ E o s h => ?_⟩
  refine comp_core hv qi o s (onV_post s h fun d w' v l o' r k => ?_)
  exact k w' _ rfl (.refl _) o' ((s.mono l).set r i)
end
/-! ### methods of built-ins -/
def dMt (chk : D → Mem → Bool) (op : D → List D → Mem → OV) (f : EF D) (g : EF (List D)) : EF D := fun δ M => (f δ M).bind fun a M1 => if chk a M1 = true then (g δ M1).bind fun l M2 => ofV (op a l M2) else .bad
def MtOk (T : TB) (X : Cx) (op : D → List D → Mem → OV) (r : V → List V → Hp → VK → Prop) : Prop :=
  ∀ w a l x xs Q, w.Ok (rc T X) → RelD (rc T X) w a x → RelL (rc T X) w l xs → PostV (rc T X) w Q (op a l w.M) → r x xs w.H Q
def isLst (d : D) (M : Mem) : Bool := match d with
  | .ref n => (seqOf M n).isSome
  | _ => false
def isStr (d : D) (_ : Mem) : Bool := match d with
  | .str _ => true
  | _ => false
section
variable {T : TB} {W : WX} {X : Cx} {o e : Expr} {es : List Expr} {name : Str} {apos cpos : Pos} {f : EF D} {g : EF (List D)}
theorem isLst_ok {R : RC} {w : Wd} (ok : w.Ok R) {d : D} {v : V} (h : isLst d w.M = true) (r : RelD R w d v) : tyV R.K "list" v w.H := by
  cases d with
  | ref n =>
    obtain ⟨l, hl⟩ := Option.isSome_iff_exists.mp (show (seqOf w.M n).isSome = true from h)
    obtain ⟨_, e⟩ := r.ref
    subst e
    obtain ⟨_, xs, s1, _, _⟩ := ok.seq hl
    exact .inl ⟨rfl, xs, s1⟩
  | _ => cases h
theorem isStr_ok {R : RC} {w : Wd} {d : D} {v : V} (h : isStr d w.M = true) (r : RelD R w d v) : tyV R.K "str" v w.H := by
  cases d with
  | str n => unfold RelD at r; subst r; rfl
  | _ => cases h
theorem EV.mt {Ty id : String} {r : V → List V → Hp → VK → Prop} {chk : D → Mem → Bool} {op : D → List D → Mem → OV} (hT : ∀ w d v, w.Ok (rc T X) → chk d w.M = true → RelD (rc T X) w d v → tyV X.K Ty v w.H)
    (pa : PlainAttrs Ty) (slot : Slot Ty name id) (hty : typeOf (.builtin id) = pure (.type "method_descriptor")) (hm : MtR X id r) (hk : MtOk T X op r) (ho : EV T W X o f) (ha : EA T W X (e :: es) g)
    (hbase : attributeBase o name X.env (eval o X.env) = eval o X.env)
    (hfew : ((backTo cpos (starEach (e :: es) X.env)).all (fun x => !x.1) && (backToKw cpos (keywordEach [] X.env)).all (fun x => x.1.isSome)
      && decide ((e :: es).length + ([] : List Keyword).length + (if ([] : List Keyword).isEmpty then 0 else 1) < 30)) = true)
    (hline : (apos.endLine == cpos.line) = true) (hs : starEach (e :: es) X.env = (false, eval e X.env) :: starEach es X.env) (hplain : (backTo cpos (starEach es X.env)).any (·.1) = false) :
    EV T W X (.Call (.Attribute o name apos) (e :: es) [] cpos) (dMt chk op f g) := by
  obtain ⟨ta, pa', qa⟩ := ho
  obtain ⟨tb, pb, qb⟩ := ha
  refine ⟨_, pe_bm pa slot hty hm pa' pb hbase hfew hline hs hplain, fun w δ σ Q ok s h => ?_⟩
  refine qa w δ σ _ ok s (h.bind fun d1 w1 v1 l1 o1 r1 h1 => ?_)
  split at h1
  · rename_i hc
    refine ⟨hT w1 d1 v1 o1 hc r1, qb w1 δ σ _ o1 (s.mono l1) (h1.bind fun d2 w2 v2 l2 o2 r2 h2 => ?_)⟩
    exact hk w2 d1 d2 v1 v2 Q o2 (RelD.mono l2 _ _ r1) r2 (post_ofV h2)
  · exact h1.elim
theorem EV.mt0 {Ty id : String} {r : V → List V → Hp → VK → Prop} {chk : D → Mem → Bool} {op : D → List D → Mem → OV} (hT : ∀ w d v, w.Ok (rc T X) → chk d w.M = true → RelD (rc T X) w d v → tyV X.K Ty v w.H)
    (pa : PlainAttrs Ty) (slot : Slot Ty name id) (hty : typeOf (.builtin id) = pure (.type "method_descriptor")) (hm : MtR X id r) (hk : MtOk T X op r) (ho : EV T W X o f)
    (hbase : attributeBase o name X.env (eval o X.env) = eval o X.env) (hline : (apos.endLine == cpos.line) = true) :
    EV T W X (.Call (.Attribute o name apos) [] [] cpos) (dMt chk op f aNil) := by
  obtain ⟨ta, pa', qa⟩ := ho
  refine ⟨_, pe_bm0 pa slot hty hm pa' hbase hline, fun w δ σ Q ok s h => ?_⟩
  refine qa w δ σ _ ok s (h.bind fun d1 w1 v1 l1 o1 r1 h1 => ?_)
  split at h1
  · rename_i hc
    exact ⟨hT w1 d1 v1 o1 hc r1, hk w1 d1 [] v1 [] Q o1 r1 .nil (post_ofV h1)⟩
  · exact h1.elim
def oApp (a : D) (l : List D) (M : Mem) : OV := match a, l with
  | .ref n, [d] => match lstOf M n with
    | some xs => if xs.length < sizeLine then some (.non, M.set n (.lst (xs ++ [d]))) else none
    | none => none
  | _, _ => none
theorem PostV.put {R : RC} {w : Wd} {Q : VK} {n : Nat} {l l' : List D} {xs xs' : List V} {d : D} {v : V} (h : PostV R w Q (some (d, w.M.set n (.lst l')))) (o : w.Ok R) (c : lstOf w.M n = some l) (r : RelL R w l' xs') (rd : RelD R w d v) :
    Q v (upd w.H (w.ρ n) (.lst xs')) := by
  obtain ⟨hn, hM, ys, hH, _⟩ := o.lst c
  obtain ⟨o8, l8⟩ := o.putted hM hH trivial (m := .lst l') (u := .lst xs') (fun w' le => ⟨_, rfl, RelL.mono le _ _ r⟩) (fun _ z => by cases z)
  exact h (w.put n (.lst l') (.lst xs')) v rfl l8 o8 (RelD.mono l8 _ _ rd)
theorem mk_app : MtOk T X oApp rAppend := fun w a l x xs Q o ra rl h => by
  unfold oApp at h
  split at h
  · rename_i n d
    obtain ⟨y, e, ry⟩ := rl.one
    obtain ⟨_, e1⟩ := ra.ref
    split at h
    · rename_i m c
      split at h
      · rename_i hz
        obtain ⟨hn, hM, ys, hH, rm⟩ := o.lst c
        exact ⟨_, ys, y, e1, e, hH, by rw [rm.length]; exact hz, PostV.put (l := m) (xs := ys) h o c (rm.app (.cons ry .nil)) .mkNon⟩
      · exact h.elim
    · exact h.elim
  · exact h.elim
end
/-! ### own functions -/
/-- what a def that is the function φ promises (n parameters) -/
def spOf (R : RC) (n : Nat) (φ : List D → Mem → Res D) : Sp := fun vs H Q E => ∃ w l, w.H = H ∧ w.Ok R ∧ RelL R w l vs ∧ l.length = n ∧ Post R (fun c d _ H' => E c d H') w [] (RelD R) Q (φ l w.M)
def dCall (φ : List D → Mem → Res D) (n : Nat) (g : EF (List D)) : EF D := fun δ M => (g δ M).bind fun l M1 => if l.length = n then φ l M1 else .bad
theorem Post.sig {α β : Type} {R : RC} {W W' : WX} {w : Wd} {σ σ' : St} {rel : Wd → α → β → Prop} {Q : β → Hp → Prop} {r : Res α} (h : Post R W w σ rel Q r) (hw : ∀ c d H, W c d σ H → W' c d σ' H) : Post R W' w σ' rel Q r := by
  cases r with
  | ok a M => exact h
  | exc x M => exact fun w' c d e l o q => hw _ _ _ (h w' c d e l o q)
  | bad => exact h
section
variable {T : TB} {W : WX} {X : Cx} {x : Str} {e : Expr} {es : List Expr} {p pos : Pos} {g : EF (List D)} {k n : Nat} {f : Addr} {fd : FuncData} {ps : List Str} {φ : List D → Mem → Res D}
theorem EV.call (F : FnOk X.prog X.w X.K X.mg X.base (L2N.CX X.prog X.w) k f fd ps (spOf (rc T X) n φ)) (hr : Room k X.A) (hg : Gl X x) (hm : X.mg x = some (.ref f)) (hk : PySem.W.keepIn X.K (.ref f) = true) (hb : Binds X.K fd ps [])
    (tk : L2N.Takes X W) (ha : EA T W X (e :: es) g) (hdb : (x == ("__debug__" : Str)) = false) (he : starEach (e :: es) X.env = (false, eval e X.env) :: starEach es X.env) (hpl : (backTo pos (starEach es X.env)).any (·.1) = false) :
    EV T W X (.Call (.Name x p) (e :: es) [] pos) (dCall φ n g) := by
  obtain ⟨ta, pa, qa⟩ := ha
  refine ⟨_, pe_callS F hr hg hm hk hb (fun σ => L2N.passAt tk σ) pa hdb he hpl, fun w δ σ Q o s h => ?_⟩
  refine qa w δ σ _ o s (h.bind fun l w1 xs l1 o1 r1 h1 => ?_)
  split at h1
  · rename_i hl
    exact ⟨w1, l, rfl, o1, r1, hl, h1.sig fun _ _ _ q => q⟩
  · exact h1.elim
end
end Pd
namespace Pd
open PySem PySem.Spec PyProof.Rows L2
section
variable {T : TB} {W : WX} {X : Cx} {e : Expr} {pos : Pos}
/-! ### l.remove(x), l.pop(i) -/
def oRem (a : D) (l : List D) (M : Mem) : OV := match a, l with
  | .ref n, [.int k] => match lstOf M n with
    | some xs => match intsD xs with
      | some ns => match ns.findIdx? (fun z => decide (z = k)) with
        | some j => some (.non, M.set n (.lst ((ns.eraseIdx j).map D.int)))
        | none => none
      | none => none
    | none => none
  | _, _ => none
theorem RelL.ints_eq {R : RC} {w : Wd} : ∀ {ns : List Int} {xs : List V}, RelL R w (ns.map D.int) xs → xs = ns.map V.int
  | [], _, r => by unfold RelL at r; exact r
  | i :: ns, _, r => by
    rw [List.map_cons] at r
    unfold RelL at r
    obtain ⟨x, q, e, a, b⟩ := r
    unfold RelD at a
    rw [e, a, RelL.ints_eq b]
    rfl
theorem mk_rem : MtOk T X oRem rRemI := fun w a l x xs Q o ra rl h => by
  unfold oRem at h
  split at h
  · rename_i n k
    obtain ⟨y, e, ry⟩ := rl.one
    unfold RelD at ry
    subst ry
    obtain ⟨_, e1⟩ := ra.ref
    split at h
    · rename_i m c
      split at h
      · rename_i ns c2
        split at h
        · rename_i j c3
          obtain ⟨hn, hM, ys, hH, rm⟩ := o.lst c
          have em := intsD_map c2
          subst em
          have ey := RelL.ints_eq rm
          subst ey
          obtain ⟨hj, hp, hno⟩ := List.findIdx?_eq_some_iff_getElem.mp c3
          refine ⟨_, ns, k, j, e1, e, hH, ?_, fun m hm z => ?_, PostV.put (l := ns.map D.int) (xs := ns.map V.int) (l' := (ns.eraseIdx j).map D.int) h o c (RelL.mkInts _) .mkNon⟩
          · rw [List.getElem?_eq_getElem hj]
            exact congrArg some (of_decide_eq_true hp)
          · have q := hno m hm
            rw [List.getElem?_eq_getElem (by omega)] at z
            have z' := Option.some.inj z
            exact q (decide_eq_true z')
        · exact h.elim
      · exact h.elim
    · exact h.elim
  · exact h.elim
def oPopA (a : D) (l : List D) (M : Mem) : OV := match a, l with
  | .ref n, [.int k] => match lstOf M n with
    | some xs => if 0 ≤ k ∧ k < 2 ^ 62 then (match xs[k.toNat]? with
      | some d => some (d, M.set n (.lst (xs.eraseIdx k.toNat)))
      | none => none) else none
    | none => none
  | _, _ => none
theorem RelL.erase {R : RC} {w : Wd} : ∀ (n : Nat) {l : List D} {xs : List V}, RelL R w l xs → RelL R w (l.eraseIdx n) (xs.eraseIdx n)
  | _, [], _, r => by unfold RelL at r; subst r; exact .nil
  | 0, d :: l, _, r => by
    unfold RelL at r
    obtain ⟨x, q, e, a, b⟩ := r
    subst e
    exact b
  | n + 1, d :: l, _, r => by
    unfold RelL at r
    obtain ⟨x, q, e, a, b⟩ := r
    subst e
    exact .cons a (RelL.erase n b)
theorem mk_popA : MtOk T X oPopA rPopAt := fun w a l x xs Q o ra rl h => by
  unfold oPopA at h
  split at h
  · rename_i n k
    obtain ⟨y, e, ry⟩ := rl.one
    unfold RelD at ry
    subst ry
    obtain ⟨_, e1⟩ := ra.ref
    split at h
    · rename_i m c
      split at h
      · rename_i hk
        split at h
        · rename_i d c3
          obtain ⟨hn, hM, ys, hH, rm⟩ := o.lst c
          obtain ⟨v, h1, h2⟩ := rm.get c3
          have hlt := (List.getElem?_eq_some_iff.mp h1).1
          exact ⟨_, ys, k, k.toNat, v, e1, e, hH, by omega, by omega, seqIndex_of hk.1 (by omega), h1, PostV.put (l := m) (xs := ys) h o c (RelL.erase _ rm) h2⟩
        · exact h.elim
      · exact h.elim
    · exact h.elim
  · exact h.elim
/-! ### {} -/
def dDct : EF D := fun _ M => .ok (.ref M.length) (M ++ [.dct []])
theorem EV.dct : EV T W X (.Dict [] [] pos) dDct := by
  refine ⟨_, pe_dnewN, fun w δ σ Q o s h => fun p hp => ?_⟩
  obtain ⟨o1, l1, r1⟩ := o.pushed hp (m := .dct []) (u := DcO X.w p []) (fun w' le => ⟨p, [], rfl, rfl⟩) (fun _ z => by cases z)
  refine h (w.push p (.dct []) (DcO X.w p [])) (.ref p) rfl l1 o1 ?_
  unfold RelD
  refine ⟨?_, by rw [r1]⟩
  show w.M.length < (w.M ++ [MO.dct []]).length
  simp
/-! ### d.get(k, x) -/
def isDct (d : D) (M : Mem) : Bool := match d with
  | .ref n => (dctOf M n).isSome
  | _ => false
def oGet (a : D) (l : List D) (M : Mem) : OV := match a, l with
  | .ref n, [k, z] => match dctOf M n, keyT k with
    | some kvs, some kk => some ((valD kvs kk).getD z, M)
    | _, _ => none
  | _, _ => none
theorem dn_get2 {pins : List (Addr × Obj)} {σ : St} {H : Hp} {s : Shared} {b : Addr} {y d : V} {u r : Value} {o : Option V} {A : Around} {E : Value → Shared → Prop} {Q : Value → Shared → Prop} (hu : A.units + 65 < cLine) (I : Inv X pins σ H s) (g : DnGet X.K X.w H b y o) (ry : RelV y u) (rd : RelV d r) (h : ∀ w' s', Inv X pins σ H s' → RelV (o.getD d) w' → Q w' s') :
    wpAny (model X.prog X.w) A (call (.builtin "dict.get") [.ref b, u, r]) Q E s := by
  obtain ⟨a, xs, k, ka, e, hk, rfl, ky, kd, l⟩ := g
  cases ry
  obtain ⟨rfl, hd, hz, ys, rel, dd⟩ := dn_of I e hk
  refine call_meetsIn PySem.F.slot_dict_get dd.typeIs PySem.F.entry_dict_get (PySem.F.args_dict_get_3 _ _ _) (meetsH_dict_get_default (nestedKind X.prog X.w) a ka hd r) ⟨dn_room hu, k, ys, ⟨nested_is I _ _ _ ky rfl, kd⟩, dd, h _ _ (I.tok _) ?_⟩
  rw [l]
  exact (rel.val k).getD rd
theorem EV.dget {o e f : Expr} {fo : EF D} {g : EF (List D)} {apos cpos : Pos} (hu : X.A.units + 65 < cLine) (ho : EV T W X o fo) (ha : EA T W X [e, f] g)
    (hbase : attributeBase o "get" X.env (eval o X.env) = eval o X.env)
    (hfew : ((backTo cpos (starEach [e, f] X.env)).all (fun x => !x.1) && (backToKw cpos (keywordEach [] X.env)).all (fun x => x.1.isSome)
      && decide (([e, f] : List Expr).length + ([] : List Keyword).length + (if ([] : List Keyword).isEmpty then 0 else 1) < 30)) = true)
    (hline : (apos.endLine == cpos.line) = true) (hs : starEach [e, f] X.env = (false, eval e X.env) :: starEach [f] X.env) (hplain : (backTo cpos (starEach [f] X.env)).any (·.1) = false) :
    EV T W X (.Call (.Attribute o "get" apos) [e, f] [] cpos) (dMt isDct oGet fo g) := by
  obtain ⟨ta, pa, qa⟩ := ho
  obtain ⟨tb, pb, qb⟩ := ha
  refine ⟨fun σ H Q => ta σ H fun x H1 => ∃ b a xs, x = .ref b ∧ H1 b = some (DcO X.w a xs) ∧ KeysOk X.K H1 xs ∧ tb σ H1 fun vs H2 => ∃ y z ov, vs = [y, z] ∧ DnGet X.K X.w H2 b y ov ∧ Q (ov.getD z) H2, ⟨fun pins s σ H Q I h => ?_⟩, fun w δ σ Q ok s h => ?_⟩
  · refine wpAny_Call_method hbase hfew hline PySem.F.plainAttrs_dict PySem.F.slot_dict_get PySem.F.type_dict_get (thn (pa.run pins s σ H _ I h) fun u s1 ⟨x, H1, I1, rx, b, a, xs, ex, eb, hk, q1⟩ => ?_)
    subst ex
    obtain rfl : u = Value.ref b := rx
    obtain ⟨rfl, hd, hz, ys, rel, dd⟩ := dn_of I1 eb hk
    refine ⟨dd.typeIs, fun b' q => ?_, ?_⟩
    · cases q
      obtain ⟨ob, _, _, h1, h2, _⟩ := dd
      exact ⟨ob, h1, h2.2.1⟩
    · have hA := pb.run cpos pins s1 σ H1 _ I1 q1
      rw [hs] at hA ⊢
      refine Calls.callWith_builtin (by show (false || (backTo cpos (starEach [f] X.env)).any (·.1)) = false; rw [hplain] <;> rfl) (Calls.evalArgs_plain ?_)
      refine thn hA fun us s2 ⟨vs, H2, I2, r2, y, z, ov, ev, g, q2⟩ => ?_
      subst ev
      obtain ⟨u1, u2, rfl, ru1, ru2⟩ := r2.two
      exact dn_get2 hu I2 g ru1 ru2 fun w' s3 I3 rw' => ⟨_, H2, I3, rw', q2⟩
  · refine qa w δ σ _ ok s (h.bind fun d1 w1 v1 l1 o1 r1 h1 => ?_)
    split at h1
    · rename_i hc
      cases d1 with
      | ref n =>
        obtain ⟨_, ev⟩ := r1.ref
        have hc' : (dctOf w1.M n).isSome = true := hc
        obtain ⟨kvs, ek⟩ := Option.isSome_iff_exists.mp hc'
        obtain ⟨hn, hM, a, xs, eH, rk⟩ := o1.dct ek
        refine ⟨_, a, xs, ev, eH, RelK.keys rk, qb w1 δ σ _ o1 (s.mono l1) (h1.bind fun d2 w2 v2 l2 o2 r2 h2 => ?_)⟩
        have h3 := post_ofV h2
        unfold oGet at h3
        split at h3
        · rename_i n' k z en
          cases en
          split at h3
          · rename_i kvs' kk e1 e2
            obtain ⟨x1, x2, e3, rx1, rx2⟩ := r2.two
            have eρ : w2.ρ n = w1.ρ n := l2.ρ n hn
            rcases o2.dget e1 e2 rx1 with ⟨g1, g2⟩ | ⟨z', v, g1, g2, g3⟩
            · rw [eρ] at g2
              rw [g1] at h3
              exact ⟨x1, x2, none, e3, g2, PostV.val h3 o2 rx2⟩
            · rw [eρ] at g3
              rw [g1] at h3
              exact ⟨x1, x2, some v, e3, g3, PostV.val h3 o2 g2⟩
          · exact h3.elim
        · exact h3.elim
      | _ => cases hc
    · exact h1.elim
/-! ### l[i] += x -/
def oAt (a b : D) (M : Mem) : Option Int := match a, b with
  | .ref n, .int k => match lstOf M n with
    | some l => if 0 ≤ k ∧ k < 2 ^ 62 then (match l[k.toNat]? with
      | some (.int x) => some x
      | _ => none) else none
    | none => none
  | _, _ => none
def putI (a b : D) (x : Int) (M : Mem) : Option Mem := match a, b with
  | .ref n, .int k => match lstOf M n with
    | some l => (ixN l.length k).map fun j => M.set n (.lst (l.set j (.int x)))
    | none => none
  | _, _ => none
def sAugS (f i e : EF D) : DS := fun δ M => onV (f δ M) δ fun a M1 => onV (i δ M1) δ fun b M2 => match oAt a b M2 with
  | some x => onV (e δ M2) δ fun y M3 => match y with
    | .int j => (match putI a b (x + j) M3 with
      | some M4 => .nx δ M4
      | none => .bad)
    | _ => .bad
  | none => .bad
def rGetL : V → V → Hp → VK → Prop := fun o i H Q => ∃ p xs k v, o = .ref p ∧ i = .int k ∧ H p = some (.lst xs) ∧ 0 ≤ k ∧ k < 2 ^ 62 ∧ xs[k.toNat]? = some v ∧ Q v H
theorem get_lst : PGet X rGetL := by
  intro pins s σ H o i ov iv Q I ro ri h
  obtain ⟨p, xs, k, v, rfl, rfl, hp, h0, h1, hv, q⟩ := h
  cases ro
  obtain ⟨t, rfl⟩ := ri
  obtain ⟨its, n, r, ho, hz⟩ := I.lst hp
  obtain ⟨w, ew, rw'⟩ := r.get hv
  refine wpAny_getItem_list (items := its.toArray) ⟨_, ho, rfl, n, rfl⟩ h0 (by omega) (by simpa using ew) ⟨v, H, I, rw', q⟩
theorem ES.augS {o i e : Expr} {f g h : EF D} {tpos pos : Pos} (ho : EV T W X o f) (hi : EV T W X i g) (he : EV T W X e h)
    (ha : ∀ ov iv new, augStore i ov iv new = (do holding [new, ov, iv] (setItem ov iv new); release [new, ov, iv] []; pure .next)) : ES T W X (.AugAssign (.Subscript o i tpos) .Add e pos) (sAugS f g h) := by
  obtain ⟨ta, pa, qa⟩ := ho
  obtain ⟨tb, pb, qb⟩ := hi
  obtain ⟨tc, pc, qc⟩ := he
  refine ⟨_, ps_augS pa pb get_lst pc ip_add set_list ha, fun w δ σ E o s hh => ?_⟩
  refine qa w δ σ _ o s (onV_post s hh fun a w1 v1 l1 o1 r1 h1 => ?_)
  refine qb w1 δ σ _ o1 (s.mono l1) (onV_post (s.mono l1) h1 fun b w2 v2 l2 o2 r2 h2 => ?_)
  split at h2
  · rename_i x c
    unfold oAt at c
    split at c
    · rename_i n k
      split at c
      · rename_i l cl
        split at c
        · rename_i hk
          split at c
          · rename_i x' cx
            cases c
            obtain ⟨hn, hM, xs, hH, rl⟩ := o2.lst cl
            obtain ⟨v, g1, g2⟩ := rl.get cx
            unfold RelD at g2
            subst g2
            obtain ⟨_, ev⟩ := (RelD.mono l2 _ _ r1).ref
            unfold RelD at r2
            refine ⟨_, xs, k, .int x, ev, r2, hH, hk.1, hk.2, g1, ?_⟩
            refine qc w2 δ σ _ o2 ((s.mono l1).mono l2) (onV_post ((s.mono l1).mono l2) h2 fun y w3 v3 l3 o3 r3 h3 => ?_)
            split at h3
            · rename_i j
              unfold RelD at r3
              refine ⟨x, j, rfl, r3, ?_⟩
              split at h3
              · rename_i M4 c4
                unfold putI at c4
                simp only at c4
                split at c4
                · rename_i l' cl'
                  cases cq : ixN l'.length k with
                  | none => rw [cq] at c4; cases c4
                  | some q =>
                    rw [cq] at c4
                    cases c4
                    obtain ⟨hn', hM', ys, hH', rl'⟩ := o3.lst cl'
                    have eρ : w3.ρ n = w2.ρ n := l3.ρ n hn
                    obtain ⟨op, lp⟩ := o3.putted hM' hH' trivial (m := .lst (l'.set q (.int (x + j)))) (u := .lst (ys.set q (.int (x + j)))) (fun w' le => ⟨_, rfl, RelL.mono le _ _ (RelL.set .mkInt q rl')⟩) (fun _ z => by cases z)
                    rw [eρ] at hH'
                    refine ⟨_, ys, k, q, ev, r2, hH', by rw [rl'.length]; exact cq, ?_⟩
                    have hf := h3 (w3.put n (.lst (l'.set q (.int (x + j)))) (.lst (ys.set q (.int (x + j))))) σ rfl lp op ((((s.mono l1).mono l2).mono l3).mono lp)
                    rw [← eρ]
                    exact hf
                · cases c4
              · exact h3.elim
            · exact h3.elim
          · cases c
        · cases c
      · cases c
    · cases c
  · exact h2.elim
/-! ### three names at once -/
theorem RelL.three {R : RC} {w : Wd} {d d2 d3 : D} {xs : List V} (r : RelL R w [d, d2, d3] xs) : ∃ x y z, xs = [x, y, z] ∧ RelD R w d x ∧ RelD R w d2 y ∧ RelD R w d3 z := by
  unfold RelL at r
  obtain ⟨x, q, e, a, b⟩ := r
  obtain ⟨y, z, e2, b1, b2⟩ := RelL.two b
  exact ⟨x, y, z, by rw [e, e2], a, b1, b2⟩
theorem ES.par3 {i j l : Nat} {x y z : Str} {a b c : Expr} {ga : EF (List D)} {px py pz pt : Pos} {kt k2 pt2} (hc : X.calm = true) (hN : X.N.Nodup) (hi : X.N[i]? = some x) (hj : X.N[j]? = some y) (hl : X.N[l]? = some z) (hij : i ≠ j) (hil : i ≠ l) (hjl : j ≠ l)
    (hx : X.env.scope.names.lookup x = some .local) (hy : X.env.scope.names.lookup y = some .local) (hz : X.env.scope.names.lookup z = some .local) (ha : EA T W X [a, b, c] ga)
    (hw : swappedStores [.Tuple [.Name x px, .Name y py, .Name z pz] kt pt] (.Tuple [a, b, c] k2 pt2) X.env = pure (some [x, y, z])) (hs : swapsWithSole [.Tuple [.Name x px, .Name y py, .Name z pz] kt pt] (.Tuple [a, b, c] k2 pt2) pos.line X.env = pure false) :
    ES T W X (.Assign [.Tuple [.Name x px, .Name y py, .Name z pz] kt pt] (.Tuple [a, b, c] k2 pt2) pos) (sPar [i, j, l] ga) := by
  obtain ⟨ta, pa, qa⟩ := ha
  refine ⟨_, ps_par3 hc hN hi hj hl hij hil hjl hx hy hz pa hw hs, fun w δ σ E o s h => qa w δ σ _ o s (onV_post s h fun d w' v l' o' r k => ?_)⟩
  split at k
  · rename_i hl'
    match d, hl' with
    | [d1, d2, d3], _ =>
      obtain ⟨v1, v2, v3, e, r1, r2, r3⟩ := RelL.three r
      exact ⟨v1, v2, v3, e, k w' _ rfl (.refl _) o' ((((s.mono l').set r1 i).set r2 j).set r3 l)⟩
  · exact k.elim
end
end Pd
namespace Pd
open PySem PySem.Spec PyProof.Rows L2
/-! ### a lambda handed to a def that calls it -/
/-- F: what the def makes of what the lambda gives -/
def HofOk (T : TB) (lv : Nat) (P : Program) (w : World) (K : PySem.W.Frag) (mg : Str → Option Value) (base : Heap) (x : Str) (F : Res D → Mem → Res D) : Prop :=
  ∃ (g : Addr) (a : Str) (pg : Arguments) (bg : List Stmt) (sg : Scope) (dV kV doc pm cdv ct oc : Value) (an od : Option Addr) (osl : Array (Option Value)) (Ng : List Str) (k : Nat),
    k ≤ lv ∧ mg x = some (.ref g) ∧ PySem.W.keepIn K (.ref g) = true ∧ K.lookup g = some ⟨oc, od, .func (PySem.W.fnOf x x pg bg sg dV kV doc pm an cdv ct), osl⟩ ∧ PySem.W.codeIn K cdv x = true ∧
    L2.Binds K (PySem.W.fnOf x x pg bg sg dV kV doc pm an cdv ct) [a] [] ∧ FnScope Ng [a] sg ∧ Ng[0]? = some a ∧ Vis sg a ∧ (a == ("__debug__" : Str)) = false ∧ (a == ("__classdict__" : Str)) = false ∧
    ∀ (A : Around) (stack : List Env) (f : Addr) (s : Shared) (wd : Wd) (Q : VK) (E : XK) (r : Res D), Room k (A.deeper (envOfC x sg s.heap.objs.size g cdv)) → wd.Ok ⟨K, mg, T, w⟩ →
      (∀ (W : WX) (pn : List (Addr × Obj)) (xe : Value → Shared → Prop) (p1 p2 : Pos), L2N.Takes ((cxOf (L2N.CX P w) P w K mg base Ng x sg g cdv A stack s wd.H E).tr pn xe) W →
        PE ((cxOf (L2N.CX P w) P w K mg base Ng x sg g cdv A stack s wd.H E).tr pn xe) (.Call (.Name a p1) [] [] p2)
          (fun σZ HZ Q => σZ[0]? = some (some (.ref f)) ∧ HZ = wd.H ∧ Post ⟨K, mg, T, w⟩ (fun c d _ H' => W c d σZ H') wd [] (RelD ⟨K, mg, T, w⟩) Q r)) →
      Post ⟨K, mg, T, w⟩ (fun c d _ H' => E c d H') wd [] (RelD ⟨K, mg, T, w⟩) Q (F r wd.M) →
      ∃ t, PSs (cxOf (L2N.CX P w) P w K mg base Ng x sg g cdv A stack s wd.H E) bg t ∧ t { nx := fun _ H' => Q .non H', rt := Q } (L2.start Ng [.ref f]) wd.H
theorem HofOk.mono {T : TB} {lv lv' : Nat} {P : Program} {w : World} {K : PySem.W.Frag} {mg : Str → Option Value} {base : Heap} {x : Str} {F : Res D → Mem → Res D} (h : HofOk T lv P w K mg base x F) (l : lv ≤ lv') : HofOk T lv' P w K mg base x F := by
  obtain ⟨g, a, pg, bg, sg, dV, kV, doc, pm, cdv, ct, oc, an, od, osl, Ng, k, hk, r⟩ := h
  exact ⟨g, a, pg, bg, sg, dV, kV, doc, pm, cdv, ct, oc, an, od, osl, Ng, k, Nat.le_trans hk l, r⟩
/-- the lambda's context, by L2N's ends -/
def lamCxN (X : Cx) (A : Around) (outer : List Env) (s : Shared) (H : Hp) (E : XK) (scope : Scope) (f c' : Addr) : Cx :=
  (LamX.lamCx X A outer s H E scope f c').tr [] fun e s' => wpAny (model X.prog X.w) (A.deeper (LamX.lamEnv X scope s.heap.objs.size f c')) (leaving (LamX.lamEnv X scope s.heap.objs.size f c') e) (fun _ s'' => L2N.CX X.prog X.w outer H s E e s'') (fun e' s'' => L2N.CX X.prog X.w outer H s E e' s'') s'
def dHof (F : Res D → Mem → Res D) (lam : EF D) : EF D := fun δ M => F (lam δ M) M
/-- a dict is no code object -/
theorem dc_not_code (W : World) (a : Addr) (xs : List (NestedKey × Addr × V)) (c : Addr) (q : Str) : DcO W a xs ≠ LamX.CodeO c q := fun e => by
  unfold DcO LamX.CodeO at e
  injection e with e
  have d : Obj := { cls := .none, data := .fields #[] }
  let h : Heap := { objs := (Array.replicate c ({ cls := .none, data := .fields #[] } : Obj)).push { cls := .none, data := .fields #[.none, .str q default] } }
  have hc : h.get? c = some { cls := .none, data := .fields #[.none, .str q default] } := by
    show (match ((Array.replicate c ({ cls := .none, data := .fields #[] } : Obj)).push { cls := .none, data := .fields #[.none, .str q default] })[c]? with
      | some ⟨_, _, .freed, _⟩ => none
      | o => o) = _
    rw [show ((Array.replicate c ({ cls := .none, data := .fields #[] } : Obj)).push { cls := .none, data := .fields #[.none, .str q default] })[c]? = some { cls := .none, data := .fields #[.none, .str q default] } by rw [Array.getElem?_push, if_pos (by simp)]]
  have k := congrFun e h
  have r : (∃ (oc : Obj) (vs : Array Value) (t : Tok), h.get? c = some oc ∧ oc.data = .fields vs ∧ vs[1]? = some (.str q t)) := ⟨_, _, default, hc, rfl, rfl⟩
  rw [← k] at r
  obtain ⟨_, _, ys, _, o, es, ep, h1, _, h3, _⟩ := r
  have g : ∀ o', h.objs[a]? = some o' → ∃ vs, o'.data = .fields vs := fun o' z => by
    have z' : ((Array.replicate c ({ cls := .none, data := .fields #[] } : Obj)).push { cls := .none, data := .fields #[.none, .str q default] })[a]? = some o' := z
    rw [Array.getElem?_push] at z'
    split at z'
    · cases z'; exact ⟨_, rfl⟩
    · rw [Array.getElem?_replicate] at z'
      split at z'
      · cases z'; exact ⟨_, rfl⟩
      · cases z'
  unfold Heap.get? at h1
  split at h1
  · cases h1
  · obtain ⟨vs, ev⟩ := g o h1
    rw [ev] at h3
    cases h3
/-- the world behind the making of a lambda -/
theorem lam_world {T : TB} {X : Cx} {w : Wd} {H1 : Hp} (o : w.Ok (rc T X)) (eN : LamX.ExtN w.H H1) (T1 : LamX.Tabs T.tabs H1) :
    (⟨w.ρ, w.M, H1, fun c q => H1 c = some (LamX.CodeO c q)⟩ : Wd).Ok (rc T X) ∧ w.le ⟨w.ρ, w.M, H1, fun c q => H1 c = some (LamX.CodeO c q)⟩ := by
  have le : w.le ⟨w.ρ, w.M, H1, fun c q => H1 c = some (LamX.CodeO c q)⟩ := ⟨Nat.le_refl _, fun _ _ => rfl, fun a xs h => eN a _ h (fun _ z => by cases z), fun a u x h => eN a _ h (fun _ z => by cases z)⟩
  refine ⟨⟨fun n m e => ?_, o.inj, fun c q h => h, fun n c q hn hc z => ?_, fun p hp => ?_⟩, le⟩
  · obtain ⟨u, h, r, nt⟩ := o.at_ n m e
    exact ⟨u, eN _ _ h nt, r.mono le, nt⟩
  · obtain ⟨u, h, r, nt⟩ := o.at_ n _ (List.getElem?_eq_getElem hn)
    have h1 := eN _ _ h nt
    have hc : H1 c = some (LamX.CodeO c q) := hc
    have z : w.ρ n = c := z
    rw [z, hc] at h1
    have e := Option.some.inj h1
    subst e
    cases hm : w.M[n] with
    | lst l => rw [hm] at r; obtain ⟨xs, e, _⟩ := r; unfold LamX.CodeO at e; cases e
    | fz l => rw [hm] at r; obtain ⟨ob, xs, e, _⟩ := r; unfold LamX.CodeO at e; cases e
    | ins C fs => rw [hm] at r; obtain ⟨Ca, dx, fv, _, e, _⟩ := r; unfold LamX.CodeO at e; cases e
    | dct kvs => rw [hm] at r; obtain ⟨a, xs, e, _⟩ := r; exact absurd e.symm (dc_not_code _ _ _ _ _)
    | any => rw [hm] at r; exact r
  · obtain ⟨ps, h1, h2, h3⟩ := T1 p hp
    exact ⟨ps, h1, h2, h3⟩
section
variable {T : TB} {W : WX} {X : Cx} {pins : List (Addr × Obj)} {σ : St} {s : Shared}
/-- x(), in the def that got the lambda -/
theorem lam_act {δ : DEnv} {wd : Wd} {Eg : XK} {Ng : List Str} {qg : Str} {sg : Scope} {g f c' : Addr} {cdg pm ctv : Value} {params : Arguments} {body : Expr} {scope : Scope} {k : Nat} {a : Str} {pn : List (Addr × Obj)} {xe : Value → Shared → Prop} {W' : WX} {p1 p2 : Pos} {lam : EF D}
    (I : Inv X pins σ wd.H s) (o : wd.Ok (rc T X)) (sr : SRel (rc T X) wd δ σ) (L : LamX.LamS X.env.scope scope) (hf : s.heap.get? f = some (PySem.W.kla_obj "<lambda>" (X.env.qual ++ "<lambda>") params body scope (cloFrom X.env.cells scope.names []) pm c' ctv)) (hfn : wd.H f = none) (hfr : f ∉ frs X.stack)
    (hco : wd.H c' = some (LamX.CodeO c' (X.env.qual ++ "<lambda>")))
    (hbind : bindArgs (PySem.W.kla_fn "<lambda>" (X.env.qual ++ "<lambda>") params body scope (cloFrom X.env.cells scope.names []) pm (.ref c') ctv) ⟨[], []⟩ = pure [])
    (tk : L2N.Takes ((cxOf (L2N.CX X.prog X.w) X.prog X.w X.K X.mg X.base Ng qg sg g cdg X.A X.stack s wd.H Eg).tr pn xe) W') (hr : Room (k + 1) (X.A.deeper (envOfC qg sg s.heap.objs.size g cdg)))
    (hbody : ∀ (A : Around) (outer : List Env) (s : Shared) (H : Hp) (E : XK), Room k (A.deeper (LamX.lamEnv X scope s.heap.objs.size f c')) → EV T (fun c d _ H' => E c d H') (lamCxN X A outer s H E scope f c') body lam)
    (hN : Ng[0]? = some a) (hv : Vis sg a) (hd : (a == ("__debug__" : Str)) = false) (hcd : (a == ("__classdict__" : Str)) = false) :
    PE ((cxOf (L2N.CX X.prog X.w) X.prog X.w X.K X.mg X.base Ng qg sg g cdg X.A X.stack s wd.H Eg).tr pn xe) (.Call (.Name a p1) [] [] p2)
      (fun σZ HZ Q => σZ[0]? = some (some (.ref f)) ∧ HZ = wd.H ∧ Post (rc T X) (fun c d _ H' => W' c d σZ H') wd [] (RelD (rc T X)) Q (lam δ wd.M)) := by
  refine ⟨fun pinsZ sZ σZ HZ Q IZ h => ?_⟩
  obtain ⟨hs, hc, ht⟩ := h
  subst hc
  refine wpAny_Call_Name_kw (thn ((pe_var (pos := p1) (i := 0) hN hv hd hcd).run pinsZ sZ σZ wd.H (fun v H1 => v = .ref f ∧ H1 = wd.H) IZ ⟨.ref f, hs, rfl, rfl⟩) fun u s1 ⟨v, H1, I1, r1, q1⟩ => ?_)
  obtain ⟨ev, eH⟩ := q1
  subst ev
  rw [eH] at I1
  obtain rfl : u = Value.ref f := r1
  have of1 : s1.heap.get? f = some (PySem.W.kla_obj "<lambda>" (X.env.qual ++ "<lambda>") params body scope (cloFrom X.env.cells scope.names []) pm c' ctv) := I1.base.keep f _ hf hfn hfr (fun z => nomatch (show f ∈ ([] : List Addr) from z))
  refine PySem.W.callWith_F0 ⟨_, _, _, _, of1⟩ ?_
  have un : Un (frs X.stack) [] wd.H wd.H s.heap s1.heap := I1.base
  obtain ⟨⟨oc, vs, t, hoc, hdc, hvc⟩, _, _⟩ := I1.hok c' _ hco
  have go : codeAny (model X.prog X.w) (X.A.deeper (envOfC qg sg s.heap.objs.size g cdg)) (.call (.ref f) ⟨[], []⟩) (CR (L2N.CX X.prog X.w) (envOfC qg sg s.heap.objs.size g cdg :: X.stack) X.prog X.w wd.H s1 Q (WE W' σZ)) s1 := by
    refine PySem.W.kla_callFunE hr.depth of1 rfl L.co L.gen rfl ⟨c', oc, vs, t, rfl, hoc, hdc, hvc⟩ ?_
    rw [hbind]
    refine wpAny_pure (wpAny_newFunctionEnv (fun y hy => (L.own y hy).2) (fun y hy => absurd hy (by simp)) (fun h₁ hns hsb => ⟨I1.nolimit.fresh _ hsb, ?_⟩) L.kind)
    show codeAny _ _ (.expr body (LamX.lamEnv X scope s1.heap.objs.size f c')) _ _
    have kp : ∀ b o, s1.heap.get? b = some o → h₁.get? b = some o := fun b o e => hsb.extBut b o (Nat.ne_of_lt (Heap.lt_size e)) (Heap.get?_push_of_some _ e)
    have J := (LamX.lam_start2 (A := X.A.deeper (envOfC qg sg s.heap.objs.size g cdg)) (outer := envOfC qg sg s.heap.objs.size g cdg :: X.stack) (E := WE W' σZ) (scope := scope) (f := f) (c' := c') (tk := s1.toks + ([] : List (Str × Value)).length) I L I1.env0 hr.hd un hns kp).toTry
      (fun e s' => wpAny (model X.prog X.w) ((X.A.deeper (envOfC qg sg s.heap.objs.size g cdg)).deeper (LamX.lamEnv X scope s1.heap.objs.size f c')) (leaving (LamX.lamEnv X scope s1.heap.objs.size f c') e) (fun _ s'' => L2N.CX X.prog X.w (envOfC qg sg s.heap.objs.size g cdg :: X.stack) wd.H s1 (WE W' σZ) e s'') (fun e' s'' => L2N.CX X.prog X.w (envOfC qg sg s.heap.objs.size g cdg :: X.stack) wd.H s1 (WE W' σZ) e' s'') s')
    obtain ⟨tb, hp, hq⟩ := hbody (X.A.deeper (envOfC qg sg s.heap.objs.size g cdg)) (envOfC qg sg s.heap.objs.size g cdg :: X.stack) s1 wd.H (WE W' σZ) (hr.deeper _)
    refine PySem.W.kla_codeExpr (wpAny_mono (hp.run [] _ _ wd.H Q J (hq wd δ σ Q o sr (ht.sig fun _ _ _ z => z))) (fun v s' hq => ?_) fun e s' hq => hq)
    obtain ⟨w', H', J', rv, q⟩ := hq
    exact ⟨w', H', J'.os, J'.bare, J'.base, J'.hok, rv, q⟩
  refine wpAny_call (codeAny_mono go fun r s' hq => ?_)
  cases r with
  | error e => exact L2N.passAt tk σZ pinsZ wd.H s1 e s' I1 hq
  | ok fl =>
    cases fl with
    | ret u => exact I1.after hq
    | next => exact False.elim hq
    | brk => exact False.elim hq
    | cont => exact False.elim hq
theorem EV.hof {F : Res D → Mem → Res D} {lam : EF D} {x : Str} {c P : Addr} {k : Nat} {params : Arguments} {body : Expr} {scope : Scope} {p lpos pos : Pos} (hg : Gl X x) (hH : HofOk T k X.prog X.w X.K X.mg X.base x F) (hr : Room (k + 2) X.A) (tk : L2N.Takes X W)
    (TBx : LamX.TabB X.base X.mg c P) (hcode : X.env.code = .ref c) (hmT : (P, X.env.qual ++ "<lambda>") ∈ T.tabs) (hu : ∀ p ∈ T.tabs, p.1 = P → p.2 = X.env.qual ++ "<lambda>") (L : LamX.LamS X.env.scope scope) (hdef : defaultsOf params X.env = ([], []))
    (hbind : ∀ (q : Str) (cl : List (Str × Addr)) (pm cv ctv : Value), bindArgs (PySem.W.kla_fn "<lambda>" q params body scope cl pm cv ctv) ⟨[], []⟩ = pure [])
    (hbody : ∀ (A : Around) (outer : List Env) (s : Shared) (H : Hp) (E : XK) (f c' : Addr), Room k (A.deeper (LamX.lamEnv X scope s.heap.objs.size f c')) → EV T (fun c d _ H' => E c d H') (lamCxN X A outer s H E scope f c') body lam)
    (hdb : (x == ("__debug__" : Str)) = false) : EV T W X (.Call (.Name x p) [.Lambda params body scope lpos] [] pos) (dHof F lam) := by
  obtain ⟨g, a, pg, bg, sg, dV, kV, doc, pm, cdv, ct, oc, an, od, osl, Ng, k0, hk0, hm, hk, lk, hcg, hb, Sg, hNg, hva, hd1, hd2, run⟩ := hH
  refine ⟨fun σ H Q => ∃ w δ, w.H = H ∧ w.Ok (rc T X) ∧ SRel (rc T X) w δ σ ∧ Post (rc T X) W w σ (RelD (rc T X)) Q (F (lam δ w.M) w.M), ⟨fun pins s σ H Q I h => ?_⟩, fun w δ σ Q o s h => ⟨w, δ, rfl, o, s, h⟩⟩
  obtain ⟨w, δ, rfl, o, sr, h⟩ := h
  refine wpAny_Call_Name_kw (ld_glob I hg hm ?_ hdb)
  refine PySem.W.callWith_K (h₀ := X.base) I.ok.mod.kin hk ?_ (by rfl) (by rfl)
  show wpAny _ _ (spliced ((false, eval (.Lambda params body scope lpos) X.env) :: backTo pos (starEach [] X.env))) _ _ s
  refine Calls.spliced_cons (LamX.lam_make2 I TBx hcode hmT hu o.tabs hdef (L.has I.ok) fun f c' pm' ctv H1 s' I1 eN T1 hf hfn hfr hco => ?_)
  refine Calls.spliced_nil ⟨I1.kIn, ?_⟩
  obtain ⟨o1, le⟩ := lam_world o eN T1
  have go : codeAny (model X.prog X.w) X.A (.call (.ref g) ⟨[.ref f], []⟩) (CR (L2N.CX X.prog X.w) X.stack X.prog X.w H1 s' Q (WE W σ)) s' := by
    refine LamX.run_ofS (k := k + 1) (N := Ng) (ps := [a]) (us := [.ref f]) (vs := [.ref f]) lk hcg Sg hr I1.env0 (hb s' [.ref f] I1.kIn rfl) (.cons rfl .nil) rfl fun hr' => ?_
    refine run X.A X.stack f s' ⟨w.ρ, w.M, H1, fun c q => H1 c = some (LamX.CodeO c q)⟩ Q (WE W σ) (lam δ w.M) (hr'.mono (Nat.le_trans hk0 (Nat.le_succ _))) o1 (fun W' pn xe p1 p2 tk' => ?_) ((Post.at le h).sig fun _ _ _ z => z)
    exact lam_act (wd := ⟨w.ρ, w.M, H1, fun c q => H1 c = some (LamX.CodeO c q)⟩) I1 o1 (sr.mono le) L hf hfn hfr hco (hbind _ _ _ _ _) tk' hr' (fun A outer s H E' hr2 => hbody A outer s H E' f c' hr2) hNg hva hd1 hd2
  refine wpAny_call (codeAny_mono go fun r s2 hq => ?_)
  cases r with
  | error e => exact L2N.passAt tk σ pins H1 s' e s2 I1 hq
  | ok fl =>
    cases fl with
    | ret u => exact I1.after hq
    | next => exact False.elim hq
    | brk => exact False.elim hq
    | cont => exact False.elim hq
/-! ### a slot that holds a def -/
/-- S: what a module's name stands for, if a def: its arity and its function -/
def dCallV (S : Str → Option (Nat × (List D → Mem → Res D))) (i : Nat) (g : EF (List D)) : EF D := fun δ M => match δ[i]? with
  | some (some (.gl x)) => (match S x with
    | some p => dCall p.2 p.1 g δ M
    | none => .bad)
  | _ => .bad
theorem EV.callV {S : Str → Option (Nat × (List D → Mem → Res D))} {i k : Nat} {a : Str} {e : Expr} {es : List Expr} {p pos : Pos} {g : EF (List D)}
    (hS : ∀ x n φ, S x = some (n, φ) → ∃ f fd j ps, j ≤ k ∧ X.mg x = some (.ref f) ∧ FnOk X.prog X.w X.K X.mg X.base (L2N.CX X.prog X.w) j f fd ps (spOf (rc T X) n φ) ∧ PySem.W.keepIn X.K (.ref f) = true ∧ Binds X.K fd ps [])
    (hr : Room k X.A) (hN : X.N[i]? = some a) (hv : Vis X.env.scope a) (tk : L2N.Takes X W) (ha : EA T W X (e :: es) g) (hdb : (a == ("__debug__" : Str)) = false) (hcd : (a == ("__classdict__" : Str)) = false)
    (he : starEach (e :: es) X.env = (false, eval e X.env) :: starEach es X.env) (hpl : (backTo pos (starEach es X.env)).any (·.1) = false) :
    EV T W X (.Call (.Name a p) (e :: es) [] pos) (dCallV S i g) := by
  obtain ⟨ta, pa, qa⟩ := ha
  refine ⟨fun σ H Q => ∃ f n φ fd j ps, j ≤ k ∧ σ[i]? = some (some (.ref f)) ∧ FnOk X.prog X.w X.K X.mg X.base (L2N.CX X.prog X.w) j f fd ps (spOf (rc T X) n φ) ∧ PySem.W.keepIn X.K (.ref f) = true ∧ Binds X.K fd ps [] ∧ ta σ H fun vs H1 => spOf (rc T X) n φ vs H1 Q (WE W σ), ⟨fun pins s σ H Q I h => ?_⟩, fun w δ σ Q o s h => ?_⟩
  · obtain ⟨f, n, φ, fd, j, ps, hj, hs, F, hk, hb, ht⟩ := h
    refine wpAny_Call_Name_kw (thn ((pe_var (pos := p) hN hv hdb hcd).run pins s σ H (fun v H1 => v = .ref f ∧ H1 = H) I ⟨.ref f, hs, rfl, rfl⟩) fun u s1 ⟨v, H1, I1, r1, q1⟩ => ?_)
    obtain ⟨rfl, rfl⟩ := q1
    cases r1
    refine PySem.W.callWith_K (h₀ := X.base) I.ok.mod.kin hk (thn (pa.run pos pins s1 σ _ _ I1 ht) fun us s2 ⟨vs, H2, I2, r, q⟩ => ⟨I2.kIn, ?_⟩) he hpl
    exact run_fnS (F.mono hj) hr hb (L2N.passAt tk σ) I2 r q
  · unfold dCallV at h
    split at h
    · rename_i x ex
      split at h
      · rename_i pr es'
        obtain ⟨n, φ⟩ := pr
        obtain ⟨f, fd, j, ps, hj, hm, F, hk, hb⟩ := hS x n φ es'
        obtain ⟨v, e1, r1⟩ := s.at_ i _ ex
        unfold RelD at r1
        obtain ⟨u, hu, ru⟩ := r1
        have hu : X.mg x = some u := hu
        rw [hm] at hu
        cases hu
        have ev : v = .ref f := by
          cases v with
          | ref b => exact congrArg V.ref (Value.ref.inj ru).symm
          | _ => first | (obtain ⟨t, z⟩ := ru; cases z; done) | cases ru
        subst ev
        refine ⟨f, n, φ, fd, j, ps, hj, e1, F, hk, hb, qa w δ σ _ o s (h.bind fun l w1 xs l1 o1 r1 h1 => ?_)⟩
        split at h1
        · rename_i hl
          exact ⟨w1, l, rfl, o1, r1, hl, h1.sig fun _ _ _ q => q⟩
        · exact h1.elim
      · exact h.elim
    · exact h.elim
end
end Pd
namespace Pd
open PySem PySem.Spec PyProof.Rows L2
/-! ### iterators that end while an exception is handled -/
section
variable {prog : Program} {w : World} {A : Around} {E : Value → Shared → Prop} {s : Shared}
/-- everything that stood stands -/
def Grown (h h' : Heap) : Prop := ∀ b o, h.get? b = some o → h'.get? b = some o
theorem stop_raised {α : Type} {x1 : Addr} {Q : α → Shared → Prop} (hot : HotX.HotAt A x1 s.heap)
    (k : ∀ (a : Addr) (h' : Heap), Grown s.heap h' → (∃ o, h'.get? a = some o ∧ o.cls = .type "StopIteration") → E (.ref a) { s with heap := h' }) :
    wpAny (model prog w) A (newExc (.type "StopIteration") [] >>= fun e => (raiseNew e : Sem α)) Q E s := by
  obtain ⟨hh, o1, vs1, h1, d1, c1⟩ := hot
  refine wpAny_bind ?_
  unfold newExc newTuple
  apply wpAny_bind
  refine wpAny_newObj_type ?step1 (by size_fits)
  case step1 =>
    apply wpAny_bind
    refine wpAny_of_eq (a := Value.none) (by first | rfl | (simp only [firstArgMember]; rfl)) ?step2
    refine wpAny_newObj_type ?step3 (by size_fits)
    have up : ∀ {b o} (p q : Obj), s.heap.get? b = some o → ((s.heap.push p).push q).get? b = some o := fun p q e => Heap.get?_push_of_some q (Heap.get?_push_of_some p e)
    refine HotX.raiseNew_hot ⟨hh, o1, vs1, up _ _ h1, d1, c1⟩ (Nat.ne_of_lt (Heap.lt_size (Heap.get?_push_of_some _ h1))) (Heap.get?_push_size _ rfl) rfl (by simp only [Array.size_append]; simp; omega) ?step4
    refine k _ _ (fun b o e => ?_) ⟨_, Heap.get?_update_self _ (Heap.get?_push_size _ rfl) rfl, rfl⟩
    rw [Heap.get?_update_other _ _ (Nat.ne_of_gt (Heap.lt_size (Heap.get?_push_of_some _ e)))]
    exact up _ _ e
/-- next of an iterator whose turn ends by StopIteration, caught -/
theorem list_over {it l x1 : Addr} {i : Nat} {items} {Q : Option Value → Shared → Prop} (hot : HotX.HotAt A x1 s.heap) (nx : x1 ≠ it)
    (hit : s.heap.IsListIter it l i) (hl : s.heap.IsList l items) (hx : items[i]? = none)
    (k : ∀ h', (∀ b o, b ≠ it → s.heap.get? b = some o → h'.get? b = some o) → Q none { s with heap := h' }) : wpAny (model prog w) A (pyNext (.ref it)) Q E s := by
  obtain ⟨o, ho, hc, hd⟩ := id hit
  obtain ⟨ol, hol, _, nl, hdl⟩ := hl
  obtain ⟨hh, o1, vs1, h1, d1, c1⟩ := hot
  unfold pyNext
  apply wpAny_bind
  apply wpAny_attempt
  refine wpAny_callSpecial?_slot (name := Str.ofString "__next__") hit.typeIs slot_listiter_next ?call
  refine wpAny_call_entry slot_listiter_next hit.typeIs entry_listiter_next ?body (args_listiter_next _)
  show wpAny _ _ (field (.ref it) 0 >>= _) _ _ s
  apply wpAny_bind
  refine wpAny_field ho hd (x := .ref l) rfl ?_
  show wpAny _ _ (if (Value.ref l == Value.none) = true then _ else _) _ _ s
  have q0 : ¬ ((Value.ref l == Value.none) = true) := Bool.false_ne_true
  rw [if_neg q0]
  show wpAny _ _ (field (.ref it) 1 >>= _) _ _ s
  apply wpAny_bind
  refine wpAny_field ho hd (x := .int i 0) rfl ?_
  show wpAny _ _ (seqItems? (.ref l) >>= _) _ _ s
  apply wpAny_bind
  refine wpAny_seqItems hol hdl ?_
  simp only [Int.toNat_natCast, hx]
  apply wpAny_bind
  apply wpAny_rule
  apply wpAny_bind
  refine wpAny_setField ho hd (by simp) ?_
  show wpAny _ _ (newExc (.type "StopIteration") [] >>= fun e => (raiseNew e : Sem Fin)) _ _ _
  apply stop_raised (A := A.in1) (x1 := x1) ⟨hh, o1, vs1, (Heap.get?_update_other _ _ (Ne.symm nx)).trans h1, d1, c1⟩
  intro a h' g t
  apply wpAny_bind
  refine wpAny_isInstance (T := "StopIteration") (b := true) t isSubtype_stop ?_
  exact wpAny_pure (k _ fun b o hb e => g b o ((Heap.get?_update_other _ _ (Ne.symm hb)).trans e))
theorem tuple_over {it t x1 : Addr} {i : Nat} {items} {Q : Option Value → Shared → Prop} (hot : HotX.HotAt A x1 s.heap) (nx : x1 ≠ it)
    (hit : IsTupIter s.heap it t i) (ht : IsTup s.heap t items) (hx : items[i]? = none)
    (k : ∀ h', (∀ b o, b ≠ it → s.heap.get? b = some o → h'.get? b = some o) → Q none { s with heap := h' }) : wpAny (model prog w) A (pyNext (.ref it)) Q E s := by
  obtain ⟨o, ho, hc, hd⟩ := id hit
  obtain ⟨ol, hol, _, nl, hdl⟩ := ht
  obtain ⟨hh, o1, vs1, h1, d1, c1⟩ := hot
  unfold pyNext
  apply wpAny_bind
  apply wpAny_attempt
  refine wpAny_callSpecial?_slot (name := Str.ofString "__next__") hit.typeIs slot_tupleiter_next ?call
  refine wpAny_call_entry slot_tupleiter_next hit.typeIs entry_tupleiter_next ?body (args_tupleiter_next _)
  show wpAny _ _ (field (.ref it) 0 >>= _) _ _ s
  apply wpAny_bind
  refine wpAny_field ho hd (x := .ref t) rfl ?_
  show wpAny _ _ (if (Value.ref t == Value.none) = true then _ else _) _ _ s
  have q0 : ¬ ((Value.ref t == Value.none) = true) := Bool.false_ne_true
  rw [if_neg q0]
  show wpAny _ _ (field (.ref it) 1 >>= _) _ _ s
  apply wpAny_bind
  refine wpAny_field ho hd (x := .int i 0) rfl ?_
  show wpAny _ _ (seqItems? (.ref t) >>= _) _ _ s
  apply wpAny_bind
  refine wpAny_seqItems hol hdl ?_
  simp only [Int.toNat_natCast, hx]
  apply wpAny_bind
  apply wpAny_rule
  apply wpAny_bind
  refine wpAny_setField ho hd (by simp) ?_
  show wpAny _ _ (newExc (.type "StopIteration") [] >>= fun e => (raiseNew e : Sem Fin)) _ _ _
  apply stop_raised (A := A.in1) (x1 := x1) ⟨hh, o1, vs1, (Heap.get?_update_other _ _ (Ne.symm nx)).trans h1, d1, c1⟩
  intro a h' g t
  apply wpAny_bind
  refine wpAny_isInstance (T := "StopIteration") (b := true) t isSubtype_stop ?_
  exact wpAny_pure (k _ fun b o hb e => g b o ((Heap.get?_update_other _ _ (Ne.symm hb)).trans e))
/-- a tuple unpacked, all of it -/
theorem unpacked_hot {t x1 : Addr} {items : Array Value} {Q : List Value → Shared → Prop} (hot : HotX.HotAt A x1 s.heap) (ht : IsTup s.heap t items)
    (k : ∀ h', Grown s.heap h' → Q items.toList { s with heap := h' }) : wpAny (model prog w) A (unpackItems (.ref t) items.size none) Q E s := by
  have small : t < s.heap.objs.size := by obtain ⟨o, ho, _⟩ := ht; exact Heap.lt_size ho
  obtain ⟨hh, o1, vs1, h1, d1, c1⟩ := hot
  have x1s : x1 < s.heap.objs.size := Heap.lt_size h1
  unfold unpackItems
  apply wpAny_bind
  unfold notIterableAtAll
  apply wpAny_bind
  refine wpAny_specialOf ht.typeIs slot_tuple_iter.lookup (wpAny_pure ?_)
  simp only [Bool.false_eq_true, if_false]
  apply wpAny_bind
  refine wpAny_holding (iter_tuple ht ?_)
  apply wpAny_bind
  refine wpAny_holding (draw_tuple (t := t) (items := items) (Nat.ne_of_lt small) items.size 0 _ _ ⟨_, Heap.get?_push_size _ rfl, rfl, rfl⟩ (ht.push _) (by omega) fun h2 it2 sb2 => ?_)
  have whole : List.take items.size (List.drop 0 items.toList) = items.toList := by rw [List.drop_zero, ← Array.length_toList, List.take_length]
  have grown2 : ∀ b o, s.heap.get? b = some o → h2.get? b = some o := fun b o e => sb2.extBut b o (Nat.ne_of_lt (Heap.lt_size e)) (Heap.get?_push_of_some _ e)
  rw [whole, if_neg (by simp)]
  apply wpAny_bind
  refine wpAny_holding (tuple_over (x1 := x1) ⟨hh, o1, vs1, grown2 _ _ h1, d1, c1⟩ (Nat.ne_of_lt x1s) it2 ((ht.push _).extBut sb2.extBut (Nat.ne_of_lt small)) (by simp) fun h3 g3 => ?_)
  simp only [Option.isSome_none, Bool.false_eq_true, if_false]
  exact wpAny_pure (k h3 fun b o e => g3 b o (Nat.ne_of_lt (Heap.lt_size e)) (grown2 b o e))
theorem tuple_stored_hot {env : Env} {elts : List Expr} {j : Nat} {pos : Pos} {t x1 : Addr} {items : Array Value} {Q : Unit → Shared → Prop} (hot : HotX.HotAt A x1 s.heap) (ht : IsTup s.heap t items)
    (hn : (assignEach elts env).length = items.size) (hstar : (assignEach elts env).findIdx? (·.1) = none)
    (k : ∀ h', Grown s.heap h' → wpAny (model prog w) A (assignInOrder ((assignEach elts env).map (·.2)) items.toList) Q E { s with heap := h' }) :
    wpAny (model prog w) A (assign (.Tuple elts j pos) env (.ref t)) Q E s := by
  rw [assign_Tuple]
  apply wpAny_bind
  apply wpAny_standAt
  unfold unpack
  rw [hn, hstar]
  apply wpAny_bind
  exact wpAny_holding (unpacked_hot hot ht k)
end
/-! ### the handled exception, as a context tells it -/
structure HotS (ea : Addr) (en : Str) (X : Cx) : Prop where
  hd : X.A.handled = some (.ref ea)
  ob : ∃ o vs C, X.s_0.heap.get? ea = some o ∧ o.data = .fields vs ∧ vs[2]? = some .none ∧ X.mg en = some (.ref C) ∧ o.cls = .ref C ∧ o.dict = none ∧ ExcC X.K C
  fr : X.H_0 ea = none
  nf : ea ∉ X.fs
  ne : ea ∉ X.ex
section
variable {ea : Addr} {en : Str} {X : Cx} {pins : List (Addr × Obj)} {σ : St} {H : Hp} {s : Shared}
theorem HotS.get (h : HotS ea en X) (I : Inv X pins σ H s) : ∃ o vs C, s.heap.get? ea = some o ∧ o.data = .fields vs ∧ vs[2]? = some .none ∧ X.mg en = some (.ref C) ∧ o.cls = .ref C ∧ o.dict = none ∧ ExcC X.K C := by
  obtain ⟨o, vs, C, e, r⟩ := h.ob
  exact ⟨o, vs, C, I.base.keep _ _ e h.fr h.nf h.ne, r⟩
theorem HotS.hot (h : HotS ea en X) (I : Inv X pins σ H s) : HotX.HotAt X.A ea s.heap := by
  obtain ⟨o, vs, C, e, d, c, _⟩ := h.get I
  exact ⟨h.hd, o, vs, e, d, c⟩
theorem HotS.free (h : HotS ea en X) (I : Inv X pins σ H s) : H ea = none := by
  obtain ⟨o, vs, C, e, _⟩ := h.ob
  exact I.base.free _ _ e h.fr h.ne
theorem HotS.low (h : HotS ea en X) (I : Inv X pins σ H s) : ea < X.s_0.heap.objs.size := by
  obtain ⟨o, vs, C, e, _⟩ := h.ob
  exact Heap.lt_size e
/-- a block within -/
theorem HotS.blk (h : HotS ea en X) (I : Inv X pins σ H s) {scope : Scope} {cenv : Env} {fp : List Addr} (hf : ea ∉ fp) : HotS ea en (X.blk s H scope cenv fp) where
  hd := h.hd
  ob := h.get I
  fr := h.free I
  nf := fun z => by
    rcases List.mem_cons.mp (I.stkSub _ z) with e | e
    · have a := h.low I
      have b := I.ok.above
      rw [e] at a
      exact Nat.lt_irrefl _ (Nat.lt_of_lt_of_le a b)
    · exact h.nf e
  ne := hf
/-- (a, b, ..) = a tuple -/
theorem pg_tupH {es : List Expr} {k : Nat} {t : TGs} {n : Nat} {pos : Pos} (hh : HotS ea en X) (h : PGs X es t) (hn : (assignEach es X.env).length = n) (hst : (assignEach es X.env).findIdx? (·.1) = none) : PG X (.Tuple es k pos) (gTup X.K n t) := by
  refine ⟨fun pins s σ H v u Q I r ⟨a, xs, e1, hq, hl, hw⟩ => ?_⟩
  subst e1
  obtain rfl : u = Value.ref a := r
  obtain ⟨its, rv, ht, hz⟩ := I.tuple hq
  refine tuple_stored_hot (hh.hot I) ht (by rw [hn, ← hl, rv.length]; simp) hst fun h' g => ?_
  exact h.run pins _ σ H xs _ Q (I.kept (t' := s.toks) g) (by simpa using rv) hw
/-! ### a list comprehension over a list, while an exception is handled -/
/-- the turns of the iterator it over the list at a -/
theorem turnH {B : Cx} {a it : Addr} {i : Nat} {τ : St} {tg : Expr} {E : Value → Shared → Prop} {xs : List V} (hh : HotS ea en B) (I : Inv B [] τ H s) (st : s.heap.IsListIter it a i) (f : FpOk B [] H it) (hq : SqL B.K H a xs) :
    wpAny (model B.prog B.w) B.A (pyNext (.ref it)) (fun r s1 => match r with
      | none => xs[i]? = none ∧ Inv B [] τ H s1
      | some u => ∃ x, xs[i]? = some x ∧ RelV x u ∧ wpAny (model B.prog B.w) B.A (letOwnedTupleGo tg (.ref it) u) (fun _ s2 => Inv B [] τ H s2 ∧ s2.heap.IsListIter it a (i + 1)) E s1) E s := by
  obtain ⟨its, rv, p, hz⟩ := I.list hq
  obtain ⟨f0, f1, f2, f3, f4, f5⟩ := f
  have len := rv.length
  cases c : xs[i]? with
  | none =>
    have c' := List.getElem?_eq_none_iff.mp c
    refine list_over (hh.hot I) (fun z => ?_) st p.isList (by simp; omega) fun h' g => ⟨rfl, I.turned (t' := s.toks) (fun b o hb e => g b o hb e) f0 f1 f3 f4 f5⟩
    rcases f3 with z2 | z2
    · exact hh.ne (z ▸ z2)
    · have := hh.low I
      rw [z] at this
      exact Nat.lt_irrefl _ (Nat.lt_of_lt_of_le this z2)
  | some x =>
    obtain ⟨u, hu, ru⟩ := rv.get c
    refine wpAny_pyNext_list_item st p.isList (x := u) (by simpa using hu) fun h' it' sb => ⟨x, rfl, ru, ?_⟩
    obtain ⟨o, e1, e2, e3⟩ := id it'
    exact go_of (s := { s with heap := h' }) e1 e2 e3 (by decide) ⟨I.turned (t' := s.toks) (fun b o hb e => (sb.2 b hb).trans e) f0 f1 f3 f4 f5, it'⟩
theorem lc_hot {Q : VK} {elt tg iter : Expr} {ifs : List Expr} {scope : Scope} {own : List (Str × Nat)} {pos : Pos} {ti : TE} {g : TG} {tt : TT} {te : TE}
    (hh : HotS ea en X) (hN : X.N.Nodup) (hi : PE X iter ti) (ok : BlkOk X.N X.env.scope scope own)
    (hb : ∀ (s : Shared) (H : Hp) (C : Addr) (cl : List (Str × Addr)) (fp : List Addr), HotS ea en (X.blk s H scope (compEnvC scope cl C X.env) fp) → PG (X.blk s H scope (compEnvC scope cl C X.env) fp) tg g ∧ PTs (X.blk s H scope (compEnvC scope cl C X.env) fp) ifs tt ∧ PE (X.blk s H scope (compEnvC scope cl C X.env) fp) elt te)
    (hs : ∀ x, foldedSetIterable iter X.env x = pure x) : PE X (.ListComp elt [⟨tg, iter, ifs, 0⟩] scope pos) (tLc (iList X.K ti) g tt te (own.map (·.2))) := by
  refine ⟨fun pins s σ H Q I h => ?_⟩
  rw [eval_ListComp]
  have caught : ∀ y ∈ scope.names, y.2 = .free → ∃ c, X.env.cells.lookup y.1 = some c := fun y hy e => (ok.free y hy e).elim (fun z => I.ok.has _ (.inl z)) fun z => I.ok.has _ (.inr z)
  refine wpAny_comprehension_free (use := none) rfl hs (closure_ok caught) ok.kind (fun y hy e => by rw [ok.uniq y hy, e]) ?_
  refine thn (hi.run pins s σ H _ I h) fun xv s1 ⟨x, H1, I1, r1, a, e1, ⟨xs0, hq0⟩, turns⟩ => ?_
  subst e1
  obtain rfl : xv = Value.ref a := r1
  obtain ⟨its0, rv0, p0, hz0⟩ := I1.list hq0
  refine wpAny_pyIter_list p0.isList ?_
  generalize hS2 : ({ s1 with heap := s1.heap.push { cls := .type "list_iterator", data := .fields #[.ref a, .int 0 0] } } : Shared) = s2
  have I2 : Inv X pins σ H1 s2 := by rw [← hS2]; exact I1.kept (t' := s1.toks) fun b o e => Heap.get?_push_of_some _ e
  generalize hit : s1.heap.objs.size = it
  have st2 : s2.heap.IsListIter it a 0 := by rw [← hS2, ← hit]; exact ⟨_, Heap.get?_push_size _ rfl, rfl, rfl⟩
  have itH1 : H1 it = none := I1.hok.fresh (Nat.le_of_eq hit)
  have f2 : FpOk X pins H1 it := I1.fpOk (Nat.le_of_eq hit) itH1
  have itlt : it < s2.heap.objs.size := by obtain ⟨o, e, _⟩ := st2; exact Heap.lt_size e
  refine wpAny_newObj_type (newEnv_comp ?_) (by show 0 ≤ sizeLine; decide)
  generalize hD : s2.heap.objs.size = L
  have freshL : H1 L = none := I2.hok.fresh (Nat.le_of_eq hD)
  obtain ⟨Wv, ⟨m0, w0⟩, turn⟩ := turns L freshL
  generalize hS3 : ({ s2 with heap := s2.heap.push { cls := .type "list", data := .seq ([] : List Value).toArray } } : Shared) = s3
  have hp3 : s3.heap = s2.heap.push { cls := .type "list", data := .seq ([] : List Value).toArray } := by rw [← hS3]
  have I3 : Inv X pins σ (upd H1 L (.lst [])) s3 := by
    rw [← hS3]
    exact I2.laid (t' := s2.toks) (fun b o e => Heap.get?_push_of_some _ e) (Nat.le_of_eq hD) ⟨Nat.zero_le _, [], 0, .nil, by rw [← hD]; exact Heap.get?_push_size _ rfl⟩
  have neL : it ≠ L := by rw [← hD]; exact Nat.ne_of_lt itlt
  have f3 : FpOk X pins (upd H1 L (.lst [])) it := ⟨by rw [upd_ne neL]; exact itH1, f2.2⟩
  have st3 : s3.heap.IsListIter it a 0 := by
    obtain ⟨o, e, r⟩ := st2
    exact ⟨o, by rw [hp3]; exact Heap.get?_push_of_some _ e, r⟩
  have notIt : ea ∉ [it] := fun z => by
    have e : ea = it := by simpa using z
    obtain ⟨o, vs, C, e2, _⟩ := hh.get I1
    have := Heap.lt_size e2
    rw [e, ← hit] at this
    exact Nat.lt_irrefl _ this
  have I4 := block_start (fp := [it]) I3 ok hN fun b hb => by
    obtain rfl : b = it := by simpa using hb
    exact ⟨f3, by rw [hp3, Heap.size_push]; exact Nat.lt_succ_of_lt itlt⟩
  generalize hcl : cellsFrom (s3.heap.objs.size + 1) scope.names (cloFrom X.env.cells scope.names []) = cl at I4 ⊢
  show codeAny _ _ (.compStart (.ListComp elt [⟨tg, iter, ifs, 0⟩] scope pos) 0 (.ref it) (.ref L) (compEnvC scope cl s3.heap.objs.size X.env)) _ _
  have hotB := hh.blk I3 (scope := scope) (cenv := compEnvC scope cl s3.heap.objs.size X.env) notIt
  obtain ⟨pg, pt, pe⟩ := hb s3 (upd H1 L (.lst [])) s3.heap.objs.size cl [it] hotB
  generalize hce : compEnvC scope cl s3.heap.objs.size X.env = ce at I4 hotB pg pt pe ⊢
  have loc : ce.locals = s3.heap.objs.size := by rw [← hce]; rfl
  generalize hH3 : upd H1 L (.lst []) = H3 at I3 I4 hotB pg pt pe w0 f3
  generalize hS4 : ({ s3 with heap := pushCells (s3.heap.push { cls := .type "dict", data := .dict #[] }) scope.names } : Shared) = s4 at I4 ⊢
  have st4 : s4.heap.IsListIter it a 0 := by
    obtain ⟨o, e, r⟩ := st3
    exact ⟨o, by rw [← hS4]; exact pushCells_keeps _ _ _ _ (Heap.get?_push_of_some _ e), r⟩
  have fB : ∀ {τ : St} {H' : Hp} {s' : Shared}, Inv (X.blk s3 H3 scope ce [it]) [] τ H' s' → H' it = none → FpOk (X.blk s3 H3 scope ce [it]) [] H' it := fun {τ H' s'} J n =>
    ⟨n, (J.ok.exf it (List.mem_singleton.mpr rfl)).1, J.ok.exfs it (List.mem_singleton.mpr rfl), .inl (List.mem_singleton.mpr rfl), fun x c e => (J.ok.exf it (List.mem_singleton.mpr rfl)).2 x c e, fun p hp => absurd (show p ∈ ([] : List (Addr × Obj)) ++ [] from hp) (by simp)⟩
  refine codeAny_compStart_list ?loop (wpAny_pyIter_listiter st4 ?loop)
  refine compLoop_any (fun n s' => ∃ i H', Inv (X.blk s3 H3 scope ce [it]) [] (wipe σ (own.map (·.2))) H' s' ∧ s'.heap.IsListIter it a i ∧ H' it = none ∧ Wv i n H') ?turn m0 ⟨0, H3, I4, st4, f3.1, w0⟩
  rintro n s5 ⟨i, H5, I5, st5, n5, w5⟩
  have one : ∀ xs, SqL X.K H5 a xs → _ := fun xs hq => turnH (tg := tg) (E := fun _ _ => False) hotB I5 st5 (fB I5 n5) hq
  rcases turn i n H5 w5 with ⟨⟨xs, hq, hx⟩, qq⟩ | ⟨⟨xs, x, hq, hx⟩, Nx, hNx, step⟩
  · refine thnF (one xs hq) fun r s6 hr => ?_
    cases r with
    | some u =>
      obtain ⟨y, hy, _⟩ := hr
      have := (List.getElem?_eq_some_iff.mp hy).1
      omega
    | none =>
      obtain ⟨_, I6⟩ := hr
      have I7 : Inv X pins σ H5 s6 := I3.call' (ch := [it]) I6.os I6.base I6.hok I6.bare fun b hb => by
        obtain rfl : b = it := by simpa using hb
        exact ⟨f3.2.2.2.1, f3.2.1, f3.2.2.2.2.1, f3.2.2.2.2.2⟩
      have nC : H5 s3.heap.objs.size = none := by have z : H5 ce.locals = none := I6.free; rw [loc] at z; exact z
      obtain ⟨m, hn, _⟩ := I6.loc
      have hn : s6.heap.Ns s3.heap.objs.size m := by have z : s6.heap.Ns ce.locals m := hn; rw [loc] at z; exact z
      refine ⟨m, hn, fun h'' sb => ?_⟩
      obtain ⟨f0, f1, f2, f3', f4, f5⟩ := I3.fpOk (Nat.le_refl _) nC
      exact ⟨.ref L, H5, I7.turned (t' := s6.toks) (fun b o hb e => (sb.2 b hb).trans e) f0 f1 f3' f4 f5, rfl, qq⟩
  · refine thnF (one xs hq) fun r s6 hr => ?_
    cases r with
    | none => rw [hr.1] at hx; cases hx
    | some u =>
      obtain ⟨x', hx', ru, go⟩ := hr
      rw [hx] at hx'
      cases hx'
      refine thnF go fun _ s7 ⟨I7, st7⟩ => ?_
      have I7' := I7.pinned (fp := [it]) (fun b hb => List.mem_singleton.mp hb ▸ fB I7 n5) fun b hb => by
        obtain rfl : b = it := by simpa using hb
        obtain ⟨o, e, c, d⟩ := st7
        exact ⟨o, e, fun v z => by rw [d] at z; cases z⟩
      refine thnF (pg.run _ s7 _ H5 x u _ I7' ru (step x H5 ⟨rfl, fun ys hy => by rw [I5.list_inj hy hq]; exact hx⟩)) fun _ s8 ⟨σ8, H8, I8, hw8, q8⟩ => ?_
      refine thnF (pt.run _ s8 σ8 H8 _ I8 q8) fun b s9 ⟨H9, I9, q9⟩ => ?_
      have close : ∀ {s' : Shared} {H' : Hp}, Inv (X.blk s3 H3 scope ce [it]) ([] ++ pinsAt [it] s7.heap) σ8 H' s' → Nx H' → ∃ m, m < n ∧ ∃ i H', Inv (X.blk s3 H3 scope ce [it]) [] (wipe σ (own.map (·.2))) H' s' ∧ s'.heap.IsListIter it a i ∧ H' it = none ∧ Wv i m H' := fun {s' H'} J nx => by
        obtain ⟨m', hm, w'⟩ := hNx H' nx
        obtain ⟨o7, e7, r7⟩ := st7
        have z := J.pin (it, o7) (List.mem_append_right _ (List.mem_append_right _ (mem_pinsAt (List.mem_singleton.mpr rfl) e7)))
        refine ⟨m', hm, i + 1, H', (J.unpinned (pins := [])).weak (by rw [← hw8, wipe_length]) (fun j v e => ?_), ⟨o7, z.1, r7⟩, z.2.1, w'⟩
        rw [← hw8] at e
        exact (wipe_some e).1
      cases b with
      | false =>
        rw [if_neg Bool.false_ne_true] at q9 ⊢
        exact close I9 q9
      | true =>
        rw [if_pos rfl] at q9 ⊢
        refine thnF (pe.run _ s9 σ8 H9 _ I9 q9) fun z s10 ⟨yv, H10, I10, r10, acc, hD10, hz10, nx⟩ => ?_
        exact app_ok (X := X.blk s3 H3 scope ce [it]) I10 hD10 hz10 r10 fun s11 I11 => close I11 nx
end
end Pd
namespace Pd
open PySem PySem.Spec PyProof.Rows L2
section
variable {T : TB} {W : WX} {X : Cx} {ea : Addr} {en : Str}
theorem EG.tupH {es : List Expr} {us : List Nat} {h : GF (List D)} {k n : Nat} {pos : Pos} (hot : HotS ea en X) (hh : EGs T X es us h) (hn : (assignEach es X.env).length = n) (hst : (assignEach es X.env).findIdx? (·.1) = none) : EG T X (.Tuple es k pos) us (gTpT n h) := by
  obtain ⟨th, ph, qh⟩ := hh
  refine ⟨_, pg_tupH hot ph hn hst, fun w δ σ d v Q o s r post => ?_⟩
  cases d with
  | tup l =>
    obtain ⟨p, xs, e1, s1, rl⟩ := r.tupI
    have post' : PostG (rc T X) w us σ Q (if l.length = n then h l δ w.M else none) := post
    by_cases hl : l.length = n
    · rw [if_pos hl] at post'
      exact ⟨p, xs, e1, s1, by rw [rl.length]; exact hl, qh w δ σ l xs Q o s rl post'⟩
    · rw [if_neg hl] at post'
      exact post'.elim
  | _ => exact post.elim
/-- a list to be walked -/
def dLive (f : EF D) : EF Src := fun δ M => (f δ M).bind fun a M1 => match a with
  | .ref n => if (seqOf M1 n).isSome then .ok (.live n) M1 else .bad
  | _ => .bad
theorem EV.lcH {elt tg iter : Expr} {ifs : List Expr} {scope : Scope} {own : List (Str × Nat)} {pos : Pos} {f : EF D} {vs : List Nat} {g : GF D} {tt : EF Bool} {te : EF D}
    (hot : HotS ea en X) (hN : X.N.Nodup) (hi : EV T W X iter f) (ok : BlkOk X.N X.env.scope scope own) (hv : ∀ i ∈ vs, i ∈ own.map (·.2))
    (hb : ∀ (s : Shared) (H : Hp) (C : Addr) (cl : List (Str × Addr)) (fp : List Addr), HotS ea en (X.blk s H scope (compEnvC scope cl C X.env) fp) →
      EG T (X.blk s H scope (compEnvC scope cl C X.env) fp) tg vs g ∧ ETs T WF (X.blk s H scope (compEnvC scope cl C X.env) fp) ifs tt ∧ EV T WF (X.blk s H scope (compEnvC scope cl C X.env) fp) elt te)
    (hs : ∀ x, foldedSetIterable iter X.env x = pure x) : EV T W X (.ListComp elt [⟨tg, iter, ifs, 0⟩] scope pos) (dLc (own.map (·.2)) (dLive f) g tt te) := by
  obtain ⟨ti, pi, qi⟩ := hi
  refine ⟨_, lc_hot (Q := fun _ _ => True) (g := tGc (rc T X) vs g) (tt := tE (rc T X) WF relB tt) (te := tE (rc T X) WF (RelD (rc T X)) te) hot hN pi ok (fun s H C cl fp h => ?_) hs, fun w δ σ Q o s h => comp_core hv (fun w δ σ Q o s h => ?_) o s h⟩
  · obtain ⟨b1, b2, b3⟩ := hb s H C cl fp h
    exact ⟨b1.pg, b2, b3.pe⟩
  · refine qi w δ σ _ o s (h.bind fun a w1 v l1 o1 r1 h1 => ?_)
    cases a with
    | ref n =>
      have h1 : Post (rc T X) W w1 σ (fun w' s J => SrcJ (rc T X) w' s J) Q (if (seqOf w1.M n).isSome then .ok (.live n) w1.M else .bad) := h1
      split at h1
      · rename_i hs
        obtain ⟨hn, ev⟩ := r1.ref
        obtain ⟨l, hl⟩ := Option.isSome_iff_exists.mp hs
        obtain ⟨_, xs, s1, _, _⟩ := o1.seq hl
        exact ⟨_, ev, ⟨xs, s1⟩, h1 w1 _ rfl (.refl _) o1 (src_live hn)⟩
      · exact h1.elim
    | _ => exact h1.elim
/-! ### isinstance of the handled exception -/
def oIsiX (ea : Addr) (en : Str) (isx : Str → Str → Option Bool) (l : List D) (M : Mem) : OV := match l with
  | [.exn a x, .gl y] => if a = ea ∧ x = en then (isx x y).map fun b => (.bl b, M) else none
  | l => oIsi l M
def rIsX (ea : Addr) (en : Str) (X : Cx) : List V → Hp → VK → Prop := fun xs H Q => ∃ (C D : Addr) (b : Bool), xs = [.ref ea, .ref D] ∧ X.mg en = some (.ref C) ∧ PySem.W.kitOne X.K (.ref C) (.ref D) = some b ∧ Q (.bl b) H
theorem call_isX (hot : HotS ea en X) : CallR X (.builtin "isinstance") (rIsX ea en X) := by
  intro pins s σ H xs us Q I r ⟨C, D, b, e0, hC, hk, q⟩
  subst e0
  obtain ⟨u1, u2, rfl, r1, r2⟩ := vals2 r
  obtain rfl : u1 = Value.ref ea := r1
  obtain rfl : u2 = Value.ref D := r2
  obtain ⟨o, vs, C', g1, g2, g3, g4, g5, g6, x⟩ := hot.get I
  rw [hC] at g4
  cases g4
  have J : PySem.W.InstAt s.heap ea o C none := by
    obtain ⟨oc, od, oda, osl⟩ := o
    dsimp only at g2 g5 g6
    subst g2 g5 g6
    exact ⟨g1, rfl, rfl, trivial⟩
  exact PySem.W.kia_one (PySem.W.handS_kitx_exc x.hg x.hk x.hs x.hd x.ha x.hn x.ht x.hm) I.kIn J hk (fun z => nomatch z) fun tk => ⟨.bl b, H, I.kept (t' := tk) fun _ _ z => z, rfl, q⟩
theorem bl_isX {isx : Str → Str → Option Bool} (hx : ∀ x y b C D, isx x y = some b → X.mg x = some (.ref C) → X.mg y = some (.ref D) → PySem.W.kitOne X.K (.ref C) (.ref D) = some b) (hg : ∃ C, X.mg en = some (.ref C))
    (hgl : ∀ x y b, isx x y = some b → ∃ D, X.mg y = some (.ref D)) : BlOk T X (oIsiX ea en isx) (fun xs H Q => rIsi X.K xs H Q ∨ rIsX ea en X xs H Q) := fun w l xs Q o r h => by
  unfold oIsiX at h
  split at h
  · rename_i a x y
    by_cases hax : a = ea ∧ x = en
    · rw [if_pos hax] at h
      obtain ⟨rfl, rfl⟩ := hax
      cases c : isx x y with
      | none => rw [c] at h; exact h.elim
      | some b =>
        rw [c] at h
        refine .inr ?_
        obtain ⟨C, hC⟩ := hg
        obtain ⟨D, hD⟩ := hgl x y b c
        obtain ⟨v1, v2, e, r1, r2⟩ := RelL.two r
        unfold RelD at r1 r2
        obtain ⟨u, hu, ru⟩ := r2
        have hu : X.mg y = some u := hu
        rw [hD] at hu
        cases hu
        have ev : v2 = .ref D := by
          cases v2 with
          | ref b => exact congrArg V.ref (Value.ref.inj ru).symm
          | _ => first | (obtain ⟨t, z⟩ := ru; cases z; done) | cases ru
        subst ev
        exact ⟨C, D, b, by rw [e, r1], hC, hx x y b C D c hC hD, PostV.val h o .mkBl⟩
    · rw [if_neg hax] at h
      exact h.elim
  · exact .inl (bl_isi w _ xs Q o r h)
/-! ### sep.join -/
def strsD : List D → Option (List Str)
  | [] => some []
  | .str s :: l => (strsD l).map (s :: ·)
  | _ => none
theorem strsD_ok {R : RC} {w : Wd} : ∀ {l : List D} {ys : List Str} {xs : List V}, strsD l = some ys → RelL R w l xs → xs = ys.map V.str
  | [], ys, xs, h, r => by
    unfold strsD at h
    cases h
    unfold RelL at r
    exact r
  | d :: l, ys, xs, h, r => by
    unfold RelL at r
    obtain ⟨x, q, e, h1, h2⟩ := r
    cases d with
    | str s =>
      unfold strsD at h
      cases c : strsD l with
      | none => rw [c] at h; cases h
      | some zs =>
        rw [c] at h
        cases h
        unfold RelD at h1
        rw [e, h1, strsD_ok c h2]
        rfl
    | _ => unfold strsD at h; cases h
def oJoin (a : D) (l : List D) (M : Mem) : OV := match a, l with
  | .str s, [d] => match (match d with
      | .tup m => some m
      | .ref n => seqOf M n
      | _ => none) with
    | some m => match strsD m with
      | some ys => if (ys.map (·.length)).sum + ys.length * s.length ≤ 16777216 then some (.str (Txt.join s ys), M) else none
      | none => none
    | none => none
  | _, _ => none
theorem mk_join : MtOk T X oJoin (fun x xs H Q => ∃ a p, ∃ ys : List Str, x = .str a ∧ xs = [.ref p] ∧ (SqL X.K H p (ys.map V.str) ∨ SqT X.K H p (ys.map V.str)) ∧
    (ys.map (·.length)).sum + ys.length * a.length ≤ 16777216 ∧ Q (.str (Txt.join a ys)) H) := fun w a l x xs Q o ra rl h => by
  unfold oJoin at h
  split at h
  · rename_i s d
    obtain ⟨y, e, ry⟩ := rl.one
    unfold RelD at ra
    split at h
    · rename_i m hm
      split at h
      · rename_i ys hys
        split at h
        · rename_i hz
          have q : Q (.str (Txt.join s ys)) w.H := PostV.val h o (by unfold RelD; rfl)
          cases d with
          | tup k =>
            cases hm
            obtain ⟨p, zs, e1, s1, r1⟩ := ry.tupI
            subst e1
            rw [strsD_ok hys r1] at s1
            exact ⟨s, p, ys, ra, e, .inr s1, hz, q⟩
          | ref n =>
            obtain ⟨_, e1⟩ := ry.ref
            obtain ⟨_, zs, s1, r1, _⟩ := o.seq (show seqOf w.M n = some m from hm)
            rw [strsD_ok hys r1] at s1
            exact ⟨s, w.ρ n, ys, ra, by rw [e, e1], .inl s1, hz, q⟩
          | _ => cases hm
        · exact h.elim
      · exact h.elim
    · exact h.elim
  · exact h.elim
end
end Pd
namespace Pd
open PySem PySem.Spec PyProof.Rows L2
/-! ### x[::-1] of a tuple, of a list -/
section
variable {prog : Program} {w : World} {A : Around} {E : Value → Shared → Prop} {s : Shared}
theorem rv_adjust (n : Nat) : Builtin.Slice.sliceAdjust none none (-1) (n : Int) = ((n : Int) - 1, -1) := by
  unfold Builtin.Slice.sliceAdjust
  simp
theorem rv_places (n : Nat) : Builtin.Slice.slicePlaces ((n : Int) - 1) (-1) (-1) = n := by
  unfold Builtin.Slice.slicePlaces
  have h1 : ¬ ((-1 : Int) > 0) := by decide
  simp only [h1, if_false]
  split
  · rw [show (- -1 : Int) = 1 by decide, Int.ediv_one]
    omega
  · omega
theorem rv_applied {sl : Addr} {vs : Value} {n : Nat} {Q : Int × Int × Nat → Shared → Prop} (hs : s.heap.IsSliceOf sl .none .none vs) (ps : IsPart vs (some (-1))) (h : Q ((n : Int) - 1, -1, n) s) :
    wpAny (model prog w) A (Builtin.Slice.sliceApplied (.ref sl) (pure (n : Int))) Q E s := by
  obtain ⟨os, hos, hcs, hds⟩ := id hs
  unfold Builtin.Slice.sliceApplied Builtin.Slice.sliceFields
  refine wpAny_bind (wpAny_bind (wpAny_field hos hds (x := .none) rfl (wpAny_bind (wpAny_field hos hds (x := .none) rfl (wpAny_bind (wpAny_field hos hds (x := vs) rfl (wpAny_pure ?_)))))))
  refine wpAny_bind (HT.slicePart_ ps ?_)
  show wpAny _ _ (if ((-1 : Int) == 0) = true then _ else _) _ _ s
  rw [if_neg (by decide)]
  refine wpAny_bind (HT.slicePart_ .none (wpAny_bind (HT.slicePart_ .none (wpAny_bind (wpAny_pure ?_)))))
  show wpAny _ _ (match Builtin.Slice.sliceAdjust none none (-1) (n : Int) with | (lo, hi) => pure (lo, (-1 : Int), Builtin.Slice.slicePlaces lo hi (-1))) _ _ s
  rw [rv_adjust]
  show wpAny _ _ (pure ((n : Int) - 1, (-1 : Int), Builtin.Slice.slicePlaces ((n : Int) - 1) (-1) (-1))) _ _ s
  rw [rv_places]
  exact wpAny_pure h
theorem rv_pick (xs : Array Value) : ((List.range xs.size).filterMap fun (m : Nat) => xs[((xs.size : Int) - 1 + (m : Int) * -1).toNat]?).toArray = xs.toList.reverse.toArray := by
  congr 1
  have e : ∀ l : List Nat, (∀ m ∈ l, m < xs.size) → (l.filterMap fun (m : Nat) => xs[((xs.size : Int) - 1 + (m : Int) * -1).toNat]?) = (l.map fun k => xs.size - 1 - k).filterMap fun m => xs[m]? := fun l => by
    induction l with
    | nil => intro _; rfl
    | cons m l ih =>
      intro hm
      have h := hm m List.mem_cons_self
      have e1 : ((xs.size : Int) - 1 + (m : Int) * -1).toNat = xs.size - 1 - m := by omega
      rw [List.filterMap_cons, List.map_cons, List.filterMap_cons, e1, ih fun z hz => hm z (List.mem_cons_of_mem _ hz)]
  rw [e _ fun m hm => List.mem_range.mp hm, PySem.W.krv_range, List.filterMap_reverse, PySem.W.krv_all]
theorem rv_tuple {t sl : Addr} {items : Array Value} {vs : Value} {Q : Value → Shared → Prop} (ht : IsTup s.heap t items) (hs : s.heap.IsSliceOf sl .none .none vs) (ps : IsPart vs (some (-1)))
    (h : Q (.ref s.heap.objs.size) { s with heap := s.heap.push { cls := .type "tuple", data := .seq items.toList.reverse.toArray } }) (hsz : items.size ≤ sizeLine) : wpAny (model prog w) A (getItem (.ref t) (.ref sl)) Q E s := by
  have htake : sizeOk (.seq items.toList.reverse.toArray) := by
    show items.toList.reverse.toArray.size ≤ sizeLine
    rw [List.size_toArray, List.length_reverse, Array.length_toList]
    exact hsz
  obtain ⟨os, hos, hcs, hds⟩ := id hs
  have hTs : s.TypeIs (.ref sl) "slice" := ⟨os, hos, hcs⟩
  unfold getItem
  try with_reducible refine wpAny_holding ?_
  first | refine wpAny_bind (wpAny_pure ?_) | skip
  refine wpAny_bind (wpAny_sequenceKey ht.typeIs (by decide) ?_)
  refine wpAny_bind (wpAny_callSpecial?_slot (name := Str.ofString "__getitem__") ht.typeIs PyProof.Rows.slot_tuple_getitem (wpAny_call_entry PyProof.Rows.slot_tuple_getitem ht.typeIs PyProof.Rows.entry_tuple_getitem ?_ (PyProof.Rows.args_tuple_getitem _ _)))
  show wpAny _ _ (Builtin.Tuple.tupleItemsOf (.ref t) >>= _) _ _ s
  refine wpAny_bind (tupleItemsOf_ ht ?_)
  refine wpAny_bind (wpAny_typeOf hTs ?_)
  rw [if_pos (by decide)]
  refine wpAny_bind (rv_applied hs ps ?_)
  have hno : ¬ (((items.size : Int) - 1 == 0 && (-1 : Int) == 1 && items.size == items.size) = true) := by
    intro q
    rw [Bool.and_eq_true, Bool.and_eq_true] at q
    exact absurd q.1.2 (by decide)
  show wpAny _ _ (if ((items.size : Int) - 1 == 0 && (-1 : Int) == 1 && items.size == items.size) = true then _ else _) _ _ s
  rw [if_neg hno, rv_pick]
  first
    | exact wpAny_bind (m := Builtin.Tuple.tupleExact _) (wpAny_newObj_type (wpAny_pure ⟨_, rfl, wpAny_pure h⟩) htake)
    | exact wpAny_bind (m := Builtin.Tuple.tupleExact _) (wpAny_newObj_type (wpAny_bind (wpAny_pure (wpAny_pure ⟨_, rfl, wpAny_pure h⟩))) htake)
    | exact wpAny_bind (wpAny_bind (m := Builtin.Tuple.tupleExact _) (wpAny_newObj_type (wpAny_pure (wpAny_pure ⟨_, rfl, wpAny_pure h⟩)) htake))
    | exact wpAny_bind (wpAny_bind (m := Builtin.Tuple.tupleExact _) (wpAny_newObj_type (wpAny_pure ⟨_, rfl, wpAny_pure h⟩) htake))
end
theorem vals_reverse : ∀ {xs : List V} {its : List Value}, Vals xs its → Vals xs.reverse its.reverse
  | _, _, .nil => .nil
  | _, _, .cons r rr => by
    rw [List.reverse_cons, List.reverse_cons]
    exact (vals_reverse rr).append (.cons r .nil)
def rRev (K : PySem.W.Frag) : V → Hp → VK → Prop := fun x H Q => ∃ a xs, x = .ref a ∧ ((SqT K H a xs ∧ ∀ p, H p = none → Q (.ref p) (upd H p (.tup xs.reverse))) ∨ (SqL K H a xs ∧ ∀ p, H p = none → Q (.ref p) (upd H p (.lst xs.reverse))))
def tRev (K : PySem.W.Frag) (te ts : TE) : TE := fun σ H Q => te σ H fun x H1 => tPart ts σ H1 fun o H2 => o = some (-1) ∧ rRev K x H2 Q
theorem pe_rev {X : Cx} {e st : Expr} {te ts : TE} {pos p2 : Pos} (he : PE X e te) (hst : PE X st ts) : PE X (.Subscript e (.Slice none none (some st) p2) pos) (tRev X.K te ts) := by
  refine ⟨fun pins s σ H Q I h => ?_⟩
  refine Subscript_ (thn (he.run pins s σ H _ I h) fun v s1 ⟨x, H1, I1, r1, q1⟩ => ?_)
  refine wpAny_Slice ?_
  rw [evalPart_none]
  refine wpAny_pure (wpAny_pure ?_)
  refine thn ((po_some hst).run pins s1 σ H1 _ I1 q1) fun vs s3 ⟨o, H3, I3, ps, eo, a, xs, ex, q3⟩ => ?_
  subst eo ex
  cases r1
  have I4 : Inv X pins σ H3 { s3 with heap := s3.heap.push { cls := .type "slice", data := .fields #[.none, .none, vs] } } := I3.kept (t' := s3.toks) fun b ob q => Heap.get?_push_of_some _ q
  have hsl : Heap.IsSliceOf (s3.heap.push { cls := .type "slice", data := .fields #[.none, .none, vs] }) s3.heap.objs.size .none .none vs := Heap.IsSliceOf.new ..
  have fin : ∃ T id, typeLookup (.type T) "__getitem__" = pure (some (.builtin id)) ∧ Shared.TypeIs { s3 with heap := s3.heap.push { cls := .type "slice", data := .fields #[.none, .none, vs] } } (.ref a) T ∧
      wpAny (model X.prog X.w) X.A (getItem (.ref a) (.ref s3.heap.objs.size)) (L2.EP X pins σ Q) X.xe { s3 with heap := s3.heap.push { cls := .type "slice", data := .fields #[.none, .none, vs] } } := by
    rcases q3 with ⟨hx, q⟩ | ⟨hx, q⟩
    · obtain ⟨its, r, ht, hz⟩ := I4.tuple hx
      have hlen := r.length
      refine ⟨"tuple", _, PyProof.Rows.slot_tuple_getitem.lookup, ht.typeIs, ?_⟩
      refine rv_tuple ht hsl ps ?_ (by rw [List.size_toArray]; omega)
      refine ⟨.ref _, _, I4.laid (t' := s3.toks) (o := .tup xs.reverse) (fun b ob q => Heap.get?_push_of_some _ q) (Nat.le_refl _) ?_, rfl, q _ (I4.hok.fresh (Nat.le_refl _))⟩
      exact ⟨by rw [List.length_reverse]; exact hz, _, vals_reverse r, IsTup.new _ _⟩
    · obtain ⟨its, r, ht, hz⟩ := I4.list hx
      have hlen := r.length
      refine ⟨"list", _, slot_list_getitem.lookup, ht.isList.typeIs, ?_⟩
      refine wpAny_getItem_list_slice ht.isList hsl .none .none ps (by simp) ?_ (by rw [List.size_toArray]; omega)
      rw [PySem.W.krv_pick]
      refine ⟨.ref _, _, I4.laid (t' := s3.toks) (o := .lst xs.reverse) (fun b ob q => Heap.get?_push_of_some _ q) (Nat.le_refl _) ?_, rfl, q _ (I4.hok.fresh (Nat.le_refl _))⟩
      exact ⟨by rw [List.length_reverse]; exact hz, _, 0, vals_reverse r, Heap.get?_push_size _ rfl⟩
  obtain ⟨T, id, hT, ht, hg⟩ := fin
  show wpAny (model X.prog X.w) X.A (subscriptTail e (.Slice none none (some st) p2) (.ref a) (.ref s3.heap.objs.size)) (L2.EP X pins σ Q) X.xe { s3 with heap := s3.heap.push { cls := .type "slice", data := .fields #[.none, .none, vs] } }
  exact tail_any (ops := [.ref a, .ref s3.heap.objs.size]) ht hT hg (by with_unfolding_all rfl)
/-- x[::-1] -/
def oRv (a b : D) (M : Mem) : OV := match b with
  | .int i => if i = -1 then (match a with
    | .tup l => some (.tup l.reverse, M)
    | .ref n => (seqOf M n).map fun l => (.ref M.length, M ++ [.lst l.reverse])
    | _ => none) else none
  | _ => none
theorem EV.rev {T : TB} {W : WX} {X : Cx} {e st : Expr} {f g : EF D} {pos p2 : Pos} (ha : EV T W X e f) (hb : EV T W X st g) : EV T W X (.Subscript e (.Slice none none (some st) p2) pos) (dBin oRv f g) := by
  obtain ⟨ta, pa, qa⟩ := ha
  obtain ⟨tb, pb, qb⟩ := hb
  refine ⟨_, pe_rev pa pb, fun w δ σ Q o s h => ?_⟩
  refine qa w δ σ _ o s (h.bind fun d1 w1 v1 l1 o1 r1 h1 => ?_)
  refine qb w1 δ σ _ o1 (s.mono l1) (h1.bind fun d2 w2 v2 l2 o2 r2 h2 => ?_)
  have rd := RelD.mono l2 _ _ r1
  have h4 : PostV (rc T X) w2 Q (oRv d1 d2 w2.M) := post_ofV h2
  cases d2 with
  | int i =>
    unfold RelD at r2
    subst r2
    unfold oRv at h4
    dsimp only at h4
    split at h4
    · rename_i hi
      subst hi
      refine ⟨-1, rfl, rfl, ?_⟩
      cases d1 with
      | tup l =>
        obtain ⟨p, xs, e1, s1, rl⟩ := rd.tupI
        exact ⟨p, xs, e1, .inl ⟨s1, PostV.tup h4 o2 rl.rev⟩⟩
      | ref n =>
        obtain ⟨_, e1⟩ := rd.ref
        have h5 : PostV (rc T X) w2 Q ((seqOf w2.M n).map fun l => (.ref w2.M.length, w2.M ++ [.lst l.reverse])) := h4
        cases c : seqOf w2.M n with
        | none => rw [c] at h5; exact h5.elim
        | some l =>
          rw [c] at h5
          obtain ⟨_, xs, s1, rl, _⟩ := o2.seq c
          exact ⟨_, xs, e1, .inr ⟨s1, PostV.lst h5 o2 rl.rev⟩⟩
      | _ => exact h4.elim
    · exact h4.elim
  | _ => exact h4.elim
end Pd
namespace Pd
open PySem PySem.Spec PyProof.Rows L2
/-! ### looks at the syntax -/
def nst : Expr → Bool
  | .Starred .. => false
  | _ => true
theorem nst_cons {e : Expr} {es : List Expr} {env : Env} (h : nst e = true) : starEach (e :: es) env = (false, eval e env) :: starEach es env := by
  cases e <;> first | rfl | cases h
theorem nst_any {pos : Pos} {env : Env} : ∀ {es : List Expr}, es.all nst = true → (backTo pos (starEach es env)).any (·.1) = false
  | [], _ => rfl
  | e :: es, h => by
    rw [List.all_cons, Bool.and_eq_true] at h
    rw [nst_cons h.1]
    show (false || (backTo pos (starEach es env)).any (·.1)) = false
    rw [Bool.false_or]
    exact nst_any h.2
theorem nst_len {env : Env} : ∀ {es : List Expr}, (starEach es env).length = es.length
  | [] => rfl
  | e :: es => by
    have ih := nst_len (env := env) (es := es)
    cases e <;> (show (starEach es env).length + 1 = es.length + 1; rw [ih])
theorem nst_few {cpos : Pos} {env : Env} {e : Expr} {es : List Expr} (h : (e :: es).all nst = true) (hl : es.length < 20) : ((backTo cpos (starEach (e :: es) env)).all (fun x => !x.1) && (backToKw cpos (keywordEach [] env)).all (fun x => x.1.isSome)
      && decide ((e :: es).length + ([] : List Keyword).length + (if ([] : List Keyword).isEmpty then 0 else 1) < 30)) = true := by
  have a : (backTo cpos (starEach (e :: es) env)).all (fun x => !x.1) = true := by
    have := nst_any (pos := cpos) (env := env) h
    rw [List.all_eq_true]
    intro x hx
    rw [List.any_eq_false] at this
    have := this x hx
    cases q : x.1
    · rfl
    · exact absurd q this
  have b : decide ((e :: es).length + ([] : List Keyword).length + (if ([] : List Keyword).isEmpty then 0 else 1) < 30) = true := by
    apply decide_eq_true
    show es.length + 1 + 0 + 0 < 30
    omega
  rw [a, b]
  rfl
def plainT : Expr → Bool
  | .UnaryOp .Not _ _ => false
  | .BoolOp .. => false
  | .IfExp .. => false
  | .Compare .. => false
  | _ => true
theorem plainT_ok {e : Expr} {env : Env} (h : plainT e = true) : ∀ whole, isTrue e env whole = (do let v ← whole; standAt e.pos; holding [v] (truthy v)) := by
  intro whole
  cases e <;> first | rfl | cases h | skip
  rename_i op a pos
  cases op <;> first | rfl | cases h
def plainX : Expr → Bool
  | .Slice .. => false
  | _ => true
theorem plainX_ok {e : Expr} (h : plainX e = true) : PlainIx e := by
  intro o i
  cases e <;> first | rfl | cases h
def plainB : Expr → Bool
  | .Call _ [] [] _ => false
  | _ => true
theorem plainB_ok {e : Expr} {a : Str} {env : Env} {w : Sem Value} (h : plainB e = true) : attributeBase e a env w = w := by
  cases e <;> first | rfl | skip
  rename_i f args kws pos
  cases args with
  | cons b l => cases f <;> rfl
  | nil =>
    cases kws with
    | nil => cases h
    | cons b l => cases f <;> rfl
def notSet : Expr → Bool
  | .Set .. => false
  | _ => true
theorem notSet_ok {e : Expr} {env : Env} (h : notSet e = true) : ∀ x, foldedSetIterable e env x = pure x := by
  intro x
  cases e <;> first | rfl | cases h
theorem nomark_ok {e : Expr} {op : CmpOp} (h : notSet e = true) : behindInMarks op e = false := by
  cases e <;> first | rfl | cases h
def notComp : Expr → Bool
  | .ListComp .. => false
  | .SetComp .. => false
  | .DictComp .. => false
  | _ => true
theorem notComp_ok {e : Expr} {t : Option Expr} {l : Nat} {env : Env} (h : notComp e = true) : swapsWith e t l env = pure false := by
  cases e <;> first | rfl | cases h
def notTup : Expr → Bool
  | .Tuple .. => false
  | .List .. => false
  | _ => true
theorem noswap_t {tg e : Expr} {env : Env} (h : notTup tg = true) : swappedStores [tg] e env = pure none := by
  cases tg <;> first | rfl | cases h
theorem noswap_v {tg e : Expr} {env : Env} (h : notTup e = true) : swappedStores [tg] e env = pure none := by
  cases e <;> first | (cases tg <;> rfl) | cases h
theorem asg_one {tg : Expr} {env : Env} (h : nst tg = true) : (assignEach [tg] env).map (·.2) = [assign tg env] := by
  cases tg <;> first | rfl | cases h
theorem asg_cons {tg : Expr} {es : List Expr} {env : Env} (h : nst tg = true) : (assignEach (tg :: es) env).map (·.2) = assign tg env :: (assignEach es env).map (·.2) := by
  cases tg <;> first | rfl | cases h
theorem asg_len {env : Env} : ∀ {es : List Expr}, (assignEach es env).length = es.length
  | [] => rfl
  | e :: es => by
    have ih := asg_len (env := env) (es := es)
    cases e <;> (show (assignEach es env).length + 1 = es.length + 1; rw [ih])
theorem asg_star {env : Env} : ∀ {es : List Expr}, es.all nst = true → (assignEach es env).findIdx? (·.1) = none
  | [], _ => rfl
  | e :: es, h => by
    rw [List.all_cons, Bool.and_eq_true] at h
    have ih := asg_star (env := env) h.2
    have e1 : ∃ f, assignEach (e :: es) env = (false, f) :: assignEach es env := by
      cases e <;> first | exact ⟨_, rfl⟩ | cases h.1
    obtain ⟨f, e1⟩ := e1
    rw [e1, List.findIdx?_cons, ih]
    rfl
/-- the names that swapped stores would take -/
def swNames (sc : Scope) (ts : List Expr) : List Str := ts.filterMap fun
  | .Name id pos => if sc.names.lookup id == some .local && pos.line == (ts.head?.map (·.pos.line)).getD 0 then some id else none
  | _ => none
def isSt (e : Expr) : Bool := match e with
  | .Starred .. => true
  | _ => false
theorem isSt_nst (e : Expr) : isSt e = !nst e := by cases e <;> rfl
theorem sw_form {ts vs : List Expr} {k k2 p p2} {env : Env} : swappedStores [.Tuple ts k p] (.Tuple vs k2 p2) env =
    (if (!(ts.length == 2 || ts.length == 3) || vs.length != ts.length || env.blockKind != .function) = true then pure none else
     if vs.any isSt = true then pure none else
     if ((swNames env.scope ts).length != ts.length || (swNames env.scope ts).eraseDups.length != (swNames env.scope ts).length) = true then pure none else
     if vs.all (foldedForSure 8) = true then pure none else
     if vs.all (constantsAlone 8) = true then (do
       let r ← unsupported "assign.tuple-of-constant-expressions:order-of-the-stores"
       (fun (_ : PUnit) => pure (some (swNames env.scope ts))) r) else pure (some (swNames env.scope ts))) := by rfl
def swNone (sc : Scope) (ts vs : List Expr) : Bool := !(ts.length == 2 || ts.length == 3) || vs.length != ts.length || (swNames sc ts).length != ts.length || vs.all (foldedForSure 8)
theorem swNone_ok {ts vs : List Expr} {k k2 p p2} {env : Env} (h : swNone env.scope ts vs = true) : swappedStores [.Tuple ts k p] (.Tuple vs k2 p2) env = pure none := by
  rw [sw_form]
  unfold swNone at h
  split
  · rfl
  · rename_i c1
    split
    · rfl
    · split
      · rfl
      · rename_i c3
        have c4 : vs.all (foldedForSure 8) = true := by
          simp only [Bool.or_eq_true, not_or] at c1 c3 h
          rcases h with ((h | h) | h) | h
          · exact absurd h c1.1.1
          · exact absurd h c1.1.2
          · exact absurd h c3.1
          · exact h
        rw [if_pos c4]
def swPair (sc : Scope) (x y : Str) (px py : Pos) (a b : Expr) : Bool := decide (sc.kind = .function) && decide (sc.names.lookup x = some .local) && decide (sc.names.lookup y = some .local) && (px.line == py.line) && decide (x ≠ y) && nst a && nst b && !([a, b].all (foldedForSure 8)) && !([a, b].all (constantsAlone 8))
theorem swPair_ok {x y : Str} {px py : Pos} {a b : Expr} {k k2 p p2} {env : Env} (h : swPair env.scope x y px py a b = true) : swappedStores [.Tuple [.Name x px, .Name y py] k p] (.Tuple [a, b] k2 p2) env = pure (some [x, y]) := by
  unfold swPair at h
  simp only [Bool.and_eq_true, decide_eq_true_eq, Bool.not_eq_true'] at h
  obtain ⟨⟨⟨⟨⟨⟨⟨⟨h0, h1⟩, h2⟩, h3⟩, h4⟩, h5⟩, h6⟩, h7⟩, h8⟩ := h
  have hbk : env.blockKind = .function := by
    unfold Env.blockKind
    rw [h0]
    rfl
  have k1 : (env.scope.names.lookup x == some .local) = true := beq_iff_eq.mpr h1
  have k2' : (env.scope.names.lookup y == some .local) = true := beq_iff_eq.mpr h2
  have l2 : (py.line == px.line) = true := by
    rw [beq_iff_eq] at h3 ⊢
    exact h3.symm
  have e : swNames env.scope [Expr.Name x px, Expr.Name y py] = [x, y] := by
    simp only [swNames, List.filterMap_cons, List.filterMap_nil, k1, k2', List.head?_cons, Option.map_some, Option.getD_some, Expr.pos, beq_self_eq_true, Bool.and_self, if_true, l2]
  have ed : ([x, y] : List Str).eraseDups = [x, y] := by
    have : (y == x) = false := beq_eq_false_iff_ne.mpr (Ne.symm h4)
    simp [List.eraseDups, List.eraseDupsBy, List.eraseDupsBy.loop, this]
  have st : [a, b].any isSt = false := by
    simp only [List.any_cons, List.any_nil, isSt_nst, h5, h6]
    rfl
  rw [sw_form, if_neg (by rw [hbk]; simp), if_neg (by rw [st]; exact Bool.false_ne_true), e, if_neg (by rw [ed]; simp), if_neg (by rw [h7]; exact Bool.false_ne_true), if_neg (by rw [h8]; exact Bool.false_ne_true)]
def swTrip (sc : Scope) (x y z : Str) (px py pz : Pos) (a b d : Expr) : Bool := decide (sc.kind = .function) && decide (sc.names.lookup x = some .local) && decide (sc.names.lookup y = some .local) && decide (sc.names.lookup z = some .local) && (px.line == py.line) && (px.line == pz.line) && decide (x ≠ y) && decide (x ≠ z) && decide (y ≠ z) && nst a && nst b && nst d && !([a, b, d].all (foldedForSure 8)) && !([a, b, d].all (constantsAlone 8))
theorem swTrip_ok {x y z : Str} {px py pz : Pos} {a b d : Expr} {k k2 p p2} {env : Env} (h : swTrip env.scope x y z px py pz a b d = true) : swappedStores [.Tuple [.Name x px, .Name y py, .Name z pz] k p] (.Tuple [a, b, d] k2 p2) env = pure (some [x, y, z]) := by
  unfold swTrip at h
  simp only [Bool.and_eq_true, decide_eq_true_eq, Bool.not_eq_true'] at h
  obtain ⟨⟨⟨⟨⟨⟨⟨⟨⟨⟨⟨⟨⟨h0, h1⟩, h2⟩, h2z⟩, h3⟩, h3z⟩, h4⟩, h4z⟩, h4y⟩, h5⟩, h6⟩, h6z⟩, h7⟩, h8⟩ := h
  have hbk : env.blockKind = .function := by
    unfold Env.blockKind
    rw [h0]
    rfl
  have k1 : (env.scope.names.lookup x == some .local) = true := beq_iff_eq.mpr h1
  have k2' : (env.scope.names.lookup y == some .local) = true := beq_iff_eq.mpr h2
  have k3' : (env.scope.names.lookup z == some .local) = true := beq_iff_eq.mpr h2z
  have l2 : (py.line == px.line) = true := by
    rw [beq_iff_eq] at h3 ⊢
    exact h3.symm
  have l3 : (pz.line == px.line) = true := by
    rw [beq_iff_eq] at h3z ⊢
    exact h3z.symm
  have e : swNames env.scope [Expr.Name x px, Expr.Name y py, Expr.Name z pz] = [x, y, z] := by
    simp only [swNames, List.filterMap_cons, List.filterMap_nil, k1, k2', k3', List.head?_cons, Option.map_some, Option.getD_some, Expr.pos, beq_self_eq_true, Bool.and_self, if_true, l2, l3]
  have ed : ([x, y, z] : List Str).eraseDups = [x, y, z] := by
    have a1 : (y == x) = false := beq_eq_false_iff_ne.mpr (Ne.symm h4)
    have a2 : (z == x) = false := beq_eq_false_iff_ne.mpr (Ne.symm h4z)
    have a3 : (z == y) = false := beq_eq_false_iff_ne.mpr (Ne.symm h4y)
    simp [List.eraseDups, List.eraseDupsBy, List.eraseDupsBy.loop, a1, a2, a3]
  have st : [a, b, d].any isSt = false := by
    simp only [List.any_cons, List.any_nil, isSt_nst, h5, h6, h6z]
    rfl
  rw [sw_form, if_neg (by rw [hbk]; simp), if_neg (by rw [st]; exact Bool.false_ne_true), e, if_neg (by rw [ed]; simp), if_neg (by rw [h7]; exact Bool.false_ne_true), if_neg (by rw [h8]; exact Bool.false_ne_true)]
theorem aug_sub {i : Expr} (h : plainX i = true) : ∀ ov iv new, augStore i ov iv new = (do holding [new, ov, iv] (setItem ov iv new); release [new, ov, iv] []; pure .next) := by
  intro ov iv new
  cases i <;> first | rfl | cases h
theorem asg_sub {o i : Expr} {pos : Pos} {env : Env} (h : plainX i = true) : ∀ v, assign (.Subscript o i pos) env v = (do
      let ov ← holding [v] (eval o env)
      let iv ← holding [v, ov] (eval i env)
      standAt pos
      holding [v, ov, iv] (setItem ov iv v)
      release [v, ov, iv] []) := by
  intro v
  cases i <;> first | rfl | cases h
/-! ### the static side -/
inductive GD where
  | fn (n : Nat) (φ : List D → Mem → Res D)
  | int (i : Int) | str (s : Str) | blt | val | exc
  | hof (F : Res D → Mem → Res D)
  | tup (l : List Str)
structure SC where
  N : List Str
  sc : Scope
  fn : Str → Bool
  hot : Bool
  lv : Nat
  up : Nat
  he : Addr
  hn : Str
  isx : Str → Str → Option Bool
  G : List (Str × GD)
def GdOk (T : TB) (lv : Nat) (P : Program) (w : World) (K : PySem.W.Frag) (mg : Str → Option Value) (base : Heap) (x : Str) : GD → Prop
  | .fn n φ => ∃ f fd k ps, k ≤ lv ∧ mg x = some (.ref f) ∧ FnOk P w K mg base (L2N.CX P w) k f fd ps (spOf ⟨K, mg, T, w⟩ n φ) ∧ PySem.W.keepIn K (.ref f) = true ∧ Binds K fd ps []
  | .int i => ∃ t, mg x = some (.int i t)
  | .str s => ∃ t, mg x = some (.str s t)
  | .blt => mg x = none
  | .val => ∃ a, mg x = some (.ref a)
  | .exc => ∃ C, mg x = some (.ref C) ∧ PySem.W.excIn K C He.veBase "ValueError.__new__" = true ∧ PySem.W.keepIn K (.ref C) = true ∧ PySem.W.subIn K (.ref C) (.type "BaseException") = some true ∧ PySem.W.typeIn K (.ref C) = some (.type "type")
  | .hof F => HofOk T lv P w K mg base x F
  | .tup l => ∃ a, mg x = some (.ref a) ∧ ∀ H : Hp, SqT K H a (l.map V.str)
theorem GdOk.mono {T : TB} {lv lv' : Nat} {P : Program} {w : World} {K : PySem.W.Frag} {mg : Str → Option Value} {base : Heap} {x : Str} (l : lv ≤ lv') : ∀ {g : GD}, GdOk T lv P w K mg base x g → GdOk T lv' P w K mg base x g
  | .fn _ _, ⟨f, fd, k, ps, h, r⟩ => ⟨f, fd, k, ps, Nat.le_trans h l, r⟩
  | .int _, h => h
  | .str _, h => h
  | .blt, h => h
  | .val, h => h
  | .exc, h => h
  | .hof _, h => HofOk.mono h l
  | .tup _, h => h
structure Mt (c : SC) (T : TB) (W : WX) (X : Cx) : Prop where
  N : X.N = c.N
  nd : X.N.Nodup
  sc : X.env.scope = c.sc
  fn : ∀ x, c.fn x = true → X.fn x = true
  un : X.A.units + 65 < cLine
  gl : ∀ x g, c.G.lookup x = some g → GdOk T c.lv X.prog X.w X.K X.mg X.base x g
  cool : c.hot = false → X.calm = true ∧ Room (c.lv + c.up) X.A ∧ L2N.Takes X W ∧ PassesOwn (model X.prog X.w) X.A X.env X.xe
  hots : c.hot = true → HotS c.he c.hn X
  isx : ∀ x y b, c.isx x y = some b → ∃ D, X.mg y = some (.ref D) ∧ ∀ C, X.mg x = some (.ref C) → PySem.W.kitOne X.K (.ref C) (.ref D) = some b
  lam : c.up = 2 → ∃ cc P, X.env.code = .ref cc ∧ LamX.TabB X.base X.mg cc P ∧ (P, X.env.qual ++ "<lambda>") ∈ T.tabs ∧ ∀ p ∈ T.tabs, p.1 = P → p.2 = X.env.qual ++ "<lambda>"
def ix (N : List Str) (x : Str) : Option Nat := N.findIdx? (· == x)
theorem ix_ok : ∀ {N : List Str} {x : Str} {i : Nat}, ix N x = some i → N[i]? = some x := by
  intro N x i h
  obtain ⟨hlt, he, _⟩ := List.findIdx?_eq_some_iff_getElem.mp h
  rw [List.getElem?_eq_getElem hlt]
  exact congrArg some (beq_iff_eq.mp he)
def okName (x : Str) : Bool := !(x == ("__debug__" : Str)) && !(x == ("__classdict__" : Str)) && decide (x ≠ "__name__")
theorem okName_ok {x : Str} (h : okName x = true) : (x == ("__debug__" : Str)) = false ∧ (x == ("__classdict__" : Str)) = false ∧ x ≠ "__name__" := by
  unfold okName at h
  simp only [Bool.and_eq_true, Bool.not_eq_true', decide_eq_true_eq] at h
  exact ⟨h.1.1, h.1.2, h.2⟩
/-! ### the compile function -/
structure Cp where
  E : SC → Expr → EF D
  B : SC → Expr → EF Bool
  A : SC → List Expr → EF (List D)
  I : SC → Bool → Expr → EF Src
  Ss : SC → List Stmt → DS
def cpBad : Cp := ⟨fun _ _ => dBad, fun _ _ => dBad, fun _ _ => dBad, fun _ _ _ => dBad, fun _ _ => sBad⟩
def nameE (c : SC) (x : Str) : EF D := if okName x = true then (match c.sc.names.lookup x with
    | some .globalImplicit => match c.G.lookup x with
      | some (.int i) => dC (.int i)
      | some (.str s) => dC (.str s)
      | some .blt => if x = "int" ∨ x = "bool" ∨ x = "str" ∨ x = "tuple" ∨ x = "list" then dC (.ty (if x = "int" then "int" else if x = "bool" then "bool" else if x = "str" then "str" else if x = "tuple" then "tuple" else "list")) else dBad
      | some (.fn _ _) => dC (.gl x)
      | some (.hof _) => dBad
      | some (.tup l) => dC (.tup (l.map .str))
      | some .val => dC (.gl x)
      | some .exc => dC (.gl x)
      | none => dBad
    | some .local => (match ix c.N x with
      | some i => dVar i
      | none => dBad)
    | some .cell => (match ix c.N x with
      | some i => dVar i
      | none => dBad)
    | some .free => (match ix c.N x with
      | some i => dVar i
      | none => dBad)
    | _ => dBad) else dBad
def binE (op : Operator) (f g : EF D) : EF D := match op with
  | .Add => dBin oAdd f g
  | .Sub => dBin oSub f g
  | .Mult => dBin oMul f g
  | .Mod => dBin oMod f g
  | .FloorDiv => dBin oFdiv f g
  | .Pow => dBin oPow f g
  | _ => dBad
def cmpO (op : CmpOp) : Option (D → D → Mem → OV) := match op with
  | .Eq => some oEq
  | .NotEq => some oNe
  | .Lt => some oLt
  | .LtE => some oLe
  | .Gt => some oGt
  | .GtE => some oGe
  | .Is => some oIsN
  | .IsNot => some oNotN
  | .In => some oIn
  | .NotIn => some oNin
def andE (f : Expr → EF D) : List Expr → EF D
  | [] => dBad
  | [a] => f a
  | a :: b :: l => dAnd (f a) (andE f (b :: l))
def orE (f : Expr → EF D) : List Expr → EF D
  | [] => dBad
  | [a] => f a
  | a :: b :: l => dOr (f a) (orE f (b :: l))
def andT (f : Expr → EF Bool) : List Expr → EF Bool
  | [] => dBad
  | [a] => f a
  | a :: b :: l => tAnd (f a) (andT f (b :: l))
def orT (f : Expr → EF Bool) : List Expr → EF Bool
  | [] => dBad
  | [a] => f a
  | a :: b :: l => tOr (f a) (orT f (b :: l))
def partE (f : Expr → EF D) : Option Expr → EF (Option Int)
  | none => dNoP
  | some e => dPart (f e)
def oNeg (a : D) (M : Mem) : OV := match a with
  | .int i => some (.int (-i), M)
  | _ => none
/-- a built-in by its name -/
def bltE (c : SC) (x : Str) (g : EF (List D)) : EF D :=
  if x = "len" then dBlt oLen g else
  if x = "isinstance" then (if c.hot = true then dBlt (oIsiX c.he c.hn c.isx) g else dBlt oIsi g) else
  if x = "int" then dBlt oToInt g else
  if x = "bool" then dBlt oToBool g else
  if x = "str" then dBlt oToStr g else
  if x = "abs" then dBlt oAbs g else
  if x = "tuple" then dBlt oToTup g else
  if x = "list" then dBlt oToLst g else
  if x = "sorted" then dBlt oSorted g else
  if c.hot = true then dBad else
  if x = "sum" then dBlt oSum g else
  if x = "all" then dBlt oAll g else
  if x = "max" then dBlt oMax g else
  if x = "min" then dBlt oMin g else dBad
def fnsOf (G : List (Str × GD)) (x : Str) : Option (Nat × (List D → Mem → Res D)) := match G.lookup x with
  | some (.fn n φ) => some (n, φ)
  | _ => none
def slotE (c : SC) (x : Str) (g : EF (List D)) : EF D := match ix c.N x with
  | some i => if c.hot = true then dBad else dCallV (fnsOf c.G) i g
  | none => dBad
def callE (c : SC) (x : Str) (g : EF (List D)) : EF D := if okName x = true then (match c.sc.names.lookup x with
  | some .globalImplicit => (match c.G.lookup x with
    | some (.fn n φ) => if c.hot = true then dBad else dCall φ n g
    | some .blt => bltE c x g
    | _ => dBad)
  | some .local => slotE c x g
  | some .cell => slotE c x g
  | some .free => slotE c x g
  | _ => dBad) else dBad
def asLam : Expr → List Expr → Option (Arguments × Expr × Scope)
  | .Lambda p b s _, [] => some (p, b, s)
  | _, _ => none
def noArgs : Arguments → Bool
  | ⟨[], [], none, [], [], none, []⟩ => true
  | _ => false
def lamSC (c : SC) (scope : Scope) : SC := { c with sc := scope, fn := fun _ => false, up := 0 }
def lamE (c : SC) (x : Str) (p : Arguments) (scope : Scope) (f : EF D) : EF D := if c.hot = false ∧ c.up = 2 ∧ okName x = true ∧ c.sc.names.lookup x = some .globalImplicit ∧ noArgs p = true ∧ LamX.lamSB c.sc scope = true then (match c.G.lookup x with
  | some (.hof F) => dHof F f
  | _ => dBad) else dBad
def methE (c : SC) (name : Str) (f : EF D) (g : EF (List D)) : EF D := if name = "append" then dMt isLst oApp f g else if name = "join" then dMt isStr oJoin f g else if name = "remove" then dMt isLst oRem f g else if name = "pop" then dMt isLst oPopA f g else dBad
/-- a target: its slots, its store -/
def nmG (c : SC) (x : Str) : Option (Nat × GF D) := match ix c.N x with
  | some i => if c.sc.names.lookup x = some .local ∨ (c.fn x = true ∧ c.sc.names.lookup x = some .cell) then some (i, gNm i) else none
  | none => none
def nmsG (c : SC) : List Expr → Option (List Nat × GF (List D))
  | [] => some ([], gsNil)
  | .Name x _ :: es => match nmG c x, nmsG c es with
    | some p, some q => some ([p.1] ++ q.1, gsCons p.2 q.2)
    | _, _ => none
  | _ => none
def tgG (c : SC) : Expr → Option (List Nat × GF D)
  | .Name x _ => (nmG c x).map fun p => ([p.1], p.2)
  | .Tuple es _ _ => (nmsG c es).map fun p => (p.1, if c.hot = true then gTpT es.length p.2 else gTp es.length p.2)
  | _ => none
def ownOf (c : SC) (scope : Scope) : List (Str × Nat) := scope.names.filterMap fun p => match p.2 with
  | .local => (ix c.N p.1).map fun i => (p.1, i)
  | .cell => (ix c.N p.1).map fun i => (p.1, i)
  | _ => none
def blkS (c : SC) (scope : Scope) : SC := { c with sc := relS scope c.sc, fn := fun x => scope.names.lookup x == some .cell, up := 0 }
def isTup : Expr → Bool
  | .Tuple .. => true
  | _ => false
def ifsE (f : Expr → EF Bool) : List Expr → EF Bool
  | [] => tTrue
  | [t] => f t
  | _ => dBad
def lcE (r : Cp) (c : SC) (elt tg iter : Expr) (ifs : List Expr) (scope : Scope) : EF D :=
  if blkC c.N c.sc scope (ownOf c scope) = true ∧ notSet iter = true ∧ ifs.length ≤ 1 then (match tgG (blkS c scope) tg with
    | some p => if p.1.all (fun i => ((ownOf c scope).map (·.2)).contains i) = true then dLc ((ownOf c scope).map (·.2)) (if c.hot = true then dLive (r.E c iter) else r.I c (isTup tg) iter) p.2 (ifsE (r.B (blkS c scope)) ifs) (r.E (blkS c scope) elt) else dBad
    | none => dBad) else dBad
def stepE (r : Cp) (c : SC) : Expr → EF D
  | .Constant k _ _ => (match k with
    | .int i => dC (.int i)
    | .bool b => dC (.bl b)
    | .none => dC .non
    | .str s => dC (.str s)
    | _ => dBad)
  | .Name x _ => nameE c x
  | .BinOp a op b _ => binE op (r.E c a) (r.E c b)
  | .UnaryOp op a _ => (match op with
    | .Not => dNot (r.E c a)
    | .USub => dUn oNeg (r.E c a)
    | _ => dBad)
  | .BoolOp op vs _ => (match op with
    | .And => andE (r.E c) vs
    | .Or => orE (r.E c) vs)
  | .Compare a ops bs _ => (match ops, bs with
    | [op], [b] => if notSet b = true then (match cmpO op with
      | some f => dBin f (r.E c a) (r.E c b)
      | none => dBad) else dBad
    | [op, op'], [b, d] => if notSet d = true then (match cmpO op, cmpO op' with
      | some f, some f' => dCh f f' (r.E c a) (r.E c b) (r.E c d)
      | _, _ => dBad) else dBad
    | [op, op', op2], [b, d, e] => if notSet e = true then (match cmpO op, cmpO op', cmpO op2 with
      | some f, some f', some f2 => dCh3 f f' f2 (r.E c a) (r.E c b) (r.E c d) (r.E c e)
      | _, _, _ => dBad) else dBad
    | _, _ => dBad)
  | .IfExp t a b _ => dIf (r.B c t) (r.E c a) (r.E c b)
  | .Tuple es _ _ => dTup (r.A c es)
  | .List es _ => dLst (r.A c es)
  | .Subscript v i _ => (match i with
    | .Slice lo hi st _ => (match st with
      | none => dSl (r.E c v) (partE (r.E c) lo) (partE (r.E c) hi)
      | some s => (match lo, hi with
        | none, none => dBin oRv (r.E c v) (r.E c s)
        | _, _ => dBad))
    | i => dBin oIx (r.E c v) (r.E c i))
  | .Call f args kws pos => (match f, args, kws with
    | .Name x _, e :: es, [] => (match asLam e es with
      | some l => lamE c x l.1 l.2.2 (r.E (lamSC c l.2.2) l.2.1)
      | none => if (e :: es).all nst = true then callE c x (r.A c (e :: es)) else dBad)
    | .Attribute o name apos, e :: es, [] => if (e :: es).all nst = true ∧ plainB o = true ∧ (apos.endLine == pos.line) = true ∧ es.length < 20 then (if name = "get" then (match es with
      | [f] => dMt isDct oGet (r.E c o) (r.A c [e, f])
      | _ => dBad) else methE c name (r.E c o) (r.A c (e :: es))) else dBad
    | _, _, _ => dBad)
  | .ListComp elt gens scope _ => (match gens with
    | [⟨tg, iter, ifs, a⟩] => if a = 0 then lcE r c elt tg iter ifs scope else dBad
    | _ => dBad)
  | .Dict ks vs _ => (match ks, vs with
    | [], [] => dDct
    | _, _ => dBad)
  | _ => dBad
def stepB (r : Cp) (c : SC) : Expr → EF Bool
  | .UnaryOp .Not a _ => tNot (r.B c a)
  | .BoolOp op vs _ => (match op with
    | .And => andT (r.B c) vs
    | .Or => orT (r.B c) vs)
  | .Compare a ops bs _ => (match ops, bs with
    | [op], [b] => if notSet b = true then (match cmpO op with
      | some f => tV (dBin f (r.E c a) (r.E c b))
      | none => dBad) else dBad
    | [op, op'], [b, d] => if notSet d = true then (match cmpO op, cmpO op' with
      | some f, some f' => tV (dCh f f' (r.E c a) (r.E c b) (r.E c d))
      | _, _ => dBad) else dBad
    | [op, op', op2], [b, d, e] => if notSet e = true then (match cmpO op, cmpO op', cmpO op2 with
      | some f, some f', some f2 => tV (dCh3 f f' f2 (r.E c a) (r.E c b) (r.E c d) (r.E c e))
      | _, _, _ => dBad) else dBad
    | _, _ => dBad)
  | e => if plainT e = true then tV (r.E c e) else dBad
def stepA (r : Cp) (c : SC) : List Expr → EF (List D)
  | [] => aNil
  | e :: es => if nst e = true then aCons (r.E c e) (r.A c es) else dBad
def stepI (r : Cp) (c : SC) (tup : Bool) (e : Expr) : EF Src := if c.hot = true then dBad else match e with
  | .Call (.Name x _) args kws pos => (match kws with
    | [] => if okName x = true ∧ c.sc.names.lookup x = some .globalImplicit then (match c.G.lookup x with
      | some .blt => (match args with
        | [a] => if nst a = true then (if x = "range" then dRng1 (r.A c [a]) else if x = "enumerate" ∧ tup = true then dEnumL (r.A c [a]) else dSeqSrc (r.E c e)) else dBad
        | [a, b] => if nst a = true ∧ nst b = true then (if x = "range" then dRng2 (r.A c [a, b]) else if x = "zip" ∧ tup = true then dZip (r.A c [a, b]) else dSeqSrc (r.E c e)) else dBad
        | _ => dSeqSrc (r.E c e))
      | _ => dSeqSrc (r.E c e)) else dSeqSrc (r.E c e)
    | _ => dSeqSrc (r.E c e))
  | e => dSeqSrc (r.E c e)
def asgS (r : Cp) (c : SC) (tg e : Expr) (pos : Pos) : DS := match tg with
  | .Name x p => (match nmG c x with
    | some q => (match e with
      | .ListComp elt gens scope lpos => if c.hot = false ∧ c.sc.names.lookup x = some .local ∧ c.sc.kind = .function ∧ (p.line == lpos.line) = true ∧ (scope.names.any fun (n, k) => n == x && (k == .local || k == .cell)) = false then (match gens with
          | [⟨tg2, iter, ifs, a⟩] => if a = 0 then sAsg (lcE r c elt tg2 iter ifs scope) (gNm q.1) else sBad
          | _ => sBad) else sBad
      | e => if notComp e = true then sAsg (r.E c e) (gNm q.1) else sBad)
    | none => sBad)
  | .Tuple ts k p => if notComp e = true then (match e with
    | .Tuple vs k2 p2 => if swNone c.sc ts vs = true ∧ ts.all nst = true then (match tgG c (.Tuple ts k p) with
        | some q => sAsg (r.E c e) q.2
        | none => sBad) else (match ts, vs with
        | [.Name x px, .Name y py], [a, b] => (match ix c.N x, ix c.N y with
          | some i, some j => if c.hot = false ∧ i ≠ j ∧ swPair c.sc x y px py a b = true then sPar [i, j] (r.A c [a, b]) else sBad
          | _, _ => sBad)
        | [.Name x px, .Name y py, .Name z pz], [a, b, d] => (match ix c.N x, ix c.N y, ix c.N z with
          | some i, some j, some l => if c.hot = false ∧ i ≠ j ∧ i ≠ l ∧ j ≠ l ∧ swTrip c.sc x y z px py pz a b d = true then sPar [i, j, l] (r.A c [a, b, d]) else sBad
          | _, _, _ => sBad)
        | _, _ => sBad)
    | e => if notTup e = true then (match tgG c (.Tuple ts k p) with
      | some q => sAsg (r.E c e) q.2
      | none => sBad) else sBad) else sBad
  | .Subscript o i p => if notComp e = true ∧ plainX i = true then sAsg (r.E c e) (gSb (r.E c o) (r.E c i)) else sBad
  | _ => sBad
noncomputable def stepS (r : Cp) (c : SC) : Stmt → DS
  | .Pass _ => sNil
  | .Break _ => sBrk
  | .Continue _ => sCnt
  | .Return v _ => (match v with
    | some e => sRet (r.E c e)
    | none => sRetN)
  | .Expr e _ => if notComp e = true then sDrop (r.E c e) else sBad
  | .If t a b _ => sIf (r.B c t) (r.Ss c a) (r.Ss c b)
  | .Assign tgs e pos => (match tgs with
    | [tg] => asgS r c tg e pos
    | _ => sBad)
  | .For tg iter body els _ => (match els with
    | [] => if c.hot = false ∧ notSet iter = true then (match tgG c tg with
      | some p => sFor (r.I c (isTup tg) iter) p.2 (r.Ss c body)
      | none => sBad) else sBad
    | _ => sBad)
  | .While t body els _ => (match els with
    | [] => if c.hot = false then sWh (r.B c t) (r.Ss c body) else sBad
    | _ => sBad)
  | .AugAssign tg op e _ => (match tg, op with
    | .Subscript o i _, .Add => if plainX i = true then sAugS (r.E c o) (r.E c i) (r.E c e) else sBad
    | _, _ => sBad)
  | .Raise ex cause _ => (match ex, cause with
    | some (.Call (.Name x _) args kws _), none => (match args, kws with
      | [.Constant (.str _) _ _], [] => if c.hot = false ∧ okName x = true ∧ c.sc.names.lookup x = some .globalImplicit then (match c.G.lookup x with
        | some .exc => fun δ M => .exc ⟨x, []⟩ δ M
        | _ => sBad) else sBad
      | _, _ => sBad)
    | _, _ => sBad)
  | _ => sBad
noncomputable def stepSs (r : Cp) (c : SC) : List Stmt → DS
  | [] => sNil
  | s :: ss => sSeq (stepS r c s) (r.Ss c ss)
noncomputable def step (r : Cp) : Cp := ⟨stepE r, stepB r, stepA r, stepI r, stepSs r⟩
noncomputable def cp : Nat → Cp
  | 0 => cpBad
  | n + 1 => step (cp n)
end Pd
namespace Pd
open PySem PySem.Spec PyProof.Rows L2
structure CpOk (r : Cp) : Prop where
  E : ∀ {c T W X}, Mt c T W X → ∀ e, EV T W X e (r.E c e)
  B : ∀ {c T W X}, Mt c T W X → ∀ e, ET T W X e (r.B c e)
  A : ∀ {c T W X}, Mt c T W X → ∀ es, EA T W X es (r.A c es)
  I : ∀ {c T W X}, Mt c T W X → ∀ tg iter, EI T W X tg iter (r.I c (isTup tg) iter)
  Ss : ∀ {c T W X}, Mt c T W X → ∀ ss, ESs T W X ss (r.Ss c ss)
theorem EI.bad {T : TB} {W : WX} {X : Cx} (tg e : Expr) : EI T W X tg e dBad := ⟨fun _ _ _ => False, ⟨fun _ _ _ _ _ _ h => h.elim⟩, fun _ _ _ _ _ _ h => h⟩
theorem cpBad_ok : CpOk cpBad := ⟨fun _ e => EV.bad e, fun _ e => ET.bad e, fun _ e => EA.bad e, fun _ tg e => EI.bad tg e, fun _ ss => ESs.bad⟩
section
variable {c : SC} {T : TB} {W : WX} {X : Cx} {r : Cp}
theorem Mt.idx (m : Mt c T W X) {x : Str} {i : Nat} (h : ix c.N x = some i) : X.N[i]? = some x := by rw [m.N]; exact ix_ok h
theorem Mt.gx (m : Mt c T W X) {x : Str} (h : c.sc.names.lookup x = some .globalImplicit) : Gl X x := by
  show X.env.scope.names.lookup x = _
  rw [m.sc]
  exact h
theorem RelL.mkStrs {R : RC} {w : Wd} : ∀ (l : List Str), RelL R w (l.map D.str) (l.map V.str)
  | [] => .nil
  | _ :: l => .cons .mkStr (RelL.mkStrs l)
theorem name_ok (m : Mt c T W X) (x : Str) (pos : Pos) : EV T W X (.Name x pos) (nameE c x) := by
  unfold nameE
  split
  · rename_i hok
    obtain ⟨h1, h2, h3⟩ := okName_ok hok
    split
    · rename_i hg
      have g := m.gx hg
      split
      · rename_i i e
        obtain ⟨t, hm⟩ := m.gl x _ e
        exact EV.globI g hm h1
      · rename_i i e
        obtain ⟨t, hm⟩ := m.gl x _ e
        exact EV.globS g hm h1
      · rename_i e
        have hm : X.mg x = none := m.gl x _ e
        split
        · rename_i hx
          rcases hx with rfl | rfl | rfl | rfl | rfl
          · exact EV.bltTy g hm (by decide +kernel) h3 h1
          · exact EV.bltTy g hm (by decide +kernel) h3 h1
          · exact EV.bltTy g hm (by decide +kernel) h3 h1
          · exact EV.bltTy g hm (by decide +kernel) h3 h1
          · exact EV.bltTy g hm (by decide +kernel) h3 h1
        · exact EV.bad _
      · rename_i n φ e
        obtain ⟨f, fd, k, ps, _, hm, _⟩ := m.gl x _ e
        exact EV.glob (v := .ref f) g hm rfl h1
      · exact EV.bad _
      · rename_i l e
        obtain ⟨a, hm, hS⟩ := m.gl x _ e
        exact EV.const (pe_glob (v := .ref a) g hm rfl h1) (fun _ _ _ h => h) fun w => by unfold RelD; exact ⟨a, l.map V.str, rfl, hS w.H, RelL.mkStrs l⟩
      · rename_i e
        obtain ⟨a, hm⟩ := m.gl x _ e
        exact EV.glob (v := .ref a) g hm rfl h1
      · rename_i e
        obtain ⟨a, hm, _⟩ := m.gl x _ e
        exact EV.glob (v := .ref a) g hm rfl h1
      · exact EV.bad _
    · rename_i hg
      split
      · rename_i i e
        exact EV.var (m.idx e) (.inl (by rw [m.sc]; exact hg)) h1 h2
      · exact EV.bad _
    · rename_i hg
      split
      · rename_i i e
        exact EV.var (m.idx e) (.inr (.inl (by rw [m.sc]; exact hg))) h1 h2
      · exact EV.bad _
    · rename_i hg
      split
      · rename_i i e
        exact EV.var (m.idx e) (.inr (.inr (by rw [m.sc]; exact hg))) h1 h2
      · exact EV.bad _
    · exact EV.bad _
  · exact EV.bad _
theorem bin_ok {a b : Expr} {f g : EF D} (op : Operator) (pos : Pos) (ha : EV T W X a f) (hb : EV T W X b g) : EV T W X (.BinOp a op b pos) (binE op f g) := by
  cases op with
  | Add => exact EV.bin op_plus ok_add ha hb
  | Sub => exact EV.bin (rI0_of op_sub) ok_sub ha hb
  | Mult => exact EV.bin op_times ok_mul ha hb
  | Mod => exact EV.bin op_mod ok_mod ha hb
  | FloorDiv => exact EV.bin op_fdivW ok_fdiv ha hb
  | Pow => exact EV.bin op_pow ok_pow ha hb
  | _ => exact EV.bad _
theorem cmpO_ok (hu : X.A.units + 65 < cLine) {op : CmpOp} {f : D → D → Mem → OV} (h : cmpO op = some f) : ∃ r, OpR X (compareOp op) r ∧ OpOk T X f r := by
  cases op with
  | Eq => cases h; exact ⟨_, op_eqD (by omega), ok_eq⟩
  | NotEq => cases h; exact ⟨_, op_neD (by omega), ok_ne⟩
  | Lt => cases h; exact ⟨_, rI0_of op_lt, ok_lt⟩
  | LtE => cases h; exact ⟨_, rI0_of op_le, ok_le⟩
  | Gt => cases h; exact ⟨_, rI0_of op_gt, ok_gt⟩
  | GtE => cases h; exact ⟨_, rI0_of op_ge, ok_ge⟩
  | Is => cases h; exact ⟨_, op_isN, ok_isN⟩
  | IsNot => cases h; exact ⟨_, op_notN, ok_notN⟩
  | In => cases h; exact ⟨_, op_inA hu, ok_in⟩
  | NotIn => cases h; exact ⟨_, op_ninA hu, ok_nin⟩
theorem andE_ok {f : Expr → EF D} (h : ∀ e, EV T W X e (f e)) (pos : Pos) : ∀ vs, EV T W X (.BoolOp .And vs pos) (andE f vs)
  | [] => EV.bad _
  | [a] => EV.one (h a)
  | a :: b :: l => EV.and (h a) (andE_ok h pos (b :: l))
theorem orE_ok {f : Expr → EF D} (h : ∀ e, EV T W X e (f e)) (pos : Pos) : ∀ vs, EV T W X (.BoolOp .Or vs pos) (orE f vs)
  | [] => EV.bad _
  | [a] => EV.one (h a)
  | a :: b :: l => EV.or (h a) (orE_ok h pos (b :: l))
theorem andT_ok {f : Expr → EF Bool} (h : ∀ e, ET T W X e (f e)) (pos : Pos) : ∀ vs, ETW T W X (.BoolOp .And vs pos) (andT f vs)
  | [] => ETW.bad _
  | [a] => ETW.and1 (h a)
  | a :: b :: l => ETW.and (h a) (andT_ok h pos (b :: l))
theorem orT_ok {f : Expr → EF Bool} (h : ∀ e, ET T W X e (f e)) (pos : Pos) : ∀ vs, ETW T W X (.BoolOp .Or vs pos) (orT f vs)
  | [] => ETW.bad _
  | [a] => ETW.or1 (h a)
  | a :: b :: l => ETW.or (h a) (orT_ok h pos (b :: l))
theorem part_ok {f : Expr → EF D} (h : ∀ e, EV T W X e (f e)) : ∀ o, EP T W X o (partE f o)
  | none => EP.none
  | some e => EP.some (h e)
theorem EV.un {a : Expr} {f : EF D} {op : UnaryOp} {pos : Pos} {rr : V → Hp → VK → Prop} {dop : D → Mem → OV} (ho : UnR X (unaryOp op) rr) (hk : ∀ w d v Q, w.Ok (rc T X) → RelD (rc T X) w d v → PostV (rc T X) w Q (dop d w.M) → rr v w.H Q) (ha : EV T W X a f) : EV T W X (.UnaryOp op a pos) (dUn dop f) := by
  obtain ⟨ta, pa, qa⟩ := ha
  refine ⟨_, pe_un ho pa, fun w δ σ Q o s h => ?_⟩
  exact qa w δ σ _ o s (h.bind fun d1 w1 v1 l1 o1 r1 h1 => hk w1 d1 v1 Q o1 r1 (post_ofV h1))
theorem neg_ok {a : Expr} {f : EF D} {pos : Pos} (ha : EV T W X a f) : EV T W X (.UnaryOp .USub a pos) (dUn oNeg f) :=
  EV.un un_neg (fun w d v Q o r h => by
    cases d with
    | int i => unfold RelD at r; exact ⟨i, r, PostV.val h o .mkInt⟩
    | _ => exact h.elim) ha
theorem notComp_sole {t e : Expr} {l : Nat} {env : Env} (h : notComp e = true) : swapsWithSole [t] e l env = pure false := notComp_ok h
theorem blt_ok (m : Mt c T W X) {x : Str} {e : Expr} {es : List Expr} {g : EF (List D)} {p pos : Pos} (hg : Gl X x) (hm : X.mg x = none) (ha : EA T W X (e :: es) g) (hn : x ≠ "__name__") (hdb : (x == ("__debug__" : Str)) = false)
    (he : starEach (e :: es) X.env = (false, eval e X.env) :: starEach es X.env) (hpl : (backTo pos (starEach es X.env)).any (·.1) = false) : EV T W X (.Call (.Name x p) (e :: es) [] pos) (bltE c x g) := by
  unfold bltE
  by_cases hx : x = "len"
  · rw [if_pos hx]; subst hx; exact EV.callB call_len bl_len hg hm (by decide +kernel) ha hn hdb he hpl
  rw [if_neg hx]; clear hx
  by_cases hx : x = "isinstance"
  · rw [if_pos hx]
    subst hx
    split
    · rename_i hh
      have hot := m.hots hh
      refine EV.callB (call_isi.or (call_isX hot)) (bl_isX (isx := c.isx) (fun x y b C D h1 h2 h3 => ?_) ?_ fun x y b h => ?_) hg hm (by decide +kernel) ha hn hdb he hpl
      · obtain ⟨D', d1, d2⟩ := m.isx x y b h1
        rw [h3] at d1
        cases d1
        exact d2 C h2
      · obtain ⟨o, vs, C, _, _, _, z, _⟩ := hot.ob
        exact ⟨C, z⟩
      · obtain ⟨D', d1, _⟩ := m.isx x y b h
        exact ⟨D', d1⟩
    · exact EV.callB call_isi bl_isi hg hm (by decide +kernel) ha hn hdb he hpl
  rw [if_neg hx]; clear hx
  by_cases hx : x = "int"
  · rw [if_pos hx]; subst hx; exact EV.callTy call_int1 bl_int hg hm (by decide +kernel) ha hn hdb he hpl
  rw [if_neg hx]; clear hx
  by_cases hx : x = "bool"
  · rw [if_pos hx]; subst hx; exact EV.callTy call_bool1 bl_bool hg hm (by decide +kernel) ha hn hdb he hpl
  rw [if_neg hx]; clear hx
  by_cases hx : x = "str"
  · rw [if_pos hx]; subst hx; exact EV.callTy call_str_int bl_str hg hm (by decide +kernel) ha hn hdb he hpl
  rw [if_neg hx]; clear hx
  by_cases hx : x = "abs"
  · rw [if_pos hx]; subst hx; exact EV.callB call_abs bl_abs hg hm (by decide +kernel) ha hn hdb he hpl
  rw [if_neg hx]; clear hx
  by_cases hx : x = "tuple"
  · rw [if_pos hx]; subst hx; exact EV.callTy call_tuple_of bl_tup hg hm (by decide +kernel) ha hn hdb he hpl
  rw [if_neg hx]; clear hx
  by_cases hx : x = "list"
  · rw [if_pos hx]; subst hx; exact EV.callTy call_list_of bl_lst hg hm (by decide +kernel) ha hn hdb he hpl
  rw [if_neg hx]; clear hx
  by_cases hx : x = "sorted"
  · rw [if_pos hx]; subst hx; exact EV.callB cr_sorted bl_sorted hg hm (by decide +kernel) ha hn hdb he hpl
  rw [if_neg hx]; clear hx
  by_cases hh : c.hot = true
  · rw [if_pos hh]; exact EV.bad _
  rw [if_neg hh]
  have hc := (m.cool (by cases q : c.hot <;> first | rfl | exact absurd q hh)).1
  by_cases hx : x = "sum"
  · rw [if_pos hx]; subst hx; exact EV.callB ((cr_sum hc).or (cr_sumT hc)) bl_sum hg hm (by decide +kernel) ha hn hdb he hpl
  rw [if_neg hx]; clear hx
  by_cases hx : x = "all"
  · rw [if_pos hx]; subst hx; exact EV.callB (cr_all hc) bl_all hg hm (by decide +kernel) ha hn hdb he hpl
  rw [if_neg hx]; clear hx
  by_cases hx : x = "max"
  · rw [if_pos hx]; subst hx; exact EV.callB ((call_max2 hc).or ((cr_max hc).or (cr_max3 hc))) bl_max hg hm (by decide +kernel) ha hn hdb he hpl
  rw [if_neg hx]; clear hx
  by_cases hx : x = "min"
  · rw [if_pos hx]; subst hx; exact EV.callB ((call_min2 hc).or ((cr_min hc).or (cr_minT hc))) bl_min hg hm (by decide +kernel) ha hn hdb he hpl
  rw [if_neg hx]; clear hx
  exact EV.bad _
theorem slot_ok (m : Mt c T W X) {x : Str} {e : Expr} {es : List Expr} {g : EF (List D)} {p pos : Pos} (ha : EA T W X (e :: es) g) (hs' : nst e = true ∧ es.all nst = true) (hv : Vis X.env.scope x) (h1 : (x == ("__debug__" : Str)) = false) (h2 : (x == ("__classdict__" : Str)) = false) :
    EV T W X (.Call (.Name x p) (e :: es) [] pos) (slotE c x g) := by
  unfold slotE
  split
  · rename_i i hi
    split
    · exact EV.bad _
    · rename_i hh
      have hc := m.cool (by cases q : c.hot <;> first | rfl | exact absurd q hh)
      refine EV.callV (k := c.lv + c.up) (fun x n φ hx => ?_) hc.2.1 (m.idx hi) hv hc.2.2.1 ha h1 h2 (nst_cons hs'.1) (nst_any hs'.2)
      unfold fnsOf at hx
      split at hx
      · rename_i n' φ' e1
        cases hx
        obtain ⟨f, fd, k, ps, hk, hm, F, kp, hb⟩ := m.gl x _ e1
        exact ⟨f, fd, k, ps, Nat.le_trans hk (Nat.le_add_right _ _), hm, F, kp, hb⟩
      · cases hx
  · exact EV.bad _
theorem call_ok (m : Mt c T W X) {x : Str} {e : Expr} {es : List Expr} {g : EF (List D)} {p pos : Pos} (ha : EA T W X (e :: es) g) (hs : (e :: es).all nst = true) : EV T W X (.Call (.Name x p) (e :: es) [] pos) (callE c x g) := by
  have hs' := hs
  rw [List.all_cons, Bool.and_eq_true] at hs'
  unfold callE
  split
  · rename_i hok
    obtain ⟨h1, h2, h3⟩ := okName_ok hok
    split
    · rename_i hl
      have hg := m.gx hl
      split
      · rename_i n φ e1
        split
        · exact EV.bad _
        · rename_i hh
          have hc := m.cool (by cases q : c.hot <;> first | rfl | exact absurd q hh)
          obtain ⟨f, fd, k, ps, hk, hm, F, kp, hb⟩ := m.gl x _ e1
          exact EV.call F (hc.2.1.mono (Nat.le_trans hk (Nat.le_add_right _ _))) hg hm kp hb hc.2.2.1 ha h1 (nst_cons hs'.1) (nst_any hs'.2)
      · rename_i e1
        exact blt_ok m hg (m.gl x _ e1) ha h3 h1 (nst_cons hs'.1) (nst_any hs'.2)
      · exact EV.bad _
    · rename_i hl
      exact slot_ok m ha hs' (.inl (by rw [m.sc]; exact hl)) h1 h2
    · rename_i hl
      exact slot_ok m ha hs' (.inr (.inl (by rw [m.sc]; exact hl))) h1 h2
    · rename_i hl
      exact slot_ok m ha hs' (.inr (.inr (by rw [m.sc]; exact hl))) h1 h2
    · exact EV.bad _
  · exact EV.bad _
theorem noArgs_ok {p : Arguments} (h : noArgs p = true) : p = ⟨[], [], none, [], [], none, []⟩ := by
  unfold noArgs at h
  split at h
  · rfl
  · cases h
theorem Mt.lamb (m : Mt c T W X) (hh : c.hot = false) (hu : c.up = 2) {A : Around} {outer : List Env} {s : Shared} {H : Hp} {E : XK} {scope : Scope} {f c' : Addr} (hr : Room c.lv (A.deeper (LamX.lamEnv X scope s.heap.objs.size f c'))) :
    Mt (lamSC c scope) T (fun c d _ H' => E c d H') (lamCxN X A outer s H E scope f c') where
  N := m.N
  nd := m.nd
  sc := rfl
  fn := fun _ h => by cases h
  un := by
    have := hr.un
    show (A.deeper (LamX.lamEnv X scope s.heap.objs.size f c')).units + 65 < cLine
    omega
  gl := m.gl
  cool := fun _ => ⟨rfl, hr, L2N.takes_of rfl rfl rfl rfl, passes_of rfl⟩
  hots := fun h => by
    have z : c.hot = true := h
    rw [hh] at z
    cases z
  isx := m.isx
  lam := fun h => by cases h
theorem lam_ok (R : CpOk r) (m : Mt c T W X) {x : Str} {e : Expr} {es : List Expr} {l : Arguments × Expr × Scope} {p pos : Pos} (ha : asLam e es = some l) : EV T W X (.Call (.Name x p) (e :: es) [] pos) (lamE c x l.1 l.2.2 (r.E (lamSC c l.2.2) l.2.1)) := by
  unfold asLam at ha
  split at ha
  · rename_i pa b s lpos
    cases ha
    unfold lamE
    split
    · rename_i h
      obtain ⟨hh, hu, hok, hl, hn, hL⟩ := h
      obtain ⟨h1, h2, h3⟩ := okName_ok hok
      split
      · rename_i F e1
        have hc := m.cool hh
        obtain ⟨cc, P, k1, k2, k3, k4⟩ := m.lam hu
        have hr : Room (c.lv + 2) X.A := by have := hc.2.1; rw [hu] at this; exact this
        have en := noArgs_ok hn
        dsimp only at en ⊢
        subst en
        exact EV.hof (m.gx hl) (m.gl x _ e1) hr hc.2.2.1 k2 k1 k3 k4 (LamX.lamS_by (by rw [m.sc]; exact hL)) rfl (fun _ _ _ _ _ => rfl) (fun A outer s H E f c' hr2 => R.E (m.lamb hh hu hr2) b) h1
      · exact EV.bad _
    · exact EV.bad _
  · cases ha
theorem meth_ok {name : Str} {o e : Expr} {es : List Expr} {f : EF D} {g : EF (List D)} {apos cpos : Pos} (ho : EV T W X o f) (ha : EA T W X (e :: es) g) (hs : (e :: es).all nst = true) (hb : plainB o = true) (hl : (apos.endLine == cpos.line) = true) (hz : es.length < 20) :
    EV T W X (.Call (.Attribute o name apos) (e :: es) [] cpos) (methE c name f g) := by
  have hs' := hs
  rw [List.all_cons, Bool.and_eq_true] at hs'
  unfold methE
  split
  · rename_i hx
    subst hx
    exact EV.mt (fun w d v ok h r => isLst_ok ok h r) PySem.F.plainAttrs_list PySem.F.slot_list_append PySem.F.type_list_append mt_append mk_app ho ha (plainB_ok hb) (nst_few hs hz) hl (nst_cons hs'.1) (nst_any hs'.2)
  split
  · rename_i hx
    subst hx
    exact EV.mt (fun w d v ok h r => isStr_ok h r) PySem.F.plainAttrs_str PySem.F.slot_str_join PySem.F.type_str_join mt_join mk_join ho ha (plainB_ok hb) (nst_few hs hz) hl (nst_cons hs'.1) (nst_any hs'.2)
  split
  · rename_i hx
    subst hx
    exact EV.mt (fun w d v ok h r => isLst_ok ok h r) PySem.F.plainAttrs_list PySem.F.slot_list_remove PySem.F.type_list_remove mt_remove mk_rem ho ha (plainB_ok hb) (nst_few hs hz) hl (nst_cons hs'.1) (nst_any hs'.2)
  split
  · rename_i hx
    subst hx
    exact EV.mt (fun w d v ok h r => isLst_ok ok h r) PySem.F.plainAttrs_list PySem.F.slot_list_pop PySem.F.type_list_pop mt_popAt mk_popA ho ha (plainB_ok hb) (nst_few hs hz) hl (nst_cons hs'.1) (nst_any hs'.2)
  · exact EV.bad _
/-! targets -/
theorem nmG_ok (m : Mt c T W X) {x : Str} {q : Nat × GF D} (h : nmG c x = some q) (pos : Pos) : X.N[q.1]? = some x ∧ Loc X.env.scope x ∧ (X.fn x = true ∨ X.env.scope.names.lookup x = some .local) ∧ q.2 = gNm q.1 ∧ EG T X (.Name x pos) [q.1] q.2 := by
  unfold nmG at h
  split at h
  · rename_i i e
    split at h
    · rename_i hx
      cases h
      have a := m.idx e
      have b : Loc X.env.scope x := by
        rw [m.sc]
        rcases hx with hx | hx
        · exact .inl hx
        · exact .inr hx.2
      have d : X.fn x = true ∨ X.env.scope.names.lookup x = some .local := by
        rcases hx with hx | hx
        · exact .inr (by rw [m.sc]; exact hx)
        · exact .inl (m.fn x hx.1)
      exact ⟨a, b, d, rfl, EG.name m.nd a b d⟩
    · cases h
  · cases h
theorem nmsG_ok (m : Mt c T W X) : ∀ {es : List Expr} {p : List Nat × GF (List D)}, nmsG c es = some p → EGs T X es p.1 p.2 ∧ es.all nst = true
  | [], p, h => by
    unfold nmsG at h
    cases h
    exact ⟨EGs.nil, rfl⟩
  | e :: es, p, h => by
    unfold nmsG at h
    split at h
    · rename_i h0; cases h0
    · rename_i x pos es' h0
      cases h0
      split at h
      · rename_i a b e1 e2
        cases h
        obtain ⟨h1, h2⟩ := nmsG_ok m e2
        exact ⟨EGs.cons (nmG_ok m e1 pos).2.2.2.2 h1 (asg_cons rfl), by rw [List.all_cons, h2]; rfl⟩
      · cases h
    · cases h
theorem tgG_ok (m : Mt c T W X) {tg : Expr} {p : List Nat × GF D} (h : tgG c tg = some p) : EG T X tg p.1 p.2 := by
  unfold tgG at h
  split at h
  · rename_i x pos
    cases e : nmG c x with
    | none => rw [e] at h; cases h
    | some q =>
      rw [e] at h
      cases h
      exact (nmG_ok m e pos).2.2.2.2
  · rename_i es k pos
    cases e : nmsG c es with
    | none => rw [e] at h; cases h
    | some q =>
      rw [e] at h
      cases h
      obtain ⟨h1, h2⟩ := nmsG_ok m e
      cases q2 : c.hot with
      | true =>
        show EG T X (.Tuple es k pos) q.1 (gTpT es.length q.2)
        exact EG.tupH (m.hots q2) h1 asg_len (asg_star h2)
      | false =>
        show EG T X (.Tuple es k pos) q.1 (gTp es.length q.2)
        exact EG.tup (m.cool q2).1 h1 asg_len (asg_star h2)
  · cases h
theorem Mt.blk (m : Mt c T W X) (s : Shared) (H : Hp) (scope : Scope) (C : Addr) (cl : List (Str × Addr)) (fp : List Addr) (hh : c.hot = true → HotS c.he c.hn (X.blk s H scope (compEnvC scope cl C X.env) fp)) : Mt (blkS c scope) T WF (X.blk s H scope (compEnvC scope cl C X.env) fp) where
  N := m.N
  nd := m.nd
  sc := by
    show relabel scope X.env = relS scope c.sc
    rw [← m.sc]
    rfl
  fn := fun x h => h
  un := m.un
  gl := m.gl
  cool := fun hh => by
    have hc := m.cool hh
    refine ⟨hc.1, hc.2.1.mono (Nat.le_add_right _ _), fun u s' x => ?_, PassesOwn.never⟩
    obtain ⟨_, _, _, _, _, _, _, _, _, _, _, _, _, _, _, _, z⟩ := x
    exact z.elim
  hots := hh
  isx := m.isx
  lam := fun h => by cases h
theorem lc_one (R : CpOk r) (m : Mt c T W X) {elt tg iter : Expr} {ifs : List Expr} {scope : Scope} {p : List Nat × GF D} (h3 : ifs.length ≤ 1) (hp : tgG (blkS c scope) tg = some p) (s : Shared) (H : Hp) (C : Addr) (cl : List (Str × Addr)) (fp : List Addr)
    (hh : c.hot = true → HotS c.he c.hn (X.blk s H scope (compEnvC scope cl C X.env) fp)) : EG T (X.blk s H scope (compEnvC scope cl C X.env) fp) tg p.1 p.2 ∧ ETs T WF (X.blk s H scope (compEnvC scope cl C X.env) fp) ifs (ifsE (r.B (blkS c scope)) ifs) ∧ EV T WF (X.blk s H scope (compEnvC scope cl C X.env) fp) elt (r.E (blkS c scope) elt) := by
  refine ⟨tgG_ok (m.blk s H scope C cl fp hh) hp, ?_, R.E (m.blk s H scope C cl fp hh) elt⟩
  match ifs, h3 with
  | [], _ => exact ETs.nil
  | [t], _ => exact ETs.one (R.B (m.blk s H scope C cl fp hh) t)
theorem lc_ok (R : CpOk r) (m : Mt c T W X) {elt tg iter : Expr} {ifs : List Expr} {scope : Scope} {pos : Pos} : EV T W X (.ListComp elt [⟨tg, iter, ifs, 0⟩] scope pos) (lcE r c elt tg iter ifs scope) := by
  unfold lcE
  split
  · rename_i h
    obtain ⟨h1, h2, h3⟩ := h
    have hb : BlkOk X.N X.env.scope scope (ownOf c scope) := by rw [m.N, m.sc]; exact blkOk_by h1
    split
    · rename_i p hp
      split
      · rename_i hv
        have hv' : ∀ i ∈ p.1, i ∈ (ownOf c scope).map (·.2) := fun i hi => by
          have := List.all_eq_true.mp hv i hi
          simpa using this
        have key := lc_one R m (elt := elt) (iter := iter) h3 hp
        split
        · rename_i hh
          exact EV.lcH (m.hots hh) m.nd (R.E m iter) hb hv' (fun s H C cl fp z => key s H C cl fp fun _ => z) (notSet_ok h2)
        · rename_i hh
          have hf : c.hot = true → ∀ {q : Prop}, q := fun z => absurd z hh
          exact EV.lc (m.cool (by cases q : c.hot <;> first | rfl | exact absurd q hh)).1 m.nd (R.I m tg iter) hb hv' (fun s H C cl fp => (key s H C cl fp fun z => hf z).1) (fun s H C cl fp => (key s H C cl fp fun z => hf z).2.1) (fun s H C cl fp => (key s H C cl fp fun z => hf z).2.2) (notSet_ok h2)
      · exact EV.bad _
    · exact EV.bad _
  · exact EV.bad _
theorem setLc_ok (R : CpOk r) (m : Mt c T W X) (hh : c.hot = false) {elt tg iter : Expr} {ifs : List Expr} {scope : Scope} {pos py spos : Pos} {x : Str} {i : Nat} (hi : X.N[i]? = some x) (hl : c.sc.names.lookup x = some .local)
    (hsw : swapsWith (.ListComp elt [⟨tg, iter, ifs, 0⟩] scope pos) (some (.Name x py)) spos.line X.env = pure true) : ES T W X (.Assign [.Name x py] (.ListComp elt [⟨tg, iter, ifs, 0⟩] scope pos) spos) (sAsg (lcE r c elt tg iter ifs scope) (gNm i)) := by
  have bad : ∀ g, ES T W X (.Assign [.Name x py] (.ListComp elt [⟨tg, iter, ifs, 0⟩] scope pos) spos) (sAsg dBad g) := fun g => ⟨tNever, ps_never, fun _ _ _ _ _ _ h => h⟩
  unfold lcE
  split
  · rename_i h
    obtain ⟨h1, h2, h3⟩ := h
    have hb : BlkOk X.N X.env.scope scope (ownOf c scope) := by rw [m.N, m.sc]; exact blkOk_by h1
    split
    · rename_i p hp
      split
      · rename_i hv
        have hv' : ∀ i ∈ p.1, i ∈ (ownOf c scope).map (·.2) := fun i hi => by
          have := List.all_eq_true.mp hv i hi
          simpa using this
        have key := lc_one R m (elt := elt) (iter := iter) h3 hp
        have hf : c.hot = true → ∀ {q : Prop}, q := fun z => by rw [hh] at z; cases z
        rw [if_neg (by rw [hh]; exact Bool.false_ne_true)]
        exact ES.setLc (m.cool hh).1 m.nd hi (by rw [m.sc]; exact hl) hsw (R.I m tg iter) hb hv' (fun s H C cl fp => (key s H C cl fp fun z => hf z).1) (fun s H C cl fp => (key s H C cl fp fun z => hf z).2.1) (fun s H C cl fp => (key s H C cl fp fun z => hf z).2.2) (notSet_ok h2)
      · exact bad _
    · exact bad _
  · exact bad _
theorem stepE_ok (R : CpOk r) (m : Mt c T W X) (e : Expr) : EV T W X e (stepE r c e) := by
  unfold stepE
  split
  · rename_i k j pos
    split
    · exact EV.int
    · exact EV.bl
    · exact EV.non
    · exact EV.str
    · exact EV.bad _
  · exact name_ok m _ _
  · exact bin_ok _ _ (R.E m _) (R.E m _)
  · split
    · exact EV.not (R.E m _)
    · exact neg_ok (R.E m _)
    · exact EV.bad _
  · split
    · exact andE_ok (R.E m) _ _
    · exact orE_ok (R.E m) _ _
  · split
    · split
      · rename_i hb
        split
        · rename_i f hf
          obtain ⟨rr, h1, h2⟩ := cmpO_ok (T := T) m.un hf
          exact EV.cmp h1 h2 (R.E m _) (R.E m _) (nomark_ok hb)
        · exact EV.bad _
      · exact EV.bad _
    · split
      · rename_i hb
        split
        · rename_i f f' hf hf'
          obtain ⟨r1, h1, h2⟩ := cmpO_ok (T := T) m.un hf
          obtain ⟨r2, h3, h4⟩ := cmpO_ok (T := T) m.un hf'
          exact EV.chain h1 h2 h3 h4 (R.E m _) (R.E m _) (R.E m _) (nomark_ok hb)
        · exact EV.bad _
      · exact EV.bad _
    · split
      · rename_i hb
        split
        · rename_i f f' f2 hf hf' hf2
          obtain ⟨r1, h1, h2⟩ := cmpO_ok (T := T) m.un hf
          obtain ⟨r2, h3, h4⟩ := cmpO_ok (T := T) m.un hf'
          obtain ⟨r3, h5, h6⟩ := cmpO_ok (T := T) m.un hf2
          exact EV.chain3 h1 h2 h3 h4 h5 h6 (R.E m _) (R.E m _) (R.E m _) (R.E m _) (nomark_ok hb)
        · exact EV.bad _
      · exact EV.bad _
    · exact EV.bad _
  · exact EV.ite (R.B m _) (R.E m _) (R.E m _)
  · exact EV.tup (R.A m _)
  · exact EV.lst (R.A m _)
  · split
    · split
      · exact EV.sl (R.E m _) (part_ok (R.E m) _) (part_ok (R.E m) _)
      · split
        · exact EV.rev (R.E m _) (R.E m _)
        · exact EV.bad _
    · rename_i hn
      refine EV.ix m.un (R.E m _) (R.E m _) (plainX_ok ?_)
      unfold plainX
      split
      · exact (hn _ _ _ _ rfl).elim
      · rfl
  · split
    · split
      · rename_i l hl
        exact lam_ok R m hl
      · split
        · rename_i hs
          exact call_ok m (R.A m _) hs
        · exact EV.bad _
    · split
      · rename_i hs
        split
        · rename_i hx
          subst hx
          split
          · rename_i f
            have hs' := hs.1
            rw [List.all_cons, Bool.and_eq_true] at hs'
            exact EV.dget m.un (R.E m _) (R.A m _) (plainB_ok hs.2.1) (nst_few hs.1 hs.2.2.2) hs.2.2.1 (nst_cons hs'.1) (nst_any hs'.2)
          · exact EV.bad _
        · exact meth_ok (R.E m _) (R.A m _) hs.1 hs.2.1 hs.2.2.1 hs.2.2.2
      · exact EV.bad _
    · exact EV.bad _
  · split
    · split
      · rename_i h0
        subst h0
        exact lc_ok R m
      · exact EV.bad _
    · exact EV.bad _
  · split
    · exact EV.dct
    · exact EV.bad _
  · exact EV.bad _
theorem stepB_ok (R : CpOk r) (m : Mt c T W X) (e : Expr) : ET T W X e (stepB r c e) := by
  unfold stepB
  split
  · exact ET.not (R.B m _)
  · split
    · exact (andT_ok (R.B m) _ _).t
    · exact (orT_ok (R.B m) _ _).t
  · split
    · split
      · rename_i hb
        split
        · rename_i f hf
          obtain ⟨rr, h1, h2⟩ := cmpO_ok (T := T) m.un hf
          exact ET.cmp h1 h2 (R.E m _) (R.E m _) (nomark_ok hb)
        · exact ET.bad _
      · exact ET.bad _
    · split
      · rename_i hb
        split
        · rename_i f f' hf hf'
          obtain ⟨r1, h1, h2⟩ := cmpO_ok (T := T) m.un hf
          obtain ⟨r2, h3, h4⟩ := cmpO_ok (T := T) m.un hf'
          exact ET.chain h1 h2 h3 h4 (R.E m _) (R.E m _) (R.E m _) (nomark_ok hb)
        · exact ET.bad _
      · exact ET.bad _
    · split
      · rename_i hb
        split
        · rename_i f f' f2 hf hf' hf2
          obtain ⟨r1, h1, h2⟩ := cmpO_ok (T := T) m.un hf
          obtain ⟨r2, h3, h4⟩ := cmpO_ok (T := T) m.un hf'
          obtain ⟨r3, h5, h6⟩ := cmpO_ok (T := T) m.un hf2
          exact ET.chain3 h1 h2 h3 h4 h5 h6 (R.E m _) (R.E m _) (R.E m _) (R.E m _) (nomark_ok hb)
        · exact ET.bad _
      · exact ET.bad _
    · exact ET.bad _
  · split
    · rename_i hp
      exact ET.val (R.E m _) (plainT_ok hp)
    · exact ET.bad _
theorem stepA_ok (R : CpOk r) (m : Mt c T W X) (es : List Expr) : EA T W X es (stepA r c es) := by
  unfold stepA
  split
  · exact EA.nil
  · split
    · rename_i h
      exact EA.cons (R.E m _) (R.A m _) (nst_cons h)
    · exact EA.bad _
theorem stepI_ok (R : CpOk r) (m : Mt c T W X) (tg e : Expr) : EI T W X tg e (stepI r c (isTup tg) e) := by
  have dflt : EI T W X tg e (dSeqSrc (r.E c e)) := EI.seq (R.E m e)
  unfold stepI
  split
  · exact EI.bad _ _
  split
  · rename_i x p args kws pos
    split
    · split
      · rename_i h
        obtain ⟨hok, hl⟩ := h
        obtain ⟨h1, h2, h3⟩ := okName_ok hok
        have hg := m.gx hl
        split
        · rename_i e1
          have hm : X.mg x = none := m.gl x _ e1
          split
          · rename_i a
            split
            · rename_i ha
              split
              · rename_i hx
                subst hx
                exact EI.rng1 hg hm (R.A m _) (nst_cons ha)
              · split
                · rename_i hx
                  obtain ⟨hx, ht⟩ := hx
                  subst hx
                  cases tg <;> first | (exact EI.enumL hg hm (R.A m _) (nst_cons ha)) | cases ht
                · exact dflt
            · exact EI.bad _ _
          · rename_i a b
            split
            · rename_i ha
              have hb1 : starEach [b] X.env = [(false, eval b X.env)] := nst_cons ha.2
              split
              · rename_i hx
                subst hx
                exact EI.rng2 hg hm (R.A m _) (by rw [nst_cons ha.1, hb1]) hb1
              · split
                · rename_i hx
                  obtain ⟨hx, ht⟩ := hx
                  subst hx
                  cases tg <;> first | (exact EI.zip hg hm (R.A m _) (nst_cons ha.1) (by rw [hb1]; rfl)) | cases ht
                · exact dflt
            · exact EI.bad _ _
          · exact dflt
        · exact dflt
      · exact dflt
    · exact dflt
  · exact dflt
theorem asg_ok (R : CpOk r) (m : Mt c T W X) (tg e : Expr) (pos : Pos) : ES T W X (.Assign [tg] e pos) (asgS r c tg e pos) := by
  unfold asgS
  split
  · rename_i x p
    split
    · rename_i q hq
      obtain ⟨a1, a2, a3, a4, a5⟩ := nmG_ok m hq p
      split
      · rename_i elt gens scope lpos
        split
        · rename_i h
          obtain ⟨hh, h1, h2, h3, h4⟩ := h
          split
          · split
            · rename_i h0
              subst h0
              exact setLc_ok R m hh a1 h1 (sw_true (by rw [m.sc]; exact h2) (by rw [m.sc]; exact h1) h3 h4)
            · exact ES.bad
          · exact ES.bad
        · exact ES.bad
      · split
        · rename_i hc
          exact ES.set m.nd a1 a2 a3 (R.E m e) (notComp_ok hc)
        · exact ES.bad
    · exact ES.bad
  · rename_i ts k p
    split
    · rename_i hc
      split
      · rename_i vs k2 p2
        split
        · rename_i h
          split
          · rename_i q hq
            exact ES.asg (R.E m _) (tgG_ok m hq) (notComp_sole hc) (swNone_ok (by rw [m.sc]; exact h.1)) rfl
          · exact ES.bad
        · split
          · rename_i x px y py a b hnn
            split
            · rename_i i j e1 e2
              split
              · rename_i h
                obtain ⟨h1, h2, h3⟩ := h
                have hsp : swPair X.env.scope x y px py a b = true := by rw [m.sc]; exact h3
                have hsp' := h3
                unfold swPair at hsp'
                simp only [Bool.and_eq_true, decide_eq_true_eq] at hsp'
                refine ES.par (m.cool h1).1 m.nd (m.idx e1) (m.idx e2) h2 (by rw [m.sc]; exact hsp'.1.1.1.1.1.1.1.2) (by rw [m.sc]; exact hsp'.1.1.1.1.1.1.2) (R.A m _) (swPair_ok hsp) (notComp_sole hc)
              · exact ES.bad
            · exact ES.bad
          · rename_i x px y py z pz a b d hnn
            split
            · rename_i i j l e1 e2 e3
              split
              · rename_i h
                obtain ⟨h1, h2, h3, h4, h5⟩ := h
                have hsp : swTrip X.env.scope x y z px py pz a b d = true := by rw [m.sc]; exact h5
                have hsp' := h5
                unfold swTrip at hsp'
                simp only [Bool.and_eq_true, decide_eq_true_eq] at hsp'
                obtain ⟨⟨⟨⟨⟨⟨⟨⟨⟨⟨⟨⟨⟨k0, k1⟩, k2⟩, k3⟩, _⟩, _⟩, _⟩, _⟩, _⟩, _⟩, _⟩, _⟩, _⟩, _⟩ := hsp'
                exact ES.par3 (m.cool h1).1 m.nd (m.idx e1) (m.idx e2) (m.idx e3) h2 h3 h4 (by rw [m.sc]; exact k1) (by rw [m.sc]; exact k2) (by rw [m.sc]; exact k3) (R.A m _) (swTrip_ok hsp) (notComp_sole hc)
              · exact ES.bad
            · exact ES.bad
          · exact ES.bad
      · split
        · rename_i hn
          split
          · rename_i q hq
            exact ES.asg (R.E m _) (tgG_ok m hq) (notComp_sole hc) (noswap_v hn) rfl
          · exact ES.bad
        · exact ES.bad
    · exact ES.bad
  · split
    · rename_i h
      exact ES.asg (R.E m _) (EG.sub m.un (R.E m _) (R.E m _) (asg_sub h.2)) (notComp_sole h.1) (noswap_t rfl) rfl
    · exact ES.bad
  · exact ES.bad
theorem stepS_ok (R : CpOk r) (m : Mt c T W X) (s : Stmt) : ES T W X s (stepS r c s) := by
  unfold stepS
  split
  · exact ES.pass
  · exact ES.brk
  · exact ES.cnt
  · split
    · exact ES.ret (R.E m _)
    · exact ES.retN
  · split
    · rename_i h
      exact ES.expr (R.E m _) (notComp_ok h)
    · exact ES.bad
  · exact ES.ite (R.B m _) (R.Ss m _) (R.Ss m _)
  · split
    · exact asg_ok R m _ _ _
    · exact ES.bad
  · split
    · split
      · rename_i h
        split
        · rename_i p hp
          have hc := m.cool h.1
          exact ES.for hc.2.2.2 hc.1 (R.I m _ _) (tgG_ok m hp) (R.Ss m _) (notSet_ok h.2)
        · exact ES.bad
      · exact ES.bad
    · exact ES.bad
  · split
    · split
      · rename_i h
        exact ES.while (m.cool h).2.2.2 (R.B m _) (R.Ss m _)
      · exact ES.bad
    · exact ES.bad
  · split
    · split
      · rename_i h
        exact ES.augS (R.E m _) (R.E m _) (R.E m _) (aug_sub h)
      · exact ES.bad
    · exact ES.bad
  · split
    · split
      · split
        · rename_i h
          obtain ⟨h0, hok, hl⟩ := h
          obtain ⟨h1, h2, h3⟩ := okName_ok hok
          split
          · rename_i e1
            obtain ⟨C, hm, q1, q2, q3, q4⟩ := m.gl _ _ e1
            have hc := m.cool h0
            refine ⟨_, L2N.ps_raise hc.1 hc.2.2.1 (L2N.pmk_own PySem.F.excBase_ValueError q1 hm q2 (raises_own q3 q4) (m.gx hl) h1), fun w δ σ E o s hp => ?_⟩
            exact hp w σ _ _ rfl (.refl _) o s ⟨C, hm, rfl, .inl ⟨rfl, rfl⟩⟩
          · exact ES.bad
        · exact ES.bad
      · exact ES.bad
    · exact ES.bad
  · exact ES.bad
theorem stepSs_ok (R : CpOk r) (m : Mt c T W X) (ss : List Stmt) : ESs T W X ss (stepSs r c ss) := by
  unfold stepSs
  split
  · exact ESs.nil
  · exact ESs.cons (stepS_ok R m _) (R.Ss m _)
end
theorem step_ok {r : Cp} (R : CpOk r) : CpOk (step r) := ⟨fun m e => stepE_ok R m e, fun m e => stepB_ok R m e, fun m e => stepA_ok R m e, fun m tg e => stepI_ok R m tg e, fun m ss => stepSs_ok R m ss⟩
theorem cp_ok : ∀ n, CpOk (cp n)
  | 0 => cpBad_ok
  | n + 1 => step_ok (cp_ok n)
end Pd
namespace Pd
open PySem PySem.Spec PyProof.Rows L2
/-! ### what is left behind a call -/
mutual
def belowD (n : Nat) : D → Bool
  | .ref k => decide (k < n)
  | .tup l => belowL n l
  | _ => true
def belowL (n : Nat) : List D → Bool
  | [] => true
  | d :: l => belowD n d && belowL n l
end
def belowF (n : Nat) : List (Str × D) → Bool
  | [] => true
  | p :: l => belowD n p.2 && belowF n l
def belowK (n : Nat) : List (D × D) → Bool
  | [] => true
  | p :: l => belowD n p.1 && (belowD n p.2 && belowK n l)
def belowM (n : Nat) : MO → Bool
  | .lst l => belowL n l
  | .fz l => belowL n l
  | .ins _ fs => belowF n fs
  | .dct kvs => belowK n kvs
  | .any => true
/-- the old part of M' is M's, but for things that name old things alone -/
def OldOk (M M' : Mem) : Prop := ∀ i m, i < M.length → M'[i]? = some m → M[i]? = some m ∨ belowM M.length m = true
open Classical in
noncomputable def gcV (M : Mem) (d : D) (M' : Mem) : Res D := if OldOk M M' then (if belowD M.length d = true then .ok d (M'.take M.length) else (match d with
    | .ref k => (match M'[k]? with
      | some (.lst l) => if M.length ≤ k ∧ belowL M.length l = true then .ok (.ref M.length) (M'.take M.length ++ [.lst l]) else .ok d M'
      | _ => .ok d M')
    | _ => .ok d M')) else .ok d M'
open Classical in
noncomputable def gcE (M : Mem) (x : Exn) (M' : Mem) : Res D := if OldOk M M' ∧ belowF M.length x.fs = true then .exc x (M'.take M.length) else .exc x M'
noncomputable def gcR (M : Mem) (r : Res D) : Res D := match r with
  | .ok d M' => gcV M d M'
  | .exc x M' => gcE M x M'
  | .bad => .bad
def toR : ResS → Res D
  | .nx _ M => .ok .non M
  | .rt d M => .ok d M
  | .exc x _ M => .exc x M
  | _ => .bad
noncomputable def fnOf (n : Nat) (den : DS) : List D → Mem → Res D := fun l M => gcR M (toR (den (l.map some ++ List.replicate (n - l.length) none) M))
section
variable {R : RC} {w w' : Wd}
mutual
theorem below_mono {n m : Nat} (h : n ≤ m) : ∀ d, belowD n d = true → belowD m d = true
  | .ref k, e => by
    unfold belowD at e ⊢
    have := of_decide_eq_true e
    exact decide_eq_true (by omega)
  | .tup l, e => by unfold belowD at e ⊢; exact belowL_mono h l e
  | .non, _ => rfl
  | .bl _, _ => rfl
  | .int _, _ => rfl
  | .str _, _ => rfl
  | .gl _, _ => rfl
  | .ty _, _ => rfl
  | .exn _ _, _ => rfl
theorem belowL_mono {n m : Nat} (h : n ≤ m) : ∀ l, belowL n l = true → belowL m l = true
  | [], _ => rfl
  | d :: l, e => by
    unfold belowL at e ⊢
    rw [Bool.and_eq_true] at e ⊢
    exact ⟨below_mono h d e.1, belowL_mono h l e.2⟩
end
/-- a world with the same heap, its lowest n things at the same places -/
structure Sub (n : Nat) (w w' : Wd) : Prop where
  len : n ≤ w'.M.length
  ρ : ∀ i, i < n → w'.ρ i = w.ρ i
  H : w'.H = w.H
mutual
theorem RelD.sub {n : Nat} (s : Sub n w w') : ∀ (d : D) (v : V), belowD n d = true → RelD R w d v → RelD R w' d v
  | .non, _, _, r => by unfold RelD at r ⊢; exact r
  | .bl _, _, _, r => by unfold RelD at r ⊢; exact r
  | .int _, _, _, r => by unfold RelD at r ⊢; exact r
  | .str _, _, _, r => by unfold RelD at r ⊢; exact r
  | .gl _, _, _, r => by unfold RelD at r ⊢; exact r
  | .ty _, _, _, r => by unfold RelD at r ⊢; exact r
  | .exn _ _, _, _, r => by unfold RelD at r ⊢; exact r
  | .ref k, _, b, r => by
    unfold RelD at r ⊢
    unfold belowD at b
    have := of_decide_eq_true b
    exact ⟨Nat.lt_of_lt_of_le this s.len, by rw [s.ρ k this]; exact r.2⟩
  | .tup l, _, b, r => by
    unfold RelD at r ⊢
    unfold belowD at b
    obtain ⟨a, xs, e, q, t⟩ := r
    exact ⟨a, xs, e, by rw [s.H]; exact q, RelL.sub s l xs b t⟩
theorem RelL.sub {n : Nat} (s : Sub n w w') : ∀ (l : List D) (xs : List V), belowL n l = true → RelL R w l xs → RelL R w' l xs
  | [], _, _, r => by unfold RelL at r ⊢; exact r
  | d :: l, _, b, r => by
    unfold RelL at r ⊢
    unfold belowL at b
    rw [Bool.and_eq_true] at b
    obtain ⟨x, q, e, h1, h2⟩ := r
    exact ⟨x, q, e, RelD.sub s d x b.1 h1, RelL.sub s l q b.2 h2⟩
end
theorem RelF.sub {n : Nat} (s : Sub n w w') : ∀ (l : List (Str × D)) (xs : List (Str × V)), belowF n l = true → RelF R w l xs → RelF R w' l xs
  | [], _, _, r => r
  | p :: l, _, b, r => by
    unfold belowF at b
    rw [Bool.and_eq_true] at b
    obtain ⟨q, r', e, a, h1, h2⟩ := r
    exact ⟨q, r', e, a, RelD.sub s _ _ b.1 h1, RelF.sub s l r' b.2 h2⟩
theorem RelK.sub {n : Nat} (s : Sub n w w') : ∀ (l : List (D × D)) (xs : List (NestedKey × Addr × V)), belowK n l = true → RelK R w l xs → RelK R w' l xs
  | [], _, _, r => r
  | p :: l, _, b, r => by
    unfold belowK at b
    rw [Bool.and_eq_true, Bool.and_eq_true] at b
    obtain ⟨q, r', e, a, a2, h1, h2, h3⟩ := r
    exact ⟨q, r', e, a, a2, RelD.sub s _ _ b.1 h1, RelD.sub s _ _ b.2.1 h2, RelK.sub s l r' b.2.2 h3⟩
theorem RelM.sub {n : Nat} (s : Sub n w w') : ∀ (m : MO) (o : HO), belowM n m = true → RelM R w m o → RelM R w' m o
  | .lst l, _, b, ⟨xs, e, r⟩ => ⟨xs, e, RelL.sub s l xs b r⟩
  | .fz l, _, b, ⟨ob, xs, e, r⟩ => ⟨ob, xs, e, RelL.sub s l xs b r⟩
  | .ins C fs, _, b, ⟨Ca, dx, fv, g, e, r⟩ => ⟨Ca, dx, fv, g, e, RelF.sub s fs fv b r⟩
  | .dct kvs, _, b, ⟨a, xs, e, r⟩ => ⟨a, xs, e, RelK.sub s kvs xs b r⟩
  | .any, _, _, h => h
mutual
theorem RelD.below : ∀ (d : D) (v : V), RelD R w d v → belowD w.M.length d = true
  | .non, _, _ => rfl
  | .bl _, _, _ => rfl
  | .int _, _, _ => rfl
  | .str _, _, _ => rfl
  | .gl _, _, _ => rfl
  | .ty _, _, _ => rfl
  | .exn _ _, _, _ => rfl
  | .ref k, _, r => by
    unfold RelD at r
    unfold belowD
    exact decide_eq_true r.1
  | .tup l, _, r => by
    unfold RelD at r
    unfold belowD
    obtain ⟨a, xs, e, q, t⟩ := r
    exact RelL.below l xs t
theorem RelL.below : ∀ (l : List D) (xs : List V), RelL R w l xs → belowL w.M.length l = true
  | [], _, _ => rfl
  | d :: l, _, r => by
    unfold RelL at r
    unfold belowL
    rw [Bool.and_eq_true]
    obtain ⟨x, q, e, h1, h2⟩ := r
    exact ⟨RelD.below d x h1, RelL.below l q h2⟩
end
theorem RelF.below : ∀ (l : List (Str × D)) (xs : List (Str × V)), RelF R w l xs → belowF w.M.length l = true
  | [], _, _ => rfl
  | p :: l, _, r => by
    unfold belowF
    rw [Bool.and_eq_true]
    obtain ⟨q, r', e, a, h1, h2⟩ := r
    exact ⟨RelD.below _ _ h1, RelF.below l r' h2⟩
theorem RelK.below : ∀ (l : List (D × D)) (xs : List (NestedKey × Addr × V)), RelK R w l xs → belowK w.M.length l = true
  | [], _, _ => rfl
  | p :: l, _, r => by
    unfold belowK
    rw [Bool.and_eq_true, Bool.and_eq_true]
    obtain ⟨q, r', e, a, a2, h1, h2, h3⟩ := r
    exact ⟨RelD.below _ _ h1, RelD.below _ _ h2, RelK.below l r' h3⟩
theorem RelM.below : ∀ (m : MO) (o : HO), RelM R w m o → belowM w.M.length m = true
  | .lst l, _, ⟨xs, e, r⟩ => RelL.below l xs r
  | .fz l, _, ⟨ob, xs, e, r⟩ => RelL.below l xs r
  | .ins C fs, _, ⟨Ca, dx, fv, g, e, r⟩ => RelF.below fs fv r
  | .dct kvs, _, ⟨a, xs, e, r⟩ => RelK.below kvs xs r
  | .any, _, _ => rfl
/-- the old part alone -/
theorem gc_take (o : w.Ok R) (l : w.le w') (o' : w'.Ok R) (h : OldOk w.M w'.M) : ∃ w2 : Wd, w2.M = w'.M.take w.M.length ∧ w2.H = w'.H ∧ w.le w2 ∧ w2.Ok R ∧ Sub w.M.length w' w2 := by
  have hl : (w'.M.take w.M.length).length = w.M.length := by rw [List.length_take]; have := l.len; omega
  have s : Sub w.M.length w' ⟨w'.ρ, w'.M.take w.M.length, w'.H, w'.cp⟩ := ⟨by show _ ≤ (w'.M.take w.M.length).length; omega, fun _ _ => rfl, rfl⟩
  refine ⟨⟨w'.ρ, w'.M.take w.M.length, w'.H, w'.cp⟩, rfl, rfl, ⟨by show _ ≤ (w'.M.take w.M.length).length; omega, l.ρ, l.fr⟩, ⟨fun n m e => ?_, fun i j hi hj e => ?_, o'.cod, fun n c q hn hc => ?_, o'.tab⟩, s⟩
  · have e' : (w'.M.take w.M.length)[n]? = some m := e
    have hn : n < w.M.length := by have := (List.getElem?_eq_some_iff.mp e').1; omega
    rw [List.getElem?_take_of_lt hn] at e'
    obtain ⟨u, h1, r, nt⟩ := o'.at_ n m e'
    refine ⟨u, h1, RelM.sub s m u ?_ r, nt⟩
    rcases h n m hn e' with q | q
    · obtain ⟨u', _, r', _⟩ := o.at_ n m q
      exact r'.below
    · exact q
  · have hi' : i < (w'.M.take w.M.length).length := hi
    have hj' : j < (w'.M.take w.M.length).length := hj
    have := l.len
    exact o'.inj i j (by omega) (by omega) e
  · have hn' : n < (w'.M.take w.M.length).length := hn
    have := l.len
    exact o'.sep n c q (by omega) hc
/-- the old part and a new list -/
theorem gc_snoc (o : w.Ok R) (l : w.le w') (o' : w'.Ok R) (h : OldOk w.M w'.M) {k : Nat} {L : List D} (hk : w.M.length ≤ k) (hL : w'.M[k]? = some (.lst L)) (hb : belowL w.M.length L = true) :
    ∃ w2 : Wd, w2.M = w'.M.take w.M.length ++ [.lst L] ∧ w2.H = w'.H ∧ w.le w2 ∧ w2.Ok R ∧ w2.ρ w.M.length = w'.ρ k := by
  have hl : (w'.M.take w.M.length).length = w.M.length := by rw [List.length_take]; have := l.len; omega
  have hkl : k < w'.M.length := (List.getElem?_eq_some_iff.mp hL).1
  have lE : (w'.M.take w.M.length ++ [MO.lst L]).length = w.M.length + 1 := by rw [List.length_append, hl]; rfl
  obtain ⟨ρ2, self, old⟩ : ∃ ρ2 : Nat → Addr, ρ2 w.M.length = w'.ρ k ∧ ∀ i, i < w.M.length → ρ2 i = w'.ρ i := ⟨fun i => if i = w.M.length then w'.ρ k else w'.ρ i, if_pos rfl, fun i hi => if_neg (by omega)⟩
  have s : Sub w.M.length w' ⟨ρ2, w'.M.take w.M.length ++ [.lst L], w'.H, w'.cp⟩ := ⟨by show _ ≤ (w'.M.take w.M.length ++ [MO.lst L]).length; omega, old, rfl⟩
  refine ⟨⟨ρ2, w'.M.take w.M.length ++ [.lst L], w'.H, w'.cp⟩, rfl, rfl, ⟨by show _ ≤ (w'.M.take w.M.length ++ [MO.lst L]).length; omega, fun i hi => (old i hi).trans (l.ρ i hi), l.fr⟩, ⟨fun n m e => ?_, fun i j hi hj e => ?_, o'.cod, fun n c q hn hc => ?_, o'.tab⟩, self⟩
  · have e' : (w'.M.take w.M.length ++ [MO.lst L])[n]? = some m := e
    by_cases hn : n < w.M.length
    · rw [List.getElem?_append_left (by omega), List.getElem?_take_of_lt hn] at e'
      obtain ⟨u, h1, r, nt⟩ := o'.at_ n m e'
      refine ⟨u, by show w'.H (ρ2 n) = _; rw [old n hn]; exact h1, RelM.sub s m u ?_ r, nt⟩
      rcases h n m hn e' with q | q
      · obtain ⟨u', _, r', _⟩ := o.at_ n m q
        exact r'.below
      · exact q
    · have hn2 : n = w.M.length := by have := (List.getElem?_eq_some_iff.mp e').1; omega
      subst hn2
      rw [List.getElem?_append_right (by omega), hl, Nat.sub_self] at e'
      have em : MO.lst L = m := Option.some.inj e'
      subst em
      obtain ⟨u, h1, r, nt⟩ := o'.at_ k _ hL
      exact ⟨u, by show w'.H (ρ2 w.M.length) = _; rw [self]; exact h1, RelM.sub s _ u hb r, nt⟩
  · have hi' : i < (w'.M.take w.M.length ++ [MO.lst L]).length := hi
    have hj' : j < (w'.M.take w.M.length ++ [MO.lst L]).length := hj
    have e : ρ2 i = ρ2 j := e
    have := l.len
    by_cases a : i = w.M.length <;> by_cases b : j = w.M.length
    · omega
    · subst a
      rw [self, old j (by omega)] at e
      have := o'.inj k j hkl (by omega) e
      omega
    · subst b
      rw [self, old i (by omega)] at e
      have := o'.inj i k (by omega) hkl e
      omega
    · rw [old i (by omega), old j (by omega)] at e
      exact o'.inj i j (by omega) (by omega) e
  · have hn' : n < (w'.M.take w.M.length ++ [MO.lst L]).length := hn
    show ρ2 n ≠ c
    have := l.len
    by_cases a : n = w.M.length
    · subst a
      rw [self]
      exact o'.sep k c q hkl hc
    · rw [old n (by omega)]
      exact o'.sep n c q (by omega) hc
/-- from the cleared result back to the body's -/
theorem gc_post {W : WX} {σ : St} {Q : VK} {E : XK} (hW : ∀ c d σ H, E c d H → W c d σ H) (o : w.Ok R) : ∀ {r : ResS}, Post R (fun c d _ H' => E c d H') w σ (RelD R) Q (gcR w.M (toR r)) →
    PostS R W w { nx := fun _ H' => Q .non H', rt := Q } r
  | .nx δ M', h => fun w' σ' e l o' s => by
    subst e
    have h : Post R (fun c d _ H' => E c d H') w σ (RelD R) Q (gcV w.M .non w'.M) := h
    have hd : belowD w.M.length .non = true := rfl
    unfold gcV at h
    split at h
    · rename_i ho
      obtain ⟨w2, e2, eH, l2, o2, s2⟩ := gc_take o l o' ho
      have := h w2 .non e2 l2 o2 (by unfold RelD; rfl)
      rw [eH] at this
      exact this
    · exact h w' .non rfl l o' (by unfold RelD; rfl)
  | .rt d M', h => fun w' v e l o' r => by
    subst e
    have h : Post R (fun c d _ H' => E c d H') w σ (RelD R) Q (gcV w.M d w'.M) := h
    unfold gcV at h
    split at h
    · rename_i ho
      split at h
      · rename_i hd
        obtain ⟨w2, e2, eH, l2, o2, s2⟩ := gc_take o l o' ho
        have := h w2 v e2 l2 o2 (RelD.sub s2 d v hd r)
        rw [eH] at this
        exact this
      · split at h
        · rename_i k hk0
          split at h
          · rename_i L hL
            split at h
            · rename_i hk
              obtain ⟨w2, e2, eH, l2, o2, s2⟩ := gc_snoc o l o' ho hk.1 hL hk.2
              have := h w2 v e2 l2 o2 (by
                unfold RelD at r ⊢
                refine ⟨by rw [e2, List.length_append, List.length_take]; have := l.len; simp; omega, by rw [s2]; exact r.2⟩)
              rw [eH] at this
              exact this
            · exact h w' v rfl l o' r
          · exact h w' v rfl l o' r
        · exact h w' v rfl l o' r
    · exact h w' v rfl l o' r
  | .exc x δ M', h => fun w' σ' cls dx e l o' s r => by
    subst e
    have h : Post R (fun c d _ H' => E c d H') w σ (RelD R) Q (gcE w.M x w'.M) := h
    unfold gcE at h
    refine hW _ _ _ _ ?_
    split at h
    · rename_i ho
      obtain ⟨w2, e2, eH, l2, o2, s2⟩ := gc_take o l o' ho.1
      have := h w2 cls dx e2 l2 o2 (by
        obtain ⟨C, k1, k2, k3⟩ := r
        refine ⟨C, k1, k2, ?_⟩
        rcases k3 with k3 | ⟨k6, d, fv, k3, k4, k5⟩
        · exact .inl k3
        · exact .inr ⟨k6, d, fv, k3, by rw [eH]; exact k4, RelF.sub s2 _ _ ho.2 k5⟩)
      rw [eH] at this
      exact this
    · exact h w' cls dx rfl l o' r
  | .bk δ M', h => False.elim h
  | .ct δ M', h => False.elim h
  | .bad, h => False.elim h
end
/-! ### the rule for a def -/
theorem SRel.start {R : RC} {w : Wd} {N : List Str} {l : List D} {vs : List V} (r : RelL R w l vs) : SRel R w (l.map some ++ List.replicate (N.length - l.length) none) (L2.start N vs) := by
  have hl := r.length
  refine ⟨?_, fun i d e => ?_⟩
  · unfold L2.start
    rw [List.length_append, List.length_append, List.length_map, List.length_map, List.length_replicate, List.length_replicate, hl]
  · unfold L2.start
    by_cases hi : i < l.length
    · rw [List.getElem?_append_left (by rw [List.length_map]; exact hi), List.getElem?_map] at e
      rw [List.getElem?_append_left (by rw [List.length_map, hl]; exact hi), List.getElem?_map]
      cases c : l[i]? with
      | none => rw [c] at e; cases e
      | some d' =>
        rw [c] at e
        cases e
        obtain ⟨x, hx, rx⟩ := r.get c
        exact ⟨x, by rw [hx]; rfl, rx⟩
    · rw [List.getElem?_append_right (by rw [List.length_map]; omega), List.length_map, List.getElem?_replicate] at e
      split at e <;> cases e
section
variable {T : TB} {P : Program} {w : World} {K : PySem.W.Frag} {mg : Str → Option Value} {base : Heap} {x : Str} {params : Arguments} {body : List Stmt} {scope : Scope} {f : Addr} {fd : FuncData} {N ps : List Str} {lv n : Nat} {G : List (Str × GD)}
theorem fn_okF (F : FunD K x x params body scope [] [] f fd) (S : FnScope N ps scope) (hG : ∀ x g, G.lookup x = some g → GdOk T lv P w K mg base x g) {den : DS}
    (hden : (cp n).Ss ⟨N, scope, fun _ => true, false, lv, 0, 0, "", fun _ _ => none, G⟩ body = den) : FnOk P w K mg base (L2N.CX P w) (lv + 1) f fd ps (spOf ⟨K, mg, T, w⟩ ps.length (fnOf N.length den)) := by
  refine F.ok S (fun vs H Q E h => ?_) (fun cdv A outer s H vs Q E hr h => ?_)
  · obtain ⟨wd, l, _, _, r, hl, _⟩ := h
    rw [r.length, hl]
  · have m : Mt ⟨N, scope, fun _ => true, false, lv, 0, 0, "", fun _ _ => none, G⟩ T (fun c d _ H' => E c d H') (cxOf (L2N.CX P w) P w K mg base N x scope f cdv A outer s H E) :=
      ⟨rfl, S.nd, rfl, fun _ _ => rfl, by
        have := hr.un
        show (A.deeper (envOfC x scope s.heap.objs.size f cdv)).units + 65 < cLine
        omega, hG, fun _ => ⟨rfl, hr, L2N.takes_of rfl rfl rfl rfl, passes_of rfl⟩, (fun h => by cases h), (fun _ _ _ h => by cases h), fun h => by cases h⟩
    obtain ⟨t, ht, hq⟩ := (cp_ok n).Ss m body
    rw [hden] at hq
    refine ⟨t, ht, ?_⟩
    obtain ⟨wd, l, rfl, o, r, hl, hp⟩ := h
    refine hq wd _ _ _ o (SRel.start (N := N) r) (gc_post (σ := []) (fun _ _ _ _ h => h) o hp)
theorem fn_ok (F : FunD K x x params body scope [] [] f fd) (S : FnScope N ps scope) (hG : ∀ x g, G.lookup x = some g → GdOk T lv P w K mg base x g) (hg : mg x = some (.ref f)) {den : DS}
    (hden : (cp n).Ss ⟨N, scope, fun _ => true, false, lv, 0, 0, "", fun _ _ => none, G⟩ body = den)
    (hbind : ∀ (kV doc pm : Value) (an : Option Addr) (cdv ct : Value) (us : List Value), us.length = ps.length → bindArgs (PySem.W.fnOf x x params body scope .none kV doc pm an cdv ct) ⟨us, []⟩ = pure (ps.zip us)) :
    GdOk T (lv + 1) P w K mg base x (.fn ps.length (fnOf N.length den)) := ⟨f, fd, lv + 1, ps, Nat.le_refl _, hg, fn_okF F S hG hden, F.kp, F.bindsN hbind⟩
/-- a def that makes lambdas -/
theorem fn_okLF {cc Pt : Addr} (F : FunD K x x params body scope [] [] f fd) (S : FnScope N ps scope) (hG : ∀ x g, G.lookup x = some g → GdOk T lv P w K mg base x g) {den : DS}
    (hcode : fd.code = .ref cc) (TBx : LamX.TabB base mg cc Pt) (hmT : (Pt, x ++ ".<locals>." ++ "<lambda>") ∈ T.tabs) (hu : ∀ p ∈ T.tabs, p.1 = Pt → p.2 = x ++ ".<locals>." ++ "<lambda>")
    (hden : (cp n).Ss ⟨N, scope, fun _ => true, false, lv, 2, 0, "", fun _ _ => none, G⟩ body = den) : FnOk P w K mg base (L2N.CX P w) (lv + 3) f fd ps (spOf ⟨K, mg, T, w⟩ ps.length (fnOf N.length den)) := by
  obtain ⟨oc, od, dV, kV, doc, pm, an, cdv, ct, osl, rfl, lk, hcd, _, _⟩ := F.ex
  refine fn_of lk hcd S (fun vs H Q E h => ?_) (fun A outer s H vs Q E hr h => ?_)
  · obtain ⟨wd, l, _, _, r, hl, _⟩ := h
    rw [r.length, hl]
  · have m : Mt ⟨N, scope, fun _ => true, false, lv, 2, 0, "", fun _ _ => none, G⟩ T (fun c d _ H' => E c d H') (cxOf (L2N.CX P w) P w K mg base N x scope f cdv A outer s H E) :=
      ⟨rfl, S.nd, rfl, fun _ _ => rfl, by
        have := hr.un
        show (A.deeper (envOfC x scope s.heap.objs.size f cdv)).units + 65 < cLine
        omega, hG, fun _ => ⟨rfl, hr, L2N.takes_of rfl rfl rfl rfl, passes_of rfl⟩, (fun h => by cases h), (fun _ _ _ h => by cases h), fun h => ⟨cc, Pt, hcode, TBx, hmT, hu⟩⟩
    obtain ⟨t, ht, hq⟩ := (cp_ok n).Ss m body
    rw [hden] at hq
    refine ⟨t, ht, ?_⟩
    obtain ⟨wd, l, rfl, o, r, hl, hp⟩ := h
    refine hq wd _ _ _ o (SRel.start (N := N) r) (gc_post (σ := []) (fun _ _ _ _ h => h) o hp)
theorem fn_okL {cc Pt : Addr} (F : FunD K x x params body scope [] [] f fd) (S : FnScope N ps scope) (hG : ∀ x g, G.lookup x = some g → GdOk T lv P w K mg base x g) (hg : mg x = some (.ref f)) {den : DS}
    (hcode : fd.code = .ref cc) (TBx : LamX.TabB base mg cc Pt) (hmT : (Pt, x ++ ".<locals>." ++ "<lambda>") ∈ T.tabs) (hu : ∀ p ∈ T.tabs, p.1 = Pt → p.2 = x ++ ".<locals>." ++ "<lambda>")
    (hden : (cp n).Ss ⟨N, scope, fun _ => true, false, lv, 2, 0, "", fun _ _ => none, G⟩ body = den)
    (hbind : ∀ (kV doc pm : Value) (an : Option Addr) (cdv ct : Value) (us : List Value), us.length = ps.length → bindArgs (PySem.W.fnOf x x params body scope .none kV doc pm an cdv ct) ⟨us, []⟩ = pure (ps.zip us)) :
    GdOk T (lv + 3) P w K mg base x (.fn ps.length (fnOf N.length den)) := ⟨f, fd, lv + 3, ps, Nat.le_refl _, hg, fn_okLF F S hG hcode TBx hmT hu hden, F.kp, F.bindsN hbind⟩
end
end Pd
namespace Pd
open PySem PySem.Spec PyProof.Rows L2
/-! ### a def that tells of the exception it is given, called in an except suite -/
def ErrOk (T : TB) (lv : Nat) (P : Program) (w : World) (K : PySem.W.Frag) (mg : Str → Option Value) (base : Heap) (x : Str) (κ : Str → Mem → Res D) : Prop :=
  ∃ (f : Addr) (fd : FuncData) (k : Nat) (a : Str), k ≤ lv ∧ mg x = some (.ref f) ∧ PySem.W.keepIn K (.ref f) = true ∧ Binds K fd [a] [] ∧
    ∀ (A : Around) (outer : List Env) (s : Shared) (wd : Wd) (e : Addr) (o : Obj) (cn : Str) (C : Addr) (args : Args) (Q : VK) (E : XK), L2H.RoomH k A → L2H.Hot1 A (e, o) → L2H.PinOk outer wd.H s (e, o) → Env0 P w K mg base A outer s wd.H →
      BindsTo s fd args [(a, .ref e)] → mg cn = some (.ref C) → o.cls = .ref C → o.dict = none → ExcC K C → wd.Ok ⟨K, mg, T, w⟩ → Post ⟨K, mg, T, w⟩ (fun _ _ _ _ => False) wd [] (RelD ⟨K, mg, T, w⟩) Q (κ cn wd.M) →
      codeAny (model P w) A (.call (.ref f) args) (CR (L2N.CX P w) outer P w wd.H s Q E) s
section
variable {T : TB} {P : Program} {w : World} {K : PySem.W.Frag} {mg : Str → Option Value} {base : Heap} {x a : Str} {params : Arguments} {body : List Stmt} {scope : Scope} {f : Addr} {fd : FuncData} {N : List Str} {lv n : Nat} {G : List (Str × GD)} {isx : Str → Str → Option Bool}
theorem err_ok (F : FunD K x x params body scope [] [] f fd) (S : FnScope N [a] scope) (hG : ∀ x g, G.lookup x = some g → GdOk T lv P w K mg base x g) (hg : mg x = some (.ref f))
    (hisx : ∀ x y b, isx x y = some b → ∃ D, mg y = some (.ref D) ∧ ∀ C, mg x = some (.ref C) → PySem.W.kitOne K (.ref C) (.ref D) = some b)
    {den : Addr → Str → DS} {κ : Str → Mem → Res D} (hden : ∀ e cn, (cp n).Ss ⟨N, scope, fun _ => true, true, lv, 0, e, cn, isx, G⟩ body = den e cn) (hκ : ∀ e cn M, κ cn M ≠ .bad → fnOf N.length (den e cn) [.exn e cn] M = κ cn M)
    (hbind : ∀ (kV doc pm : Value) (an : Option Addr) (cdv ct : Value) (us : List Value), us.length = [a].length → bindArgs (PySem.W.fnOf x x params body scope .none kV doc pm an cdv ct) ⟨us, []⟩ = pure ([a].zip us)) :
    ErrOk T (lv + 1) P w K mg base x κ := by
  have hB := F.bindsN hbind
  obtain ⟨oc, od, dV, kV, doc, pm, an, cdv, ct, osl, e0, lk, hcd, _, _⟩ := F.ex
  subst e0
  refine ⟨f, _, lv + 1, a, Nat.le_refl _, hg, F.kp, hB, fun A outer s wd e o cn C args Q E hr hot pin e0 hb hC oc od ec ok post => ?_⟩
  have kin : K.In s.heap := e0.mod.kin.keeps fun b o z => (e0.bs b o z).1
  have nolim : s.heap.NoLimit := e0.mod.nolimit.keeps fun b o z => (e0.bs b o z).1
  have kinds : ∀ y ∈ [a].zip [Value.ref e], scope.names.lookup y.1 = some .local ∨ (scope.names.lookup y.1 = some .cell ∧ ((cellsFrom (s.heap.objs.size + 1) scope.names []).lookup y.1).isSome = true) := fun ⟨n, v⟩ hy =>
    (S.par n (List.of_mem_zip hy).1).elim .inl fun q => .inr ⟨q, PySem.W.cellsFrom_some _ _ _ (.inl q)⟩
  apply codeAny_call_function hr.depth (kin _ _ lk) rfl S.co S.gen rfl (PySem.W.codeRec_of kin hcd)
  apply hb
  refine wpAny_newFunctionEnv_cells S.kind kinds fun env he s1 y => ?_
  subst he
  refine ⟨nolim.keeps y.toInCall.keep, codeAny_func ?_⟩
  have I := L2H.inv_startH (CX := L2N.CX P w) (E := E) (us := [.ref e]) (vs := [V.ref e]) S pin e0 rfl (.cons rfl .nil) y
  obtain ⟨hd, vs0, d0, c0⟩ := hot
  have hots : HotS e cn (L2H.cxH (L2N.CX P w) P w K mg base N x scope f cdv A outer s wd.H E (e, o)) := ⟨hd, ⟨o, vs0, C, pin.get, d0, c0, hC, oc, od, ec⟩, pin.free, pin.nofs, fun z => nomatch (show e ∈ ([] : List Addr) from z)⟩
  have m : Mt ⟨N, scope, fun _ => true, true, lv, 0, e, cn, isx, G⟩ T WF (L2H.cxH (L2N.CX P w) P w K mg base N x scope f cdv A outer s wd.H E (e, o)) :=
    ⟨rfl, S.nd, rfl, fun _ _ => rfl, by
      have := (hr.deeper (envOfC x scope s.heap.objs.size f cdv)).un
      show (A.deeper (envOfC x scope s.heap.objs.size f cdv)).units + 65 < cLine
      omega, hG, (fun h => by cases h), (fun _ => hots), hisx, fun h => by cases h⟩
  obtain ⟨t, ht, hq⟩ := (cp_ok n).Ss m body
  rw [hden] at hq
  have rl : RelL ⟨K, mg, T, w⟩ wd [D.exn e cn] [V.ref e] := .cons (by unfold RelD; rfl) .nil
  have nb : κ cn wd.M ≠ .bad := fun z => by rw [z] at post; exact post
  rw [← hκ e cn wd.M nb] at post
  have go := hq wd _ _ _ ok (SRel.start (N := N) rl) (gc_post (σ := []) (W := WF) (E := fun _ _ _ => False) (Q := Q) (fun _ _ _ _ h => h) ok post)
  refine wpAny_mono (ht.run [] s1 (L2.start N [V.ref e]) wd.H _ I go) (fun fl s' hs => ?_) fun e s' hs => hs
  cases fl with
  | ret u =>
    obtain ⟨v, σ', H', J, rv, q⟩ := hs
    exact ⟨v, H', J.os, J.bare, J.base, J.hok, rv, q⟩
  | next =>
    obtain ⟨σ', H', J, q⟩ := hs
    exact ⟨V.non, H', J.os, J.bare, J.base, J.hok, rfl, q⟩
  | brk => exact hs.elim fun _ h => h.elim fun _ h => h.2.elim
  | cont => exact hs.elim fun _ h => h.elim fun _ h => h.2.elim
end
end Pd
namespace Pd
open PySem PySem.Spec PyProof.Rows L2
/-! ### the def that calls a lambda and tells how it was refused -/
def kRes (z : Option Str) (M : Mem) : Res D := match z with
  | some z => .ok (.str z) M
  | none => .bad
/-- F of such a def: k tells of a class -/
def refF (z : Str) (k : Str → Option Str) (r : Res D) (_ : Mem) : Res D := match r with
  | .ok _ M => .ok (.str z) M
  | .exc x M => if x.fs = [] then kRes (k x.cls) M else .bad
  | .bad => .bad
section
variable {T : TB} {P : Program} {w : World} {K : PySem.W.Frag} {mg : Str → Option Value} {base : Heap} {x a v hx er z : Str} {k : Str → Option Str} {params : Arguments} {scope : Scope} {f CS : Addr} {fd : FuncData} {N : List Str} {lv j : Nat} {p1 p2 p3 p4 p5 p6 p7 p8 p9 p10 p11 p12 : Pos}
/-- the suite's call -/
theorem pe_tell {X : Cx} {ea : Addr} {oe : Obj} {cls : Value} {d : Option Addr} {pn : List (Addr × Obj)} {i : Nat} (he : ErrOk T lv X.prog X.w X.K X.mg X.base er fun cn M => kRes (k cn) M) (hr : Room lv X.A) (hge : Gl X er) (hN : X.N[i]? = some v) (hv : Vis X.env.scope v)
    (hz : L2N.Zn cls d oe) (hf : ∃ vs, oe.data = .fields vs) (d1 : (er == ("__debug__" : Str)) = false) (d2 : (v == ("__debug__" : Str)) = false) (d3 : (v == ("__classdict__" : Str)) = false) :
    PE (X.suite ea ((ea, oe) :: pn)) (.Call (.Name er p5) [.Name v p6] [] p7) (fun σ H Q => ∃ (wd : Wd) (cn : Str) (C : Addr), wd.H = H ∧ wd.Ok (rc T X) ∧ cls = .ref C ∧ d = none ∧ X.mg cn = some (.ref C) ∧ ExcC X.K C ∧ σ[i]? = some (some (.ref ea)) ∧
      Post (rc T X) (fun _ _ _ _ => False) wd [] (RelD (rc T X)) Q (kRes (k cn) wd.M)) := by
  obtain ⟨g, gd, k0, b, hk0, hm, kp, hb, run⟩ := he
  refine ⟨fun pins s σ H Q I ⟨wd, cn, C, eH, ok, ec, ed, hC, xc, hs, post⟩ => ?_⟩
  subst eH
  refine wpAny_Call_Name_kw (ld_glob (X := X.suite ea ((ea, oe) :: pn)) I hge hm ?go d1)
  have pa := pa_cons (pe_var (X := X.suite ea ((ea, oe) :: pn)) (pos := p6) hN hv d2 d3) (pa_nil (X := X.suite ea ((ea, oe) :: pn)))
  have ha := pa.run p7 pins s σ wd.H (fun vs H1 => vs = [.ref ea] ∧ H1 = wd.H) I ⟨.ref ea, hs, rfl, rfl⟩
  refine PySem.W.callWith_K (h₀ := X.base) I.ok.mod.kin kp (thn ha fun us s1 ⟨vs, H1, I1, rv, q⟩ => ⟨I1.kIn, ?_⟩) (by rfl) (by rfl)
  obtain ⟨ev, eH⟩ := q
  subst ev eH
  have eu : us = [Value.ref ea] := by
    cases rv with
    | cons r1 r2 =>
      cases r2
      obtain rfl := r1
      rfl
  subst eu
  have bnd := hb s1 [Value.ref ea] I1.kIn rfl
  obtain ⟨vs0, hd0⟩ := hf
  have pin1 := I1.pin (ea, oe) (List.mem_append_left _ List.mem_cons_self)
  have nofs : ea ∉ frs X.stack := fun hm => by
    rcases List.mem_cons.mp (I1.stkSub ea hm) with e | e
    · exact pin1.2.2.1 e
    · exact pin1.2.2.2.1 e
  have roomy : L2H.RoomH k0 (X.suite ea ((ea, oe) :: pn)).A := ⟨(hr.mono hk0).dp, (hr.mono hk0).un⟩
  refine wpAny_call (codeAny_mono (run (X.suite ea ((ea, oe) :: pn)).A X.stack s1 wd ea oe cn C ⟨[Value.ref ea], []⟩ Q (fun _ _ _ => False) roomy ⟨rfl, vs0, hd0, hz.2.2 vs0 hd0⟩ ⟨pin1.1, pin1.2.1, nofs, pin1.2.2.2.2⟩ I1.env0 bnd hC (by rw [hz.1, ec]) (by rw [hz.2.1, ed]) xc ok post) fun r s' hq => ?_)
  cases r with
  | error e =>
    obtain ⟨_, _, _, _, _, _, _, _, _, _, _, _, z⟩ := hq
    exact z.elim
  | ok fl =>
    cases fl with
    | ret u => exact I1.after hq
    | next => exact hq.elim
    | brk => exact hq.elim
    | cont => exact hq.elim
theorem refused_ok (F : FunD K x x params [.Try [.Expr (.Call (.Name a p1) [] [] p2) p3] [.ExceptHandler (some (.Name hx p4)) (some v) [.Return (some (.Call (.Name er p5) [.Name v p6] [] p7)) p8] p9] [] [] p10, .Return (some (.Constant (.str z) j p11)) p12] scope [] [] f fd)
    (S : FnScope N [a] scope) (hN : N[1]? = some v) (hln : scope.names.lookup v = some .local) (hg : mg x = some (.ref f)) (hgx : scope.names.lookup hx = some .globalImplicit) (hge : scope.names.lookup er = some .globalImplicit) (hmx : mg hx = some (.ref CS))
    (he : ErrOk T lv P w K mg base er fun cn M => kRes (k cn) M) (hk : ∀ cn, k cn ≠ none → ∀ C, mg cn = some (.ref C) → PySem.W.exmOne K (.ref C) (.ref CS) = some true ∧ ExcC K C)
    (hbind : ∀ (kV doc pm : Value) (an : Option Addr) (cdv ct : Value) (us : List Value), us.length = [a].length → bindArgs (PySem.W.fnOf x x params [.Try [.Expr (.Call (.Name a p1) [] [] p2) p3] [.ExceptHandler (some (.Name hx p4)) (some v) [.Return (some (.Call (.Name er p5) [.Name v p6] [] p7)) p8] p9] [] [] p10, .Return (some (.Constant (.str z) j p11)) p12] scope .none kV doc pm an cdv ct) ⟨us, []⟩ = pure ([a].zip us))
    (hva : Vis scope a) (d0 : (a == ("__debug__" : Str)) = false) (d0' : (a == ("__classdict__" : Str)) = false) (d1 : (er == ("__debug__" : Str)) = false) (d2 : (v == ("__debug__" : Str)) = false) (d3 : (v == ("__classdict__" : Str)) = false) (d4 : (hx == ("__debug__" : Str)) = false) :
    HofOk T lv P w K mg base x (refF z k) := by
  have hB := F.bindsN hbind
  obtain ⟨oc, od, dV, kV, doc, pm, an, cdv, ct, osl, e0, lk, hcd, _, _⟩ := F.ex
  subst e0
  have h0 : N[0]? = some a := by
    have e := S.pre
    cases N with
    | nil => cases e
    | cons b l =>
      have e2 : [b] = [a] := e
      cases e2
      rfl
  refine ⟨f, a, params, _, scope, dV, kV, doc, pm, cdv, ct, oc, an, od, osl, N, lv, Nat.le_refl _, hg, F.kp, lk, hcd, hB, S, h0, hva, d0, d0', fun A stack g s wd Q E r hr ok act post => ?_⟩
  generalize hX : cxOf (L2N.CX P w) P w K mg base N x scope f cdv A stack s wd.H E = X at act ⊢
  have x1 : X.prog = P := by rw [← hX]; rfl
  have x2 : X.w = w := by rw [← hX]; rfl
  have x3 : X.K = K := by rw [← hX]; rfl
  have x4 : X.mg = mg := by rw [← hX]; rfl
  have x5 : X.base = base := by rw [← hX]; rfl
  have x6 : X.N = N := by rw [← hX]; rfl
  have x7 : X.env.scope = scope := by rw [← hX]; rfl
  have x8 : X.stack = X.env :: X.outer := by rw [← hX]; rfl
  have x9 : X.env.frame = some X.env.locals := by rw [← hX]; rfl
  have x10 : Room lv X.A := by rw [← hX]; exact hr
  have tk : L2N.Takes X fun c d _ H => E c d H := by rw [← hX]; exact L2N.takes_of rfl rfl rfl rfl
  subst x1 x2 x3 x4 x5 x6 x7
  have tr := L2N.ps_try_as (X := X) (x := hx) (n := v) (c := .ref CS) (i := 1) (np := p4) (pos := p10) (pos' := p9) (Wout := fun c d _ H => E c d H) (body := [.Expr (.Call (.Name a p1) [] [] p2) p3]) (b₀ := .Return (some (.Call (.Name er p5) [.Name v p6] [] p7)) p8) (suite := [])
    (tb := fun W D σ H => σ[0]? = some (some (.ref g)) ∧ H = wd.H ∧ Post (rc T X) (fun c d _ H' => W c d σ H') wd [] (RelD (rc T X)) (fun _ H' => D.nx σ H') r)
    (ts := fun ea cls d D σ H => ∃ (wd : Wd) (cn : Str) (C : Addr), wd.H = H ∧ wd.Ok (rc T X) ∧ cls = .ref C ∧ d = none ∧ X.mg cn = some (.ref C) ∧ ExcC X.K C ∧ σ[1]? = some (some (.ref ea)) ∧ Post (rc T X) (fun _ _ _ _ => False) wd [] (RelD (rc T X)) D.rt (kRes (k cn) wd.M))
    x8 x9 S.nd hN hln ⟨hgx, d4, .inl hmx⟩ tk (fun W pn xe tk' _ => ?body) (fun ea oe cls d pn zn hf => ?suite)
  case body =>
    have pe := act W pn xe p1 p2 tk'
    exact pss_one (ps_expr (pos := p3) pe (notComp_ok rfl))
  case suite =>
    exact pss_one (ps_ret (pos := p8) (pe_tell (p5 := p5) (p6 := p6) (p7 := p7) he x10 hge hN (.inl hln) zn hf d1 d2 d3))
  refine ⟨_, pss_cons tr (pss_one (ps_ret (pos := p12) (pe_str (pos := p11)))), ?_⟩
  refine ⟨rfl, rfl, ?_⟩
  cases r with
  | bad => exact post
  | ok d M1 => exact fun w' b e l o q => post w' (.str z) e l o (by unfold RelD; rfl)
  | exc e M1 =>
    have post : Post (rc T X) (fun c d _ H' => E c d H') wd [] (RelD (rc T X)) Q (if e.fs = [] then kRes (k e.cls) M1 else .bad) := post
    split at post
    · rename_i hfs
      cases hkc : k e.cls with
      | none => rw [hkc] at post; exact post.elim
      | some y =>
        rw [hkc] at post
        intro w' cls dx em l o ⟨C, hC, ecls, hd⟩
        have hd0 : dx = none := by
          rcases hd with h | h
          · exact h.2
          · exact absurd hfs h.1
        obtain ⟨q1, q2⟩ := hk e.cls (by rw [hkc]; exact fun z => nomatch z) C hC
        refine ⟨true, by rw [ecls]; exact q1, fun _ ea na => ⟨w', e.cls, C, rfl, o, ecls, hd0, hC, q2, ?_, ?_⟩, fun h => by cases h⟩
        · have hl : 1 < (L2.start X.N [V.ref g]).length := by
            have := (List.getElem?_eq_some_iff.mp hN).1
            unfold L2.start
            rw [List.length_append, List.length_replicate]
            show 1 < 1 + (X.N.length - 1)
            omega
          rw [List.getElem?_set_self hl]
        · rw [hkc, em]
          exact fun w2 b e2 l2 o2 q => post w2 b e2 (l.trans l2) o2 q
    · exact post.elim
end
end Pd
namespace Pd
open PySem PySem.Spec PyProof.Rows L2
/-! ### what a module's names stand for -/
def GAll (T : TB) (lv : Nat) (P : Program) (w : World) (K : PySem.W.Frag) (mg : Str → Option Value) (base : Heap) (G : List (Str × GD)) : Prop := ∀ x g, G.lookup x = some g → GdOk T lv P w K mg base x g
section
variable {T : TB} {lv lv' : Nat} {P : Program} {w : World} {K : PySem.W.Frag} {mg : Str → Option Value} {base : Heap} {G : List (Str × GD)} {x : Str} {g : GD}
theorem GAll.nil : GAll T lv P w K mg base [] := fun _ _ h => nomatch h
theorem GAll.add (h : GAll T lv P w K mg base G) (l : lv ≤ lv') (k : GdOk T lv' P w K mg base x g) : GAll T lv' P w K mg base ((x, g) :: G) := fun y d e => by
  rw [List.lookup_cons] at e
  cases q : (y == x) with
  | true =>
    rw [q] at e
    cases e
    rw [beq_iff_eq.mp q]
    exact k
  | false =>
    rw [q] at e
    exact (h y d e).mono l
theorem GAll.at {n : Nat} (h : GAll T n P w K mg base G) (l : n ≤ lv) : GAll T lv P w K mg base G := fun y d e => (h y d e).mono l
end
/-! ### facts of the head -/
/-- what stands in the top besides defs, as Fa tells it -/
inductive Sf where
  | blt (x : Str) | int (x : Str) (i : Int) | exc (x : Str) | val (x : Str)
def Sf.name : Sf → Str
  | .blt x => x
  | .int x _ => x
  | .exc x => x
  | .val x => x
def Sf.gd : Sf → GD
  | .blt _ => .blt
  | .int _ i => .int i
  | .exc _ => .exc
  | .val _ => .val
def Sf.fa : Sf → List He.Fa
  | .blt x => [.free x]
  | .int x i => [.int x i]
  | .exc x => [.glo x, .exc x]
  | .val x => [.glo x]
theorem sf_ok {fa : List He.Fa} {fn : List He.DefD} {K : PySem.W.Frag} {h : Heap} {mg : Str → Option Value} (X : K.In h) (Gn : h.Ns mainGlobals mg) (c : He.SaysD fa fn K) {T : TB} {lv : Nat} {P : Program} {w : World} {base : Heap} : ∀ (l : List Sf), (∀ s ∈ l, ∀ f ∈ s.fa, f ∈ fa) → GAll T lv P w K mg base (l.map fun s => (s.name, s.gd))
  | [], _ => GAll.nil
  | s :: l, hs => by
    refine (sf_ok X Gn c l fun s' hs' => hs s' (List.mem_cons_of_mem _ hs')).add (Nat.le_refl _) ?_
    have hf : ∀ f ∈ s.fa, f.ok K = true := fun f hf => c.facts (hs s List.mem_cons_self f hf)
    cases s with
    | blt x => exact He.free_ok X Gn (hf _ (List.mem_singleton.mpr rfl))
    | int x i => exact He.int_ok X Gn (hf _ (List.mem_singleton.mpr rfl))
    | val x => exact ⟨_, He.glo_ok X Gn (hf _ (List.mem_singleton.mpr rfl))⟩
    | exc x =>
      obtain ⟨q1, q2, q3, q4⟩ := He.exc_ok (hf (.exc x) (by simp [Sf.fa]))
      exact ⟨_, He.glo_ok X Gn (hf (.glo x) (by simp [Sf.fa])), q1, q2, q3, q4⟩
theorem funD_code {K : PySem.W.Frag} {x qual : Str} {params : Arguments} {body : List Stmt} {scope : Scope} {p : Str × Option Str} {fd : FuncData} (F : FunD K x qual params body scope [] [] (He.fAd K p) fd) : fd.code = .ref (He.codeOf K p) := by
  obtain ⟨oc, od, dV, kV, doc, pm, an, cdv, ct, osl, e0, lk, hcd, _, _⟩ := F.ex
  obtain ⟨c, ec⟩ := He.codeIn_ref hcd
  have e1 : fd.code = .ref c := by rw [e0]; exact ec
  rw [He.codeOf_eq lk e1, e1]
/-- the tables of the makers of lambdas -/
def tabsT (tf : List He.Defn) (K : PySem.W.Frag) : TB := ⟨tf.map fun p => ((He.cT K p).2, p.1 ++ ".<locals>." ++ "<lambda>")⟩
def apartT (tf : List He.Defn) (K : PySem.W.Frag) : Bool := decide (tf.map fun p => (He.cT K p).2).Nodup
theorem apartT_ok {tf : List He.Defn} {K : PySem.W.Frag} (h : apartT tf K = true) {p : He.Defn} (hp : p ∈ tf) : ((He.cT K p).2, p.1 ++ ".<locals>." ++ "<lambda>") ∈ (tabsT tf K).tabs ∧ ∀ q ∈ (tabsT tf K).tabs, q.1 = (He.cT K p).2 → q.2 = p.1 ++ ".<locals>." ++ "<lambda>" := by
  have nd := of_decide_eq_true h
  refine ⟨List.mem_map.mpr ⟨p, hp, rfl⟩, fun q hq e => ?_⟩
  obtain ⟨p', hp', rfl⟩ := List.mem_map.mp hq
  have inj : p' = p := by
    clear hq h
    induction tf with
    | nil => cases hp
    | cons a l ih =>
      have nd' := List.nodup_cons.mp (show ((He.cT K a).2 :: l.map fun p => (He.cT K p).2).Nodup from nd)
      rcases List.mem_cons.mp hp with z | z <;> rcases List.mem_cons.mp hp' with z' | z'
      · rw [z, z']
      · exact absurd (List.mem_map.mpr ⟨p', z', by rw [← z]; exact e⟩) nd'.1
      · exact absurd (List.mem_map.mpr ⟨p, z, by rw [← z']; exact e.symm⟩) nd'.1
      · first | exact ih z nd'.2 z' | exact ih z z' nd'.2
  rw [inj]
/-- no list stands in the written part -/
def noLists (K : PySem.W.Frag) : Bool := K.all fun q => match q.2.cls with
  | .type c => !(c == "list")
  | _ => true
theorem noLists_ok {K : PySem.W.Frag} (h : noLists K = true) {a : Addr} {o : Obj} (e : K.lookup a = some o) : o.cls ≠ .type "list" := fun z => by
  have q := List.all_eq_true.mp h (a, o) (He.lookup_mem e)
  have q : (match o.cls with | .type c => !(c == "list") | _ => true) = true := q
  rw [z] at q
  cases q
/-! ### the end of a law -/
theorem script_post {T : TB} {W0 : World} {K : PySem.W.Frag} {mg : Str → Option Value} {H : Hp} {a : Addr} {ns : List Int} {φ : List D → Mem → Res D} (hT : ∀ p ∈ T.tabs, H p.1 = some (.tbl #[])) (nl : noLists K = true) (hS : SqL K H a (ns.map V.int))
    (hφ : ∀ m, (m = MO.lst (ns.map .int) ∨ m = MO.fz (ns.map .int)) → ∃ M', φ [.ref 0] [m] = .ok (.bl true) M') : spOf ⟨K, mg, T, W0⟩ 1 φ [.ref a] H (fun v _ => v = .bl true) fun _ _ _ => False := by
  have rnums : ∀ (w : Wd) (l : List Int), RelL ⟨K, mg, T, W0⟩ w (l.map D.int) (l.map V.int) := fun w l => by
    induction l with
    | nil => exact .nil
    | cons i l ih => exact .cons (by unfold RelD; rfl) ih
  have go : ∀ (m : MO) (u : HO), H a = some u → (m = MO.lst (ns.map .int) ∨ m = MO.fz (ns.map .int)) → (∀ w, RelM ⟨K, mg, T, W0⟩ w m u) → (∀ ps, u ≠ .tbl ps) → (∀ c q, u ≠ LamX.CodeO c q) → spOf ⟨K, mg, T, W0⟩ 1 φ [.ref a] H (fun v _ => v = .bl true) fun _ _ _ => False := fun m u hu hm rm nt nc => by
    obtain ⟨M', e⟩ := hφ m hm
    refine ⟨⟨fun _ => a, [m], H, fun _ _ => False⟩, [.ref 0], rfl, ⟨fun n m' e' => ?_, fun i j hi hj _ => ?_, fun _ _ z => z.elim, fun _ _ _ _ z => z.elim, fun p hp => ⟨#[], hT p hp, True.intro, fun pos cv z => ?_⟩⟩, .cons (by unfold RelD; exact ⟨Nat.one_pos, rfl⟩) .nil, rfl, ?_⟩
    · have e' : [m][n]? = some m' := e'
      cases n with
      | zero => cases e'; exact ⟨u, hu, rm _, nt⟩
      | succ n => simp at e'
    · have hi : i < 1 := hi
      have hj : j < 1 := hj
      omega
    · have z : codeAmong pos [] = some cv := z
      simp [codeAmong] at z
    · show Post _ _ _ _ _ _ (φ [.ref 0] [m])
      rw [e]
      intro w' b _ _ _ r
      unfold RelD at r
      exact r
  rcases hS with (h | ⟨ob, h⟩) | ⟨o, its, n, lk, hc, _⟩
  · exact go _ _ h (.inl rfl) (fun w => ⟨_, rfl, rnums w ns⟩) (fun _ z => by cases z) fun _ _ z => by unfold LamX.CodeO at z; cases z
  · exact go _ _ h (.inr rfl) (fun w => ⟨_, _, rfl, rnums w ns⟩) (fun _ z => by cases z) fun _ _ z => by unfold LamX.CodeO at z; cases z
  · exact absurd hc (noLists_ok nl lk)
theorem head_law {l : PySem.W.OpenLaw} {q : Program} {loose : List Str} {XP : (Str → Option Value) → Heap → Prop} {d : DefRec} {tf : List He.Defn} {fa : List He.Fa} {fn : List He.DefD} {ex : PySem.W.Frag → Bool} {φ : List D → Mem → Res D} {x : Str} {k nH : Nat}
    (hd : d.name = "law") (hdf : d.params.defaults = []) (hm : l.most = some 63) (hr : Room k callerA) (hex : ∀ K, ex K = true → noLists K = true)
    (hall : ∀ (w : World) (K : PySem.W.Frag) (h : Heap) (mg : Str → Option Value) (f : Addr), K.In h → h.Ns mainGlobals mg → mg "law" = some (.ref f) → He.SaysD fa fn K → ex K = true → ∃ fd : FuncData, (∀ (s : Shared) (u : Value), BindsTo s fd ⟨[u], []⟩ [(x, u)]) ∧
      ∀ base : Heap, (∀ p ∈ tf, LamX.TabB base mg (He.cT K p).1 (He.cT K p).2) → FnOk l.prog w K mg base (L2N.CX l.prog w) k f fd [x] (spOf ⟨K, mg, tabsT tf K, w⟩ 1 φ))
    (hφ : ∀ ns : List Int, ns.length ≤ 63 → (∀ z ∈ ns, Builtin.Int.intBits z ≤ 1048576) → ∀ m, (m = MO.lst (ns.map .int) ∨ m = MO.fz (ns.map .int)) → ∃ M', φ [.ref 0] [m] = .ok (.bl true) M') :
    PySem.W.WalkO q loose XP (He.hookX nH fa fn [] tf ex).says l.row.toRowW d [] (fun f vs => PySem.call f vs) := by
  refine LamX.walk_ofTsE (k := k) (CX := fun w => L2N.CX l.prog w) (x := x) hm (by decide) hdf hr (fun w mg fa' h Y Gn hmg => ?_) fun w H s e s' z => ?_
  · obtain ⟨K, KX, c⟩ := Y
    rw [hd] at hmg
    have nl := hex K c.more
    obtain ⟨fd, hb, hF⟩ := hall w K h mg fa' KX Gn hmg c.t.d c.more
    have mem : ∀ p ∈ tf.map (He.cT K), ∃ p0 ∈ tf, He.cT K p0 = p := fun p hp => List.mem_map.mp hp
    refine ⟨K, KX, fd, tf.map (He.cT K), spOf ⟨K, mg, tabsT tf K, w⟩ 1 φ, fun p hp => ?_, fun p hp => ?_, fun p hp => ?_, hb, fun H a ns hl hbits hT hS => ?_, fun base _ _ TBs => hF base fun p hp => TBs _ (List.mem_map.mpr ⟨p, hp, rfl⟩)⟩
    · obtain ⟨p0, h0, rfl⟩ := mem p hp
      exact c.empty p0 h0
    · obtain ⟨p0, h0, rfl⟩ := mem p hp
      exact c.out p0 h0
    · obtain ⟨p0, h0, rfl⟩ := mem p hp
      exact PySem.W.codeHd_of_K KX (c.hd p0 h0)
    · refine script_post (fun p hp => ?_) nl hS (hφ ns hl hbits)
      obtain ⟨p0, h0, rfl⟩ := List.mem_map.mp hp
      exact hT _ (List.mem_map.mpr ⟨p0, h0, rfl⟩)
  · obtain ⟨_, _, _, _, _, _, _, _, _, _, _, _, z⟩ := z
    exact z.elim
end Pd
namespace Pd
open PySem PySem.Spec PyProof.Rows L2
/-! ### the package's classes of errors -/
def isxT (good all : List Str) (x y : Str) : Option Bool := if good.contains x && all.contains y then some (x == y) else none
def isxB (K : PySem.W.Frag) (good all : List Str) : Bool := good.all fun x => all.all fun y => decide (PySem.W.kitOne K (.ref (He.ga K x)) (.ref (He.ga K y)) = some (x == y))
def hasGlo (l : List Sf) (y : Str) : Bool := l.any fun s => match s with
  | .val x => x == y
  | .exc x => x == y
  | _ => false
theorem hasGlo_ok {l : List Sf} {r : List He.Fa} {ys : List Str} (h : ys.all (hasGlo l) = true) : ∀ y ∈ ys, He.Fa.glo y ∈ l.flatMap Sf.fa ++ r := fun y hy => by
  obtain ⟨s, hs, e⟩ := List.any_eq_true.mp (List.all_eq_true.mp h y hy)
  refine List.mem_append_left _ (List.mem_flatMap.mpr ⟨s, hs, ?_⟩)
  cases s with
  | blt x => cases e
  | int x i => cases e
  | val x =>
    have e : (x == y) = true := e
    rw [beq_iff_eq.mp e]
    exact List.mem_singleton.mpr rfl
  | exc x =>
    have e : (x == y) = true := e
    rw [beq_iff_eq.mp e]
    exact List.mem_cons_self
def excB (K : PySem.W.Frag) (D : Addr) : Bool :=
  decide (PySem.W.findIn K (.ref D) "__getattribute__" = some (some (.builtin "BaseException.__getattribute__"))) && (decide (PySem.W.findIn K (.ref D) "__getattr__" = some none) && (decide (PySem.W.subIn K (.ref D) (.type "BaseException") = some true) && (PySem.W.hasDictIn K D &&
  (decide (PySem.W.findIn K (.ref D) "__class__" = some (some (.builtin "object.__class__"))) && (decide (PySem.W.specialIn K (.builtin "object.__class__") "__get__" = some (some (.builtin "getset_descriptor.__get__"))) && (decide (PySem.W.takesIn K (.builtin "object.__class__") = some true) && decide (PySem.W.mroIn K D (.type "object") = some true)))))))
theorem excB_ok {K : PySem.W.Frag} {D : Addr} (h : excB K D = true) : ExcC K D := by
  unfold excB at h
  simp only [Bool.and_eq_true, decide_eq_true_eq] at h
  obtain ⟨h1, h2, h3, h4, h5, h6, h7, h8⟩ := h
  exact ⟨h1, h2, h3, h4, h5, h6, h7, h8⟩
def exmB (K : PySem.W.Frag) (good : List Str) : Bool := good.all fun x => decide (PySem.W.exmOne K (.ref (He.ga K x)) (.ref (He.ga K "HandError")) = some true) && excB K (He.ga K x)
def kindOf (x : Str) : Str := if x = "InvalidCircle" then "circle" else if x = "InvalidPlan" then "plan" else if x = "InvalidFilling" then "filling" else if x = "InvalidIndex" then "index" else if x = "InvalidNumber" then "number" else
  if x = "InvalidSeen" then "seen" else if x = "NotReady" then "ready" else if x = "NothingToUndo" then "undo" else if x = "TooMany" then "many" else "text"
def kind (good : List Str) (x : Str) : Option Str := if good.contains x then some (kindOf x) else none
section
variable {fa : List He.Fa} {fn : List He.DefD} {K : PySem.W.Frag} {h : Heap} {mg : Str → Option Value} {good all : List Str}
theorem isxT_ok (X : K.In h) (Gn : h.Ns mainGlobals mg) (c : He.SaysD fa fn K) (hi : isxB K good all = true) (ha : ∀ y ∈ all, He.Fa.glo y ∈ fa) (hg : ∀ y ∈ good, He.Fa.glo y ∈ fa := by assumption) : ∀ x y b, isxT good all x y = some b → ∃ D, mg y = some (.ref D) ∧ ∀ C, mg x = some (.ref C) → PySem.W.kitOne K (.ref C) (.ref D) = some b := fun x y b e => by
  unfold isxT at e
  split at e
  · rename_i hc
    rw [Bool.and_eq_true, List.contains_iff_mem, List.contains_iff_mem] at hc
    cases e
    refine ⟨_, He.glo_ok X Gn (c.facts (ha y hc.2)), fun C hC => ?_⟩
    have := He.glo_ok X Gn (c.facts (hg x hc.1))
    rw [hC] at this
    cases this
    exact of_decide_eq_true (List.all_eq_true.mp (List.all_eq_true.mp hi x hc.1) y hc.2)
  · cases e
theorem exm_ok (X : K.In h) (Gn : h.Ns mainGlobals mg) (c : He.SaysD fa fn K) (hi : exmB K good = true) (hg : ∀ y ∈ good, He.Fa.glo y ∈ fa) : ∀ cn, kind good cn ≠ none → ∀ C, mg cn = some (.ref C) → PySem.W.exmOne K (.ref C) (.ref (He.ga K "HandError")) = some true ∧ ExcC K C := fun cn hk C hC => by
  unfold kind at hk
  split at hk
  · rename_i hc
    rw [List.contains_iff_mem] at hc
    have := He.glo_ok X Gn (c.facts (hg cn hc))
    rw [hC] at this
    cases this
    obtain ⟨q1, q2⟩ := Bool.and_eq_true_iff.mp (List.all_eq_true.mp hi cn hc)
    exact ⟨of_decide_eq_true q1, excB_ok q2⟩
  · exact absurd rfl hk
end
end Pd
namespace Pd
open PySem PySem.Spec PyProof.Rows L2
/-! ### readings computed -/
/-- an equation that the kernel need not compute anew -/
theorem nr {α : Sort _} {a b : α} (h : a = b) : a = b := h
section
variable {α β : Type}
@[simp] theorem bind_ok (a : α) (M : Mem) (k : α → Mem → Res β) : (Res.ok a M).bind k = k a M := nr rfl
@[simp] theorem bind_exc (x : Exn) (M : Mem) (k : α → Mem → Res β) : (Res.exc x M).bind k = .exc x M := nr rfl
@[simp] theorem bind_bad (k : α → Mem → Res β) : (Res.bad : Res α).bind k = .bad := nr rfl
@[simp] theorem onV_ok (a : α) (M : Mem) (δ : DEnv) (k : α → Mem → ResS) : onV (Res.ok a M) δ k = k a M := nr rfl
@[simp] theorem onV_exc (x : Exn) (M : Mem) (δ : DEnv) (k : α → Mem → ResS) : onV (Res.exc x M : Res α) δ k = .exc x δ M := nr rfl
@[simp] theorem onG_some (p : DEnv × Mem) (k : DEnv → Mem → ResS) : onG (some p) k = k p.1 p.2 := nr rfl
@[simp] theorem ofV_some (p : α × Mem) : ofV (some p) = .ok p.1 p.2 := nr rfl
@[simp] theorem toR_rt (d : D) (M : Mem) : toR (.rt d M) = .ok d M := nr rfl
@[simp] theorem toR_nx (δ : DEnv) (M : Mem) : toR (.nx δ M) = .ok .non M := nr rfl
@[simp] theorem toR_exc (x : Exn) (δ : DEnv) (M : Mem) : toR (.exc x δ M) = .exc x M := nr rfl
end
theorem oldOk_self (M G : Mem) : OldOk M (M ++ G) := fun i m hi e => .inl (by rwa [List.getElem?_append_left hi] at e)
/-- a value comes, the rest is forgotten -/
theorem gc_val {M G : Mem} {d : D} (h : belowD M.length d = true) : gcR M (.ok d (M ++ G)) = .ok d M := by
  show gcV M d (M ++ G) = _
  unfold gcV
  rw [if_pos (oldOk_self M G), if_pos h, List.take_left]
theorem gc_val0 {M : Mem} {d : D} (h : belowD M.length d = true) : gcR M (.ok d M) = .ok d M := by
  have := gc_val (M := M) (G := []) h
  rwa [List.append_nil] at this
theorem gc_exc {M G : Mem} {x : Str} : gcR M (.exc ⟨x, []⟩ (M ++ G)) = .exc ⟨x, []⟩ M := by
  show gcE M _ (M ++ G) = _
  unfold gcE
  rw [if_pos ⟨oldOk_self M G, rfl⟩, List.take_left]
theorem gc_exc0 {M : Mem} {x : Str} : gcR M (.exc ⟨x, []⟩ M) = .exc ⟨x, []⟩ M := by
  have := gc_exc (M := M) (G := []) (x := x)
  rwa [List.append_nil] at this
/-- a new list comes -/
theorem gc_lst {M G : Mem} {k : Nat} {l : List D} (hk : M.length ≤ k) (hl : (M ++ G)[k]? = some (.lst l)) (hb : belowL M.length l = true) : gcR M (.ok (.ref k) (M ++ G)) = .ok (.ref M.length) (M ++ [.lst l]) := by
  show gcV M (.ref k) (M ++ G) = _
  unfold gcV
  have h0 : ¬ belowD M.length (.ref k) = true := by unfold belowD; simp; exact hk
  rw [if_pos (oldOk_self M G), if_neg h0]
  dsimp only
  rw [hl]
  dsimp only
  rw [if_pos ⟨hk, hb⟩, List.take_left]
/-- one old thing is changed -/
theorem gc_set {M G : Mem} {j : Nat} {m : MO} {d : D} (hb : belowM M.length m = true) (hd : belowD M.length d = true) : gcR M (.ok d (M.set j m ++ G)) = .ok d (M.set j m) := by
  show gcV M d (M.set j m ++ G) = _
  unfold gcV
  have ho : OldOk M (M.set j m ++ G) := fun i m' hi e => by
    rw [List.getElem?_append_left (by rw [List.length_set]; exact hi)] at e
    by_cases h : j = i
    · subst h
      rw [List.getElem?_set_self hi] at e
      cases e
      exact .inr hb
    · rw [List.getElem?_set_ne h] at e
      exact .inl e
  rw [if_pos ho, if_pos hd]
  congr 1
  rw [← List.length_set (i := j) (a := m), List.take_left]
theorem gc_set0 {M : Mem} {j : Nat} {m : MO} {d : D} (hb : belowM M.length m = true) (hd : belowD M.length d = true) : gcR M (.ok d (M.set j m)) = .ok d (M.set j m) := by
  have := gc_set (M := M) (G := []) (j := j) hb hd
  rwa [List.append_nil] at this
@[simp] theorem gc_bl {M G : Mem} {b : Bool} : gcR M (.ok (.bl b) (M ++ G)) = .ok (.bl b) M := gc_val rfl
@[simp] theorem gc_int {M G : Mem} {b : Int} : gcR M (.ok (.int b) (M ++ G)) = .ok (.int b) M := gc_val rfl
@[simp] theorem gc_str {M G : Mem} {b : Str} : gcR M (.ok (.str b) (M ++ G)) = .ok (.str b) M := gc_val rfl
@[simp] theorem gc_non {M G : Mem} : gcR M (.ok .non (M ++ G)) = .ok .non M := gc_val rfl
@[simp] theorem gc_bl0 {M : Mem} {b : Bool} : gcR M (.ok (.bl b) M) = .ok (.bl b) M := gc_val0 rfl
@[simp] theorem gc_int0 {M : Mem} {b : Int} : gcR M (.ok (.int b) M) = .ok (.int b) M := gc_val0 rfl
@[simp] theorem gc_str0 {M : Mem} {b : Str} : gcR M (.ok (.str b) M) = .ok (.str b) M := gc_val0 rfl
@[simp] theorem gc_non0 {M : Mem} : gcR M (.ok .non M) = .ok .non M := gc_val0 rfl
@[simp] theorem gc_ex {M G : Mem} {x : Str} : gcR M (.exc ⟨x, []⟩ (M ++ G)) = .exc ⟨x, []⟩ M := gc_exc
@[simp] theorem gc_ex0 {M : Mem} {x : Str} : gcR M (.exc ⟨x, []⟩ M) = .exc ⟨x, []⟩ M := gc_exc0
theorem gc_tup {M G : Mem} {l : List D} (h : belowL M.length l = true) : gcR M (.ok (.tup l) (M ++ G)) = .ok (.tup l) M := gc_val h
theorem gc_tup0 {M : Mem} {l : List D} (h : belowL M.length l = true) : gcR M (.ok (.tup l) M) = .ok (.tup l) M := gc_val0 h
@[simp] theorem atI_0 (a : D) (l : List D) : atI (a :: l) 0 = some a := by
  unfold atI ixN
  rw [if_pos (by decide), if_pos (by rw [List.length_cons]; omega)]
  rfl
@[simp] theorem atI_1 (a b : D) (l : List D) : atI (a :: b :: l) 1 = some b := by
  unfold atI ixN
  rw [if_pos (by decide), if_pos (by rw [List.length_cons, List.length_cons]; omega)]
  rfl
@[simp] theorem atI_2 (a b c : D) (l : List D) : atI (a :: b :: c :: l) 2 = some c := by
  unfold atI ixN
  rw [if_pos (by decide), if_pos (by rw [List.length_cons, List.length_cons, List.length_cons]; omega)]
  rfl
theorem atI_nat {l : List D} {n : Nat} {d : D} (h : l[n]? = some d) : atI l (n : Int) = some d := by
  have hn := (List.getElem?_eq_some_iff.mp h).1
  unfold atI ixN
  rw [if_pos (by omega), if_pos (by omega)]
  simpa using h
/-! ### the store beside its growth -/
@[simp] theorem seqOf_mid (M : Mem) (l : List D) (G : Mem) : seqOf (M ++ .lst l :: G) M.length = some l := by
  unfold seqOf
  rw [List.getElem?_append_right (Nat.le_refl _), Nat.sub_self]
  rfl
@[simp] theorem lstOf_mid (M : Mem) (l : List D) (G : Mem) : lstOf (M ++ .lst l :: G) M.length = some l := by
  unfold lstOf
  rw [List.getElem?_append_right (Nat.le_refl _), Nat.sub_self]
  rfl
theorem seqOf_app {M : Mem} {n : Nat} {l : List D} (G : Mem) (h : seqOf M n = some l) : seqOf (M ++ G) n = some l := by
  unfold seqOf at h ⊢
  cases e : M[n]? with
  | none => rw [e] at h; cases h
  | some m => rw [List.getElem?_append_left (List.getElem?_eq_some_iff.mp e).1, e]; rw [e] at h; exact h
theorem lstOf_app {M : Mem} {n : Nat} {l : List D} (G : Mem) (h : lstOf M n = some l) : lstOf (M ++ G) n = some l := by
  unfold lstOf at h ⊢
  cases e : M[n]? with
  | none => rw [e] at h; cases h
  | some m => rw [List.getElem?_append_left (List.getElem?_eq_some_iff.mp e).1, e]; rw [e] at h; exact h
theorem seqOf_lst {M : Mem} {n : Nat} {l : List D} (h : lstOf M n = some l) : seqOf M n = some l := by
  unfold lstOf at h
  unfold seqOf
  split at h
  · rename_i e; rw [e]; exact h
  · cases h
/-! ### comprehensions over what does not change -/
theorem compL_fm {n : Nat} {g : GF D} {tt : EF Bool} {te : EF D} {δ : DEnv} {M0 : Mem} (hn : n = M0.length) (p : D → Bool) (f : D → D) : ∀ (l acc : List D), acc.length + l.length ≤ sizeLine →
    (∀ d ∈ l, ∀ acc, ∃ δ', g d δ (M0 ++ [.lst acc]) = some (δ', M0 ++ [.lst acc]) ∧ tt δ' (M0 ++ [.lst acc]) = .ok (p d) (M0 ++ [.lst acc]) ∧ (p d = true → te δ' (M0 ++ [.lst acc]) = .ok (f d) (M0 ++ [.lst acc]))) →
    compL n g tt te δ l (M0 ++ [.lst acc]) = some (M0 ++ [.lst (acc ++ (l.filter p).map f)])
  | [], acc, _, _ => by simp [compL]
  | d :: l, acc, hl, h => by
    rw [List.length_cons] at hl
    obtain ⟨δ', h1, h2, h3⟩ := h d List.mem_cons_self acc
    have step : compStep n g tt te δ d (M0 ++ [.lst acc]) = some (M0 ++ [.lst (acc ++ (if p d = true then [f d] else []))]) := by
      unfold compStep
      rw [h1]
      dsimp only
      rw [h2]
      dsimp only
      by_cases hp : p d = true
      · rw [if_pos hp, if_pos hp, h3 hp]
        dsimp only
        rw [hn, lstOf_mid]
        dsimp only
        rw [if_pos (by omega)]
        simp
      · rw [if_neg hp, if_neg hp, List.append_nil]
    unfold compL
    rw [step]
    show compL n g tt te δ l (M0 ++ [.lst (acc ++ (if p d = true then [f d] else []))]) = _
    rw [compL_fm hn p f l _ (by rw [List.length_append]; split <;> simp <;> omega) fun d' hd' => h d' (List.mem_cons_of_mem _ hd')]
    by_cases hp : p d = true
    · simp [hp]
    · simp [hp]
theorem dLc_fm {own : List Nat} {src : EF Src} {g : GF D} {tt : EF Bool} {te : EF D} {δ : DEnv} {M M1 : Mem} {l : List D} (p : D → Bool) (f : D → D) (hs : src δ M = .ok (.items l) M1) (hl : l.length ≤ sizeLine)
    (h : ∀ d ∈ l, ∀ acc, ∃ δ', g d (wipeD δ own) (M1 ++ [.lst acc]) = some (δ', M1 ++ [.lst acc]) ∧ tt δ' (M1 ++ [.lst acc]) = .ok (p d) (M1 ++ [.lst acc]) ∧ (p d = true → te δ' (M1 ++ [.lst acc]) = .ok (f d) (M1 ++ [.lst acc]))) :
    dLc own src g tt te δ M = .ok (.ref M1.length) (M1 ++ [.lst ((l.filter p).map f)]) := by
  unfold dLc
  rw [hs]
  show (match compL M1.length g tt te (wipeD δ own) l (M1 ++ [.lst []]) with
    | some M' => Res.ok (D.ref M1.length) M'
    | none => .bad) = _
  rw [compL_fm rfl p f l [] (by simpa using hl) h]
  rfl
theorem dLc_map {own : List Nat} {src : EF Src} {g : GF D} {te : EF D} {δ : DEnv} {M M1 : Mem} {l : List D} (f : D → D) (hs : src δ M = .ok (.items l) M1) (hl : l.length ≤ sizeLine)
    (h : ∀ d ∈ l, ∀ acc, ∃ δ', g d (wipeD δ own) (M1 ++ [.lst acc]) = some (δ', M1 ++ [.lst acc]) ∧ te δ' (M1 ++ [.lst acc]) = .ok (f d) (M1 ++ [.lst acc])) :
    dLc own src g tTrue te δ M = .ok (.ref M1.length) (M1 ++ [.lst (l.map f)]) := by
  have := dLc_fm (own := own) (tt := tTrue) (fun _ => true) f hs hl fun d hd acc => let ⟨δ', a, b⟩ := h d hd acc; ⟨δ', a, rfl, fun _ => b⟩
  rw [this, show l.filter (fun _ => true) = l from List.filter_eq_self.mpr fun _ _ => rfl]
@[simp] theorem dSeqSrc_tup {f : EF D} {δ : DEnv} {M M1 : Mem} {l : List D} (h : f δ M = .ok (.tup l) M1) : dSeqSrc f δ M = .ok (.items l) M1 := by
  unfold dSeqSrc
  rw [h]
  rfl
end Pd
namespace Pd
open PySem PySem.Spec PyProof.Rows
/-! ### equality of plain data -/
mutual
def toPy : D → PyData
  | .non => .none
  | .bl b => .bool b
  | .int i => .int i
  | .str s => .str s
  | .tup l => .tuple (toPyL l)
  | _ => .none
def toPyL : List D → List PyData
  | [] => []
  | d :: l => toPy d :: toPyL l
end
mutual
/-- no Bool, no thing of the store, nested at most n deep -/
def pln (n : Nat) : D → Bool
  | .non => true
  | .int _ => true
  | .str s => PyData.strOk s
  | .tup l => decide (0 < n) && plnL (n - 1) l
  | _ => false
def plnL (n : Nat) : List D → Bool
  | [] => true
  | d :: l => pln n d && plnL n l
end
mutual
theorem pyD_pln (M : Mem) : ∀ (d : D) (n k : Nat), pln n d = true → n < k → pyD M k d = some (toPy d)
  | .non, n, k + 1, _, _ => rfl
  | .int _, n, k + 1, _, _ => rfl
  | .str _, n, k + 1, _, _ => rfl
  | .tup l, n, k + 1, h, hk => by
    unfold pln at h
    obtain ⟨h1, h2⟩ := Bool.and_eq_true_iff.mp h
    have h1 := of_decide_eq_true h1
    unfold pyD
    rw [pyL_pln M l (n - 1) k h2 (by omega)]
    rfl
  | .bl _, _, _, h, _ => by unfold pln at h; cases h
  | .ref _, _, _, h, _ => by unfold pln at h; cases h
  | .gl _, _, _, h, _ => by unfold pln at h; cases h
  | .ty _, _, _, h, _ => by unfold pln at h; cases h
  | .exn _ _, _, _, h, _ => by unfold pln at h; cases h
  | _, _, 0, _, hk => by omega
theorem pyL_pln (M : Mem) : ∀ (l : List D) (n k : Nat), plnL n l = true → n < k → pyL (pyD M k) l = some (toPyL l)
  | [], _, _, _, _ => rfl
  | d :: l, n, k, h, hk => by
    unfold plnL at h
    obtain ⟨h1, h2⟩ := Bool.and_eq_true_iff.mp h
    unfold pyL
    rw [pyD_pln M d n k h1 hk, pyL_pln M l n k h2 hk]
    rfl
end
mutual
theorem lay_pln : ∀ (d : D) (n : Nat), pln n d = true → (toPy d).canLay0 = true ∧ (toPy d).depth ≤ n
  | .non, n, _ => ⟨rfl, by unfold toPy PyData.depth; omega⟩
  | .int _, n, _ => ⟨rfl, by unfold toPy PyData.depth; omega⟩
  | .str s, n, h => ⟨by unfold pln at h; unfold toPy PyData.canLay0; exact h, by unfold toPy PyData.depth; omega⟩
  | .tup l, n, h => by
    unfold pln at h
    obtain ⟨h1, h2⟩ := Bool.and_eq_true_iff.mp h
    have h1 := of_decide_eq_true h1
    obtain ⟨q1, q2⟩ := layL_pln l (n - 1) h2
    exact ⟨by unfold toPy PyData.canLay0; exact q1, by unfold toPy PyData.depth; omega⟩
  | .bl _, _, h => by unfold pln at h; cases h
  | .ref _, _, h => by unfold pln at h; cases h
  | .gl _, _, h => by unfold pln at h; cases h
  | .ty _, _, h => by unfold pln at h; cases h
  | .exn _ _, _, h => by unfold pln at h; cases h
theorem layL_pln : ∀ (l : List D) (n : Nat), plnL n l = true → PyData.canLayAll0 (toPyL l) = true ∧ PyData.depthAll (toPyL l) ≤ n
  | [], n, _ => ⟨rfl, by unfold toPyL PyData.depthAll; omega⟩
  | d :: l, n, h => by
    unfold plnL at h
    obtain ⟨h1, h2⟩ := Bool.and_eq_true_iff.mp h
    obtain ⟨q1, q2⟩ := lay_pln d n h1
    obtain ⟨q3, q4⟩ := layL_pln l n h2
    exact ⟨by unfold toPyL PyData.canLayAll0; rw [q1, q3]; rfl, by unfold toPyL PyData.depthAll; omega⟩
end
mutual
theorem eqv_pln : ∀ (a b : D) (n m : Nat), pln n a = true → pln m b = true → (PyData.eqv (toPy a) (toPy b) = true ↔ a = b)
  | .tup l, .tup k, n, m, h1, h2 => by
    unfold pln at h1 h2
    obtain ⟨_, h3⟩ := Bool.and_eq_true_iff.mp h1
    obtain ⟨_, h4⟩ := Bool.and_eq_true_iff.mp h2
    unfold toPy PyData.eqv
    rw [eqvL_pln l k _ _ h3 h4]
    exact ⟨fun e => by rw [e], fun e => D.tup.inj e⟩
  | .int i, .int j, _, _, _, _ => by
    unfold toPy PyData.eqv
    rw [beq_iff_eq]
    exact ⟨fun e => by rw [e], fun e => D.int.inj e⟩
  | .str i, .str j, _, _, _, _ => by
    unfold toPy PyData.eqv
    rw [beq_iff_eq]
    exact ⟨fun e => by rw [e], fun e => D.str.inj e⟩
  | .non, .non, _, _, _, _ => ⟨fun _ => rfl, fun _ => rfl⟩
  | .non, .int _, _, _, _, _ => ⟨fun h => (by cases h), fun h => (by cases h)⟩
  | .non, .str _, _, _, _, _ => ⟨fun h => (by cases h), fun h => (by cases h)⟩
  | .non, .tup _, _, _, _, _ => ⟨fun h => (by cases h), fun h => (by cases h)⟩
  | .int _, .non, _, _, _, _ => ⟨fun h => (by cases h), fun h => (by cases h)⟩
  | .int _, .str _, _, _, _, _ => ⟨fun h => (by cases h), fun h => (by cases h)⟩
  | .int _, .tup _, _, _, _, _ => ⟨fun h => (by cases h), fun h => (by cases h)⟩
  | .str _, .non, _, _, _, _ => ⟨fun h => (by cases h), fun h => (by cases h)⟩
  | .str _, .int _, _, _, _, _ => ⟨fun h => (by cases h), fun h => (by cases h)⟩
  | .str _, .tup _, _, _, _, _ => ⟨fun h => (by cases h), fun h => (by cases h)⟩
  | .tup _, .non, _, _, _, _ => ⟨fun h => (by cases h), fun h => (by cases h)⟩
  | .tup _, .int _, _, _, _, _ => ⟨fun h => (by cases h), fun h => (by cases h)⟩
  | .tup _, .str _, _, _, _, _ => ⟨fun h => (by cases h), fun h => (by cases h)⟩
  | .bl _, _, _, _, h, _ => by unfold pln at h; cases h
  | .ref _, _, _, _, h, _ => by unfold pln at h; cases h
  | .gl _, _, _, _, h, _ => by unfold pln at h; cases h
  | .ty _, _, _, _, h, _ => by unfold pln at h; cases h
  | .exn _ _, _, _, _, h, _ => by unfold pln at h; cases h
  | _, .bl _, _, _, _, h => by unfold pln at h; cases h
  | _, .ref _, _, _, _, h => by unfold pln at h; cases h
  | _, .gl _, _, _, _, h => by unfold pln at h; cases h
  | _, .ty _, _, _, _, h => by unfold pln at h; cases h
  | _, .exn _ _, _, _, _, h => by unfold pln at h; cases h
theorem eqvL_pln : ∀ (a b : List D) (n m : Nat), plnL n a = true → plnL m b = true → (PyData.eqvAll (toPyL a) (toPyL b) = true ↔ a = b)
  | [], [], _, _, _, _ => ⟨fun _ => rfl, fun _ => rfl⟩
  | [], _ :: _, _, _, _, _ => ⟨fun h => (by cases h), fun h => (by cases h)⟩
  | _ :: _, [], _, _, _, _ => ⟨fun h => (by cases h), fun h => (by cases h)⟩
  | x :: a, y :: b, n, m, h1, h2 => by
    unfold plnL at h1 h2
    obtain ⟨h3, h5⟩ := Bool.and_eq_true_iff.mp h1
    obtain ⟨h4, h6⟩ := Bool.and_eq_true_iff.mp h2
    unfold toPyL PyData.eqvAll
    rw [Bool.and_eq_true, eqv_pln x y _ _ h3 h4, eqvL_pln a b _ _ h5 h6]
    exact ⟨fun ⟨e1, e2⟩ => by rw [e1, e2], fun e => List.cons.inj e⟩
end
noncomputable def deq (a b : D) : Bool := @decide (a = b) (Classical.propDecidable _)
noncomputable def deqL (a b : List D) : Bool := @decide (a = b) (Classical.propDecidable _)
theorem deq_iff {a b : D} : deq a b = true ↔ a = b := @decide_eq_true_iff _ (Classical.propDecidable _)
theorem deqL_iff {a b : List D} : deqL a b = true ↔ a = b := @decide_eq_true_iff _ (Classical.propDecidable _)
@[simp] theorem deq_refl (a : D) : deq a a = true := deq_iff.mpr rfl
@[simp] theorem deqL_refl (a : List D) : deqL a a = true := deqL_iff.mpr rfl
theorem deq_symm (a b : D) : deq a b = deq b a := by
  rw [Bool.eq_iff_iff, deq_iff, deq_iff]
  exact eq_comm
theorem deq_ne {a b : D} (h : a ≠ b) : deq a b = false := by
  cases e : deq a b with
  | false => rfl
  | true => exact absurd (deq_iff.mp e) h
theorem deqL_ne {a b : List D} (h : a ≠ b) : deqL a b = false := by
  cases e : deqL a b with
  | false => rfl
  | true => exact absurd (deqL_iff.mp e) h
theorem dEqB_pln {M : Mem} {a b : D} {n m : Nat} (ha : pln n a = true) (hb : pln m b = true) (hn : n < 20) (hm : m < 20) : dEqB M a b = some (deq a b) := by
  unfold dEqB
  obtain ⟨q1, q2⟩ := lay_pln a n ha
  obtain ⟨q3, q4⟩ := lay_pln b m hb
  have s1 : SeqAt.shaped (toPy a) = true := by unfold SeqAt.shaped; rw [q1, decide_eq_true (by omega : (toPy a).depth ≤ 64)]; rfl
  have s2 : SeqAt.shaped (toPy b) = true := by unfold SeqAt.shaped; rw [q3, decide_eq_true (by omega : (toPy b).depth ≤ 64)]; rfl
  rw [pyD_pln M a n FU ha hn, pyD_pln M b m FU hb hm]
  dsimp only
  rw [s1, s2]
  show some _ = _
  congr 1
  rw [Bool.eq_iff_iff, eqv_pln a b n m ha hb, deq_iff]
theorem dEqB_lst {M : Mem} {i j : Nat} {a b : List D} {n m : Nat} (hi : seqOf M i = some a) (hj : seqOf M j = some b) (ha : plnL n a = true) (hb : plnL m b = true) (hn : n < 19) (hm : m < 19) : dEqB M (.ref i) (.ref j) = some (deqL a b) := by
  unfold dEqB
  obtain ⟨q1, q2⟩ := layL_pln a n ha
  obtain ⟨q3, q4⟩ := layL_pln b m hb
  have e1 : pyD M FU (.ref i) = some (.list (toPyL a)) := by
    show pyD M (19 + 1) (.ref i) = _
    unfold pyD
    rw [hi]
    dsimp only
    rw [pyL_pln M a n 19 ha hn]
    rfl
  have e2 : pyD M FU (.ref j) = some (.list (toPyL b)) := by
    show pyD M (19 + 1) (.ref j) = _
    unfold pyD
    rw [hj]
    dsimp only
    rw [pyL_pln M b m 19 hb hm]
    rfl
  have s1 : SeqAt.shaped (.list (toPyL a)) = true := by
    unfold SeqAt.shaped PyData.canLay0 PyData.depth
    rw [q1, decide_eq_true (by omega)]
    rfl
  have s2 : SeqAt.shaped (.list (toPyL b)) = true := by
    unfold SeqAt.shaped PyData.canLay0 PyData.depth
    rw [q3, decide_eq_true (by omega)]
    rfl
  rw [e1, e2]
  dsimp only
  rw [s1, s2]
  show some _ = _
  congr 1
  rw [Bool.eq_iff_iff, deqL_iff]
  unfold PyData.eqv
  exact eqvL_pln a b n m ha hb
theorem oEq_pln {M : Mem} {a b : D} {n m : Nat} (ha : pln n a = true) (hb : pln m b = true) (hn : n < 20) (hm : m < 20) : oEq a b M = some (.bl (deq a b), M) := by
  unfold oEq
  rw [dEqB_pln ha hb hn hm]
  rfl
theorem oNe_pln {M : Mem} {a b : D} {n m : Nat} (ha : pln n a = true) (hb : pln m b = true) (hn : n < 20) (hm : m < 20) : oNe a b M = some (.bl (!deq a b), M) := by
  unfold oNe
  rw [dEqB_pln ha hb hn hm]
  rfl
@[simp] theorem oEq_int {M : Mem} {i j : Int} : oEq (.int i) (.int j) M = some (.bl (decide (i = j)), M) := by
  rw [oEq_pln (n := 0) (m := 0) rfl rfl (by decide) (by decide)]
  congr 3
  rw [Bool.eq_iff_iff, deq_iff, decide_eq_true_iff]
  exact ⟨fun e => D.int.inj e, fun e => by rw [e]⟩
@[simp] theorem oNe_int {M : Mem} {i j : Int} : oNe (.int i) (.int j) M = some (.bl (!decide (i = j)), M) := by
  rw [oNe_pln (n := 0) (m := 0) rfl rfl (by decide) (by decide)]
  congr 4
  rw [Bool.eq_iff_iff, deq_iff, decide_eq_true_iff]
  exact ⟨fun e => D.int.inj e, fun e => by rw [e]⟩
@[simp] theorem oEq_str {M : Mem} {i j : Str} (h1 : PyData.strOk i = true) (h2 : PyData.strOk j = true) : oEq (.str i) (.str j) M = some (.bl (decide (i = j)), M) := by
  rw [oEq_pln (n := 0) (m := 0) (by unfold pln; exact h1) (by unfold pln; exact h2) (by decide) (by decide)]
  congr 3
  rw [Bool.eq_iff_iff, deq_iff, decide_eq_true_iff]
  exact ⟨fun e => D.str.inj e, fun e => by rw [e]⟩
@[simp] theorem oNe_str {M : Mem} {i j : Str} (h1 : PyData.strOk i = true) (h2 : PyData.strOk j = true) : oNe (.str i) (.str j) M = some (.bl (!decide (i = j)), M) := by
  rw [oNe_pln (n := 0) (m := 0) (by unfold pln; exact h1) (by unfold pln; exact h2) (by decide) (by decide)]
  congr 4
  rw [Bool.eq_iff_iff, deq_iff, decide_eq_true_iff]
  exact ⟨fun e => D.str.inj e, fun e => by rw [e]⟩
theorem oEq_lst {M : Mem} {i j : Nat} {a b : List D} {n m : Nat} (hi : seqOf M i = some a) (hj : seqOf M j = some b) (ha : plnL n a = true) (hb : plnL m b = true) (hn : n < 19) (hm : m < 19) : oEq (.ref i) (.ref j) M = some (.bl (deqL a b), M) := by
  unfold oEq
  rw [dEqB_lst hi hj ha hb hn hm]
  rfl
theorem oNe_lst {M : Mem} {i j : Nat} {a b : List D} {n m : Nat} (hi : seqOf M i = some a) (hj : seqOf M j = some b) (ha : plnL n a = true) (hb : plnL m b = true) (hn : n < 19) (hm : m < 19) : oNe (.ref i) (.ref j) M = some (.bl (!deqL a b), M) := by
  unfold oNe
  rw [dEqB_lst hi hj ha hb hn hm]
  rfl
end Pd
namespace Pd
open PySem
/-! ### the combinators, for simp -/
section
variable (f g h : EF D) (c0 c1 : EF Bool) (ga : EF (List D)) (δ : DEnv) (M : Mem) (d e : D) (l : List D) (op op' : D → D → Mem → OV) (ol : List D → Mem → OV) (i n : Nat) (s s' : DS)
def andK (a : D) (x : Res D) (M : Mem) : Res D := match a with
  | .bl true => x
  | .bl false => .ok (.bl false) M
  | _ => .bad
def orK (a : D) (x : Res D) (M : Mem) : Res D := match a with
  | .bl true => .ok (.bl true) M
  | .bl false => x
  | _ => .bad
def notK (a : D) (M : Mem) : Res D := match a with
  | .bl b => .ok (.bl (!b)) M
  | _ => .bad
def tvK (a : D) (M : Mem) : Res Bool := match a with
  | .bl b => .ok b M
  | _ => .bad
def varK (o : Option (Option D)) (M : Mem) : Res D := match o with
  | some (some d) => .ok d M
  | _ => .bad
def partK (a : D) (M : Mem) : Res (Option Int) := match a with
  | .int i => .ok (some i) M
  | _ => .bad
def seqK (r : ResS) (k : DEnv → Mem → ResS) : ResS := match r with
  | .nx δ M => k δ M
  | r => r
def loopK (r : ResS) (k : DEnv → Mem → ResS) : ResS := match r with
  | .nx δ2 M2 => k δ2 M2
  | .ct δ2 M2 => k δ2 M2
  | .bk δ2 M2 => .nx δ2 M2
  | r => r
@[simp] theorem andK_bl (b : Bool) (x : Res D) : andK (.bl b) x M = if b = true then x else .ok (.bl false) M := by cases b <;> rfl
@[simp] theorem orK_bl (b : Bool) (x : Res D) : orK (.bl b) x M = if b = true then .ok (.bl true) M else x := by cases b <;> rfl
@[simp] theorem notK_bl (b : Bool) : notK (.bl b) M = .ok (.bl (!b)) M := nr rfl
@[simp] theorem tvK_bl (b : Bool) : tvK (.bl b) M = .ok b M := nr rfl
@[simp] theorem varK_some : varK (some (some d)) M = .ok d M := nr rfl
@[simp] theorem partK_int (j : Int) : partK (.int j) M = .ok (some j) M := nr rfl
@[simp] theorem seqK_nx (k : DEnv → Mem → ResS) : seqK (.nx δ M) k = k δ M := nr rfl
@[simp] theorem seqK_rt (k : DEnv → Mem → ResS) : seqK (.rt d M) k = .rt d M := nr rfl
@[simp] theorem seqK_exc (x : Exn) (k : DEnv → Mem → ResS) : seqK (.exc x δ M) k = .exc x δ M := nr rfl
@[simp] theorem seqK_bk (k : DEnv → Mem → ResS) : seqK (.bk δ M) k = .bk δ M := nr rfl
@[simp] theorem seqK_ct (k : DEnv → Mem → ResS) : seqK (.ct δ M) k = .ct δ M := nr rfl
@[simp] theorem loopK_nx (k : DEnv → Mem → ResS) : loopK (.nx δ M) k = k δ M := nr rfl
@[simp] theorem loopK_ct (k : DEnv → Mem → ResS) : loopK (.ct δ M) k = k δ M := nr rfl
@[simp] theorem loopK_bk (k : DEnv → Mem → ResS) : loopK (.bk δ M) k = .nx δ M := nr rfl
@[simp] theorem loopK_rt (k : DEnv → Mem → ResS) : loopK (.rt d M) k = .rt d M := nr rfl
@[simp] theorem loopK_exc (x : Exn) (k : DEnv → Mem → ResS) : loopK (.exc x δ M) k = .exc x δ M := nr rfl
@[simp] theorem e_dVar : dVar i δ M = varK δ[i]? M := nr rfl
@[simp] theorem e_dC : dC d δ M = .ok d M := nr rfl
@[simp] theorem e_dBin : dBin op f g δ M = (f δ M).bind fun a M1 => (g δ M1).bind fun b M2 => ofV (op a b M2) := nr rfl
@[simp] theorem e_dUn (ou : D → Mem → OV) : dUn ou f δ M = (f δ M).bind fun a M1 => ofV (ou a M1) := nr rfl
@[simp] theorem e_dCh3 : dCh3 op op' op2 f g h k δ M = (f δ M).bind fun a M1 => (g δ M1).bind fun b M2 => (ofV (op a b M2)).bind fun z M3 => andK z ((h δ M3).bind fun c M4 => (ofV (op' b c M4)).bind fun z2 M5 => andK z2 ((k δ M5).bind fun d M6 => ofV (op2 c d M6)) M5) M3 := nr rfl
@[simp] theorem e_dCh : dCh op op' f g h δ M = (f δ M).bind fun a M1 => (g δ M1).bind fun b M2 => (ofV (op a b M2)).bind fun z M3 => andK z ((h δ M3).bind fun c M4 => ofV (op' b c M4)) M3 := nr rfl
@[simp] theorem e_tV : tV f δ M = (f δ M).bind tvK := nr rfl
@[simp] theorem e_tAnd : tAnd c0 c1 δ M = (c0 δ M).bind fun b M1 => if b = true then c1 δ M1 else .ok false M1 := nr rfl
@[simp] theorem e_tOr : tOr c0 c1 δ M = (c0 δ M).bind fun b M1 => if b = true then .ok true M1 else c1 δ M1 := nr rfl
@[simp] theorem e_tNot : tNot c0 δ M = (c0 δ M).bind fun b M1 => .ok (!b) M1 := nr rfl
@[simp] theorem e_dAnd : dAnd f g δ M = (f δ M).bind fun a M1 => andK a (g δ M1) M1 := nr rfl
@[simp] theorem e_dOr : dOr f g δ M = (f δ M).bind fun a M1 => orK a (g δ M1) M1 := nr rfl
@[simp] theorem e_dNot : dNot f δ M = (f δ M).bind notK := nr rfl
@[simp] theorem e_dIf : dIf c0 f g δ M = (c0 δ M).bind fun b M1 => if b = true then f δ M1 else g δ M1 := nr rfl
@[simp] theorem e_aNil : aNil δ M = .ok [] M := nr rfl
@[simp] theorem e_aCons : aCons f ga δ M = (f δ M).bind fun a M1 => (ga δ M1).bind fun l M2 => .ok (a :: l) M2 := nr rfl
@[simp] theorem e_dTup : dTup ga δ M = (ga δ M).bind fun l M1 => if l.length ≤ sizeLine then .ok (.tup l) M1 else .bad := nr rfl
@[simp] theorem e_dLst : dLst ga δ M = (ga δ M).bind fun l M1 => if l.length ≤ sizeLine then .ok (.ref M1.length) (M1 ++ [.lst l]) else .bad := nr rfl
@[simp] theorem e_dBlt : dBlt ol ga δ M = (ga δ M).bind fun l M1 => ofV (ol l M1) := nr rfl
@[simp] theorem e_dCall (φ : List D → Mem → Res D) : dCall φ n ga δ M = (ga δ M).bind fun l M1 => if l.length = n then φ l M1 else .bad := nr rfl
@[simp] theorem e_dMt (chk : D → Mem → Bool) (om : D → List D → Mem → OV) : dMt chk om f ga δ M = (f δ M).bind fun a M1 => if chk a M1 = true then (ga δ M1).bind fun l M2 => ofV (om a l M2) else .bad := nr rfl
@[simp] theorem e_dNoP : dNoP δ M = .ok none M := nr rfl
@[simp] theorem e_dPart : dPart f δ M = (f δ M).bind partK := nr rfl
@[simp] theorem e_dSl (p q : EF (Option Int)) : dSl f p q δ M = (f δ M).bind fun a M1 => (p δ M1).bind fun lo M2 => (q δ M2).bind fun hi M3 => ofV (oSl a lo hi M3) := nr rfl
@[simp] theorem e_sNil : sNil δ M = .nx δ M := nr rfl
@[simp] theorem e_sBrk : sBrk δ M = .bk δ M := nr rfl
@[simp] theorem e_sCnt : sCnt δ M = .ct δ M := nr rfl
@[simp] theorem e_sRetN : sRetN δ M = .rt .non M := nr rfl
@[simp] theorem e_sSeq : sSeq s s' δ M = seqK (s δ M) s' := by
  unfold sSeq
  cases s δ M <;> rfl
@[simp] theorem e_sAsg (t : GF D) : sAsg f t δ M = onV (f δ M) δ fun d M1 => onG (t d δ M1) .nx := nr rfl
@[simp] theorem e_sPar (js : List Nat) : sPar js ga δ M = onV (ga δ M) δ fun l M1 => if l.length = js.length then .nx ((js.zip l).foldl (fun δ p => δ.set p.1 (some p.2)) δ) M1 else .bad := nr rfl
@[simp] theorem e_sDrop : sDrop f δ M = onV (f δ M) δ fun _ M1 => .nx δ M1 := nr rfl
@[simp] theorem e_sRet : sRet f δ M = onV (f δ M) δ fun d M1 => .rt d M1 := nr rfl
@[simp] theorem e_sIf : sIf c0 s s' δ M = onV (c0 δ M) δ fun b M1 => if b = true then s δ M1 else s' δ M1 := nr rfl
@[simp] theorem e_gNm : gNm i d δ M = some (δ.set i (some d), M) := nr rfl
@[simp] theorem e_gsNil : gsNil [] δ M = some (δ, M) := nr rfl
@[simp] theorem e_forL_nil (t : GF D) : forL t s [] δ M = .nx δ M := nr rfl
theorem e_forL_cons (t : GF D) : forL t s (d :: l) δ M = onG (t d δ M) fun δ1 M1 => loopK (s δ1 M1) (forL t s l) := by
  conv => lhs; unfold forL
  rfl
@[simp] theorem e_gTpT (t : GF (List D)) : gTpT n t (.tup l) δ M = if l.length = n then t l δ M else none := nr rfl
@[simp] theorem e_gTp (t : GF (List D)) : gTp n t (.tup l) δ M = if l.length = n then t l δ M else none := nr rfl
end
@[simp] theorem e_gsCons (t : GF D) (ts : GF (List D)) (d : D) (l : List D) (δ : DEnv) (M : Mem) : gsCons t ts (d :: l) δ M = (t d δ M).bind fun p => ts l p.1 p.2 := nr rfl
/-! operations -/
section
variable {M : Mem} {i j : Int} {b : Bool} {l m : List D} {n k : Nat}
@[simp] theorem oAdd_int : oAdd (.int i) (.int j) M = some (.int (i + j), M) := nr rfl
@[simp] theorem oSub_int : oSub (.int i) (.int j) M = some (.int (i - j), M) := nr rfl
@[simp] theorem oLt_int : oLt (.int i) (.int j) M = some (.bl (decide (i < j)), M) := nr rfl
@[simp] theorem oLe_int : oLe (.int i) (.int j) M = some (.bl (decide (i ≤ j)), M) := nr rfl
@[simp] theorem oGt_int : oGt (.int i) (.int j) M = some (.bl (decide (j < i)), M) := nr rfl
@[simp] theorem oGe_int : oGe (.int i) (.int j) M = some (.bl (decide (j ≤ i)), M) := nr rfl
theorem oMod_int (h : 0 < j) : oMod (.int i) (.int j) M = some (.int (i % j), M) := by
  show (if 0 < j then some (D.int (i % j)) else none).map (fun d => (d, M)) = _
  rw [if_pos h]
  rfl
theorem log2_small {a : Nat} (h : a < 2 ^ 64) : a.log2 < 9000 := by
  by_cases h0 : a = 0
  · subst h0
    decide
  · have := (Nat.log2_lt h0).mpr h
    omega
theorem oFdiv_int (h : 0 < j) (hj : j < 2 ^ 64) : oFdiv (.int i) (.int j) M = some (.int (i / j), M) := by
  show (if 0 < j ∧ j.natAbs.log2 < 9000 then some (D.int (i / j)) else none).map (fun d => (d, M)) = _
  rw [if_pos ⟨h, log2_small (by omega)⟩]
  rfl
theorem oMul_int (h : (-(2 ^ 64) < i ∧ i < 2 ^ 64) ∨ (-(2 ^ 64) < j ∧ j < 2 ^ 64)) : oMul (.int i) (.int j) M = some (.int (i * j), M) := by
  show (if mulOk i j = true then some (D.int (i * j), M) else none) = _
  rw [if_pos]
  unfold mulOk
  rcases h with h | h
  · rw [decide_eq_true h]; rfl
  · rw [decide_eq_true h, Bool.or_true]; rfl
@[simp] theorem oAdd_tup : oAdd (.tup l) (.tup m) M = if l.length + m.length ≤ sizeLine then some (.tup (l ++ m), M) else none := nr rfl
theorem oAdd_lst (h1 : lstOf M n = some l) (h2 : lstOf M k = some m) (h : l.length + m.length ≤ sizeLine) : oAdd (.ref n) (.ref k) M = some (.ref M.length, M ++ [.lst (l ++ m)]) := by
  show (match lstOf M n, lstOf M k with
    | some l, some m => if l.length + m.length ≤ sizeLine then some (D.ref M.length, M ++ [MO.lst (l ++ m)]) else none
    | _, _ => none) = _
  rw [h1, h2]
  dsimp only
  rw [if_pos h]
@[simp] theorem oIx_tup : oIx (.tup l) (.int i) M = (L2.atI l i).map fun d => (d, M) := nr rfl
theorem oIx_lst (h : seqOf M n = some l) : oIx (.ref n) (.int i) M = (L2.atI l i).map fun d => (d, M) := by
  show ((seqOf M n).bind fun l => (L2.atI l i).map fun d => (d, M)) = _
  rw [h]
  rfl
@[simp] theorem oIsN_non : oIsN .non .non M = some (.bl true, M) := nr rfl
@[simp] theorem oIsN_tup : oIsN (.tup l) .non M = some (.bl false, M) := nr rfl
@[simp] theorem oLen_tup : oLen [.tup l] M = some (.int l.length, M) := nr rfl
theorem oLen_lst (h : seqOf M n = some l) : oLen [.ref n] M = some (.int l.length, M) := by
  show (seqOf M n).map (fun l => (D.int l.length, M)) = _
  rw [h]
  rfl
@[simp] theorem oToInt_int : oToInt [.int i] M = some (.int i, M) := nr rfl
@[simp] theorem oToInt_bl : oToInt [.bl b] M = some (.int (if b then 1 else 0), M) := nr rfl
@[simp] theorem oAbs_int : oAbs [.int i] M = some (.int (if i < 0 then -i else i), M) := nr rfl
@[simp] theorem oMax_int : oMax [.int i, .int j] M = some (.int (if j > i then j else i), M) := nr rfl
@[simp] theorem oMin_int : oMin [.int i, .int j] M = some (.int (if j < i then j else i), M) := nr rfl
theorem oSum_lst {ns : List Int} (h : seqOf M n = some (ns.map .int)) : oSum [.ref n] M = some (.int ns.sum, M) := by
  show (match (seqOf M n).bind intsD with
    | some ns => some (D.int ns.sum, M)
    | none => none) = _
  rw [h, Option.bind_some, intsD_of]
theorem oAll_lst {bs : List Bool} (h : seqOf M n = some (bs.map .bl)) : oAll [.ref n] M = some (.bl (bs.all id), M) := by
  show (match (seqOf M n).bind blsD with
    | some ns => some (D.bl (ns.all id), M)
    | none => none) = _
  rw [h, Option.bind_some, blsD_of]
theorem oIsi_ty {d : D} {a t : String} (h : tyOf M d = some a) {b : Bool} (hb : isiT a t = some b) : oIsi [d, .ty t] M = some (.bl b, M) := by
  show ((tyOf M d).bind fun a => (isiT a t).map fun b => (D.bl b, M)) = _
  rw [h, Option.bind_some, hb]
  rfl
@[simp] theorem isi_int_int : oIsi [.int i, .ty "int"] M = some (.bl true, M) := nr rfl
@[simp] theorem isi_int_bool : oIsi [.int i, .ty "bool"] M = some (.bl false, M) := nr rfl
@[simp] theorem isi_int_tuple : oIsi [.int i, .ty "tuple"] M = some (.bl false, M) := nr rfl
@[simp] theorem isi_tup_tuple : oIsi [.tup l, .ty "tuple"] M = some (.bl true, M) := nr rfl
@[simp] theorem isi_non_tuple : oIsi [.non, .ty "tuple"] M = some (.bl false, M) := nr rfl
theorem isi_lst {t : String} (h : seqOf M n = some l) : oIsi [.ref n, .ty t] M = (isiT "list" t).map fun b => (.bl b, M) := by
  show ((tyOf M (.ref n)).bind fun a => (isiT a t).map fun b => (D.bl b, M)) = _
  have : tyOf M (.ref n) = some "list" := by
    show (seqOf M n).map _ = _
    rw [h]
    rfl
  rw [this]
  rfl
@[simp] theorem isiT_ll : isiT "list" "list" = some true := nr rfl
@[simp] theorem isiT_lt : isiT "list" "tuple" = some false := nr rfl
end
end Pd
namespace Pd
open PySem
/-! ### loops as folds -/
section
variable {α β : Type} {g : GF D} {body : DS} (enc : β → D) (st : α → DEnv × Mem) (F : β → α → α) (P : α → Prop)
theorem forL_fold : ∀ (bs : List β) (a : α), P a → (∀ b ∈ bs, ∀ a, P a → P (F b a) ∧ ∃ δ1 M1, g (enc b) (st a).1 (st a).2 = some (δ1, M1) ∧ body δ1 M1 = .nx (st (F b a)).1 (st (F b a)).2) →
    forL g body (bs.map enc) (st a).1 (st a).2 = .nx (st (bs.foldl (fun a b => F b a) a)).1 (st (bs.foldl (fun a b => F b a) a)).2 ∧ P (bs.foldl (fun a b => F b a) a)
  | [], a, h, _ => ⟨rfl, h⟩
  | b :: bs, a, h, step => by
    obtain ⟨h1, δ1, M1, e1, e2⟩ := step b List.mem_cons_self a h
    rw [List.map_cons, e_forL_cons, e1, onG_some]
    dsimp only
    rw [e2, loopK_nx]
    exact forL_fold bs (F b a) h1 fun b' hb' => step b' (List.mem_cons_of_mem _ hb')
theorem forF_fold {n : Nat} {bs : List β} (hs : ∀ a, P a → seqOf (st a).2 n = some (bs.map enc)) (step : ∀ b ∈ bs, ∀ a, P a → P (F b a) ∧ ∃ δ1 M1, g (enc b) (st a).1 (st a).2 = some (δ1, M1) ∧ body δ1 M1 = .nx (st (F b a)).1 (st (F b a)).2) :
    ∀ (k i : Nat) (a : α), P a → bs.length - i < k → forF (.live n) g body k i (st a).1 (st a).2 = .nx (st ((bs.drop i).foldl (fun a b => F b a) a)).1 (st ((bs.drop i).foldl (fun a b => F b a) a)).2 ∧ P ((bs.drop i).foldl (fun a b => F b a) a)
  | 0, _, _, _, h => by omega
  | k + 1, i, a, h, hk => by
    unfold forF
    have e0 : Src.item (st a).2 i (.live n) = some (bs[i]?.map enc) := by
      show (seqOf (st a).2 n).map (fun l => l[i]?) = _
      rw [hs a h, Option.map_some, List.getElem?_map]
    rw [e0]
    cases c : bs[i]? with
    | none =>
      rw [List.drop_eq_nil_of_le (List.getElem?_eq_none_iff.mp c)]
      exact ⟨rfl, h⟩
    | some b =>
      obtain ⟨hi, eb⟩ := List.getElem?_eq_some_iff.mp c
      have hb : b ∈ bs := eb ▸ List.getElem_mem hi
      obtain ⟨h1, δ1, M1, e1, e2⟩ := step b hb a h
      rw [List.drop_eq_getElem_cons hi, eb]
      dsimp only [Option.map_some]
      rw [e1, onG_some]
      dsimp only
      rw [e2]
      exact forF_fold hs step k (i + 1) (F b a) h1 (by omega)
theorem live_fold {n : Nat} {bs : List β} (hs : ∀ a, P a → seqOf (st a).2 n = some (bs.map enc)) (step : ∀ b ∈ bs, ∀ a, P a → P (F b a) ∧ ∃ δ1 M1, g (enc b) (st a).1 (st a).2 = some (δ1, M1) ∧ body δ1 M1 = .nx (st (F b a)).1 (st (F b a)).2) (a : α) (h : P a) :
    loopS g body (.live n) (st a).1 (st a).2 = .nx (st (bs.foldl (fun a b => F b a) a)).1 (st (bs.foldl (fun a b => F b a) a)).2 := by
  have sz : Src.size (st a).2 (.live n) = bs.length := by
    show ((seqOf (st a).2 n).getD []).length = _
    rw [hs a h]
    simp
  show forF (.live n) g body (Src.size (st a).2 (.live n) + 1) 0 (st a).1 (st a).2 = _
  rw [sz]
  have := (forF_fold enc st F P hs step (bs.length + 1) 0 a h (by omega)).1
  rwa [List.drop_zero] at this
end
theorem e_sFor {src : EF Src} {g : GF D} {body : DS} {δ : DEnv} {M M1 : Mem} {s : Src} (h : src δ M = .ok s M1) : sFor src g body δ M = loopS g body s δ M1 := by
  unfold sFor
  rw [h, onV_ok]
theorem dSeqSrc_lst {f : EF D} {δ : DEnv} {M M1 : Mem} {n : Nat} {l : List D} (h : f δ M = .ok (.ref n) M1) (hl : seqOf M1 n = some l) : dSeqSrc f δ M = .ok (.live n) M1 := by
  unfold dSeqSrc
  rw [h]
  show (if (seqOf M1 n).isSome = true then Res.ok (Src.live n) M1 else .bad) = _
  rw [hl]
  rfl
theorem dRng1_ok {ga : EF (List D)} {δ : DEnv} {M M1 : Mem} {j : Nat} (h : ga δ M = .ok [.int j] M1) (hj : j < 2 ^ 62) : dRng1 ga δ M = .ok (.items ((List.range j).map fun k : Nat => .int k)) M1 := by
  unfold dRng1
  rw [h, bind_ok]
  dsimp only
  rw [if_pos ⟨by omega, by omega⟩]
  unfold intsR
  simp
theorem oSl_lst {M : Mem} {n : Nat} {l : List D} (h : seqOf M n = some l) (lo hi : Option Int) : oSl (.ref n) lo hi M = some (.ref M.length, M ++ [.lst (cutD l lo hi)]) := by
  show (seqOf M n).map (fun l => (D.ref M.length, M ++ [MO.lst (cutD l lo hi)])) = _
  rw [h]
  rfl
theorem cutD_tail (l : List D) : cutD l (some 1) none = l.drop 1 := by
  unfold cutD
  rw [HT.sIx_none, show (1 : Int) = ((1 : Nat) : Int) from rfl, HT.sIx_nat]
  cases l with
  | nil => rfl
  | cons a l => simp
end Pd
namespace Pd
open PySem
/-! ### in a list -/
theorem any_pln {a : D} {m : Nat} (ha : pln m a = true) : ∀ {l : List D} {n : Nat}, plnL n l = true → (toPyL l).any (fun z => PyData.eqv z (toPy a)) = l.any fun z => deq z a
  | [], _, _ => rfl
  | d :: l, n, h => by
    unfold plnL at h
    obtain ⟨h1, h2⟩ := Bool.and_eq_true_iff.mp h
    unfold toPyL
    rw [List.any_cons, List.any_cons, any_pln ha h2]
    congr 1
    rw [Bool.eq_iff_iff, eqv_pln d a n m h1 ha, deq_iff]
theorem oIn_tup {M : Mem} {t l : List D} {n k m : Nat} (hs : seqOf M k = some l) (ha : pln m (.tup t) = true) (hl : plnL n l = true) (hm : m < 20) (hn : n < 19) : oIn (.tup t) (.ref k) M = some (.bl (l.any fun z => deq z (.tup t)), M) := by
  obtain ⟨q1, q2⟩ := lay_pln (.tup t) m ha
  obtain ⟨q3, q4⟩ := layL_pln l n hl
  have e1 : pyD M FU (.tup t) = some (toPy (.tup t)) := pyD_pln M (.tup t) m FU ha hm
  have e2 : pyD M FU (.ref k) = some (.list (toPyL l)) := by
    show pyD M (19 + 1) (.ref k) = _
    unfold pyD
    rw [hs]
    dsimp only
    rw [pyL_pln M l n 19 hl hn]
    rfl
  have s1 : SeqAt.shaped (toPy (.tup t)) = true := by unfold SeqAt.shaped; rw [q1, decide_eq_true (by omega : (toPy (.tup t)).depth ≤ 64)]; rfl
  have s2 : SeqAt.shaped (.list (toPyL l)) = true := by
    unfold SeqAt.shaped PyData.canLay0 PyData.depth
    rw [q3, decide_eq_true (by omega)]
    rfl
  have e3 : inDeep (.tup t) (.ref k) M = some (l.any fun z => deq z (.tup t)) := by
    unfold inDeep
    dsimp only
    rw [e1, e2]
    dsimp only
    rw [s1, s2]
    show some _ = _
    rw [any_pln ha hl]
  show (dInB (.tup t) (.ref k) M).map _ = _
  have e4 : dInB (.tup t) (.ref k) M = some (l.any fun z => deq z (.tup t)) := by
    unfold dInB
    have i1 : inStr (.tup t) (.ref k) = none := rfl
    have i2 : inFlat (.tup t) (.ref k) M = none := rfl
    rw [i1, i2]
    dsimp only
    rw [e3]
  rw [e4]
  rfl
/-! ### [..] if .. else [] -/
theorem e_ifLst {c : EF Bool} {x : D} {δ : DEnv} {M : Mem} {b : Bool} (h : c δ M = .ok b M) : dIf c (dLst (aCons (dC x) aNil)) (dLst aNil) δ M = .ok (.ref M.length) (M ++ [.lst (if b = true then [x] else [])]) := by
  have h1 : 1 ≤ sizeLine := by decide
  cases b <;> simp [h, h1]
theorem lstOf_end {M : Mem} {n : Nat} {l : List D} (h : n = M.length) : lstOf (M ++ [.lst l]) n = some l := by rw [h]; exact lstOf_mid M l []
theorem seqOf_end {M : Mem} {n : Nat} {l : List D} (h : n = M.length) : seqOf (M ++ [.lst l]) n = some l := by rw [h]; exact seqOf_mid M l []
theorem get_end {M : Mem} {m : MO} : (M ++ [m])[M.length]? = some m := by simp
/-! ### a list that grows in place -/
def onL (M1 : Mem) (A : List D) (G : Mem) : Mem := M1 ++ MO.lst A :: G
theorem onL_new (M1 : Mem) (A : List D) : M1 ++ [MO.lst A] = onL M1 A [] := rfl
theorem onL_snoc (M1 : Mem) (A : List D) (G : Mem) (m : MO) : onL M1 A G ++ [m] = onL M1 A (G ++ [m]) := by unfold onL; simp
@[simp] theorem seqOf_onL (M1 : Mem) (A : List D) (G : Mem) : seqOf (onL M1 A G) M1.length = some A := seqOf_mid M1 A G
@[simp] theorem lstOf_onL (M1 : Mem) (A : List D) (G : Mem) : lstOf (onL M1 A G) M1.length = some A := lstOf_mid M1 A G
theorem oApp_onL {M1 : Mem} {A : List D} {G : Mem} {d : D} (h : A.length < sizeLine) : oApp (.ref M1.length) [d] (onL M1 A G) = some (.non, onL M1 (A ++ [d]) G) := by
  show (match lstOf (onL M1 A G) M1.length with
    | some xs => if xs.length < sizeLine then some (D.non, (onL M1 A G).set M1.length (.lst (xs ++ [d]))) else none
    | none => none) = _
  rw [lstOf_onL]
  dsimp only
  rw [if_pos h]
  unfold onL
  rw [List.set_append_right _ _ (Nat.le_refl _), Nat.sub_self]
  rfl
theorem isLst_onL {M1 : Mem} {A : List D} {G : Mem} : isLst (.ref M1.length) (onL M1 A G) = true := by
  show (seqOf (onL M1 A G) M1.length).isSome = true
  rw [seqOf_onL]
  rfl
theorem e_app {M1 : Mem} {A : List D} {G : Mem} {f e : EF D} {d : D} {δ : DEnv} (hf : f δ (onL M1 A G) = .ok (.ref M1.length) (onL M1 A G)) (he : e δ (onL M1 A G) = .ok d (onL M1 A G)) (h : A.length < sizeLine) :
    dMt isLst oApp f (aCons e aNil) δ (onL M1 A G) = .ok .non (onL M1 (A ++ [d]) G) := by
  rw [e_dMt, hf, bind_ok, isLst_onL, if_pos rfl, e_aCons, he]
  simp [oApp_onL h]
theorem e_ifApp {M1 M : Mem} {A : List D} {G : Mem} {c : EF Bool} {f : EF D} {d : D} {b : Bool} {δ : DEnv} (hc : c δ M = .ok b (onL M1 A G)) (hf : f δ (onL M1 A G) = .ok (.ref M1.length) (onL M1 A G)) (h : A.length < sizeLine) :
    sIf c (sSeq (sDrop (dMt isLst oApp f (aCons (dC d) aNil))) (sNil)) (sNil) δ M = .nx δ (onL M1 (A ++ (if b = true then [d] else [])) G) := by
  rw [e_sIf, hc, onV_ok]
  cases b with
  | true => rw [if_pos rfl, if_pos rfl, e_sSeq, e_sDrop, e_app hf rfl h]; rfl
  | false => rw [if_neg Bool.false_ne_true, if_neg Bool.false_ne_true, List.append_nil]; rfl
end Pd
namespace Pd
open PySem
theorem gc_some (M X : Mem) (b : Bool) : ∃ M', gcR M (.ok (.bl b) X) = .ok (.bl b) M' := by
  show ∃ M', gcV M (.bl b) X = _
  unfold gcV
  split
  · exact ⟨X.take M.length, if_pos rfl⟩
  · exact ⟨_, rfl⟩
/-! ### loops by an invariant -/
theorem forL_inv {g : GF D} {body : DS} (I : Nat → DEnv → Mem → Prop) : ∀ (bs : List D) (k : Nat) (δ : DEnv) (M : Mem), I k δ M →
    (∀ i d, bs[i]? = some d → ∀ δ M, I (k + i) δ M → ∃ δ1 M1 δ2 M2, g d δ M = some (δ1, M1) ∧ body δ1 M1 = .nx δ2 M2 ∧ I (k + i + 1) δ2 M2) →
    ∃ δ' M', forL g body bs δ M = .nx δ' M' ∧ I (k + bs.length) δ' M'
  | [], k, δ, M, h, _ => ⟨δ, M, rfl, h⟩
  | b :: bs, k, δ, M, h, step => by
    obtain ⟨δ1, M1, δ2, M2, e1, e2, h2⟩ := step 0 b rfl δ M h
    obtain ⟨δ', M', e3, h3⟩ := forL_inv I bs (k + 1) δ2 M2 h2 fun i d hd δ M hI => by
      have := step (i + 1) d (by simpa using hd) δ M (by rw [show k + (i + 1) = k + 1 + i by omega]; exact hI)
      rw [show k + (i + 1) + 1 = k + 1 + i + 1 by omega] at this
      exact this
    refine ⟨δ', M', ?_, by rw [List.length_cons, show k + (bs.length + 1) = k + 1 + bs.length by omega]; exact h3⟩
    rw [e_forL_cons, e1, onG_some]
    dsimp only
    rw [e2, loopK_nx, e3]
theorem range_get {n i : Nat} {d : D} (h : ((List.range n).map fun k : Nat => D.int k)[i]? = some d) : d = .int i ∧ i < n := by
  rw [List.getElem?_map] at h
  by_cases hi : i < n
  · rw [List.getElem?_range hi] at h
    exact ⟨(Option.some.inj h).symm, hi⟩
  · rw [List.getElem?_eq_none (by rw [List.length_range]; omega)] at h
    cases h
/-- for over range: the turns -/
theorem for_range {g : GF D} {body : DS} {src : EF Src} {δ : DEnv} {M M1 : Mem} {n : Nat} (I : Nat → DEnv → Mem → Prop) (hs : src δ M = .ok (.items ((List.range n).map fun k : Nat => D.int k)) M1) (h0 : I 0 δ M1)
    (step : ∀ i, i < n → ∀ δ M, I i δ M → ∃ δ1 M1 δ2 M2, g (.int i) δ M = some (δ1, M1) ∧ body δ1 M1 = .nx δ2 M2 ∧ I (i + 1) δ2 M2) : ∃ δ' M', sFor src g body δ M = .nx δ' M' ∧ I n δ' M' := by
  rw [e_sFor hs]
  obtain ⟨δ', M', e, h⟩ := forL_inv I ((List.range n).map fun k : Nat => D.int k) 0 δ M1 h0 fun i d hd δ M hI => by
    obtain ⟨rfl, hi⟩ := range_get hd
    rw [Nat.zero_add] at hI ⊢
    exact step i hi δ M hI
  refine ⟨δ', M', e, ?_⟩
  simpa using h
theorem forF_inv {g : GF D} {body : DS} {n : Nat} {l : List D} (I : Nat → DEnv → Mem → Prop) (hI : ∀ i δ M, I i δ M → seqOf M n = some l)
    (step : ∀ i d, l[i]? = some d → ∀ δ M, I i δ M → ∃ δ1 M1 δ2 M2, g d δ M = some (δ1, M1) ∧ body δ1 M1 = .nx δ2 M2 ∧ I (i + 1) δ2 M2) : ∀ (k i : Nat) (δ : DEnv) (M : Mem), i ≤ l.length → l.length - i < k → I i δ M → ∃ δ' M', forF (.live n) g body k i δ M = .nx δ' M' ∧ I l.length δ' M'
  | 0, _, _, _, _, h, _ => by omega
  | k + 1, i, δ, M, hi, hk, h => by
    unfold forF
    have e0 : Src.item M i (.live n) = some l[i]? := by
      show (seqOf M n).map (fun l => l[i]?) = _
      rw [hI i δ M h]
      rfl
    rw [e0]
    cases c : l[i]? with
    | none =>
      have : i = l.length := by have := List.getElem?_eq_none_iff.mp c; omega
      subst this
      exact ⟨δ, M, rfl, h⟩
    | some d =>
      have hi2 := (List.getElem?_eq_some_iff.mp c).1
      obtain ⟨δ1, M1, δ2, M2, e1, e2, h2⟩ := step i d c δ M h
      obtain ⟨δ', M', e3, h3⟩ := forF_inv I hI step k (i + 1) δ2 M2 (by omega) (by omega) h2
      refine ⟨δ', M', ?_, h3⟩
      dsimp only
      rw [e1, onG_some]
      dsimp only
      rw [e2]
      exact e3
theorem for_live {g : GF D} {body : DS} {src : EF Src} {δ : DEnv} {M M1 : Mem} {n : Nat} {l : List D} (I : Nat → DEnv → Mem → Prop) (hs : src δ M = .ok (.live n) M1) (hI : ∀ i δ M, I i δ M → seqOf M n = some l) (h0 : I 0 δ M1)
    (step : ∀ i d, l[i]? = some d → ∀ δ M, I i δ M → ∃ δ1 M1 δ2 M2, g d δ M = some (δ1, M1) ∧ body δ1 M1 = .nx δ2 M2 ∧ I (i + 1) δ2 M2) : ∃ δ' M', sFor src g body δ M = .nx δ' M' ∧ I l.length δ' M' := by
  rw [e_sFor hs]
  have sz : Src.size M1 (.live n) = l.length := by
    show ((seqOf M1 n).getD []).length = _
    rw [hI 0 δ M1 h0]
    rfl
  show ∃ δ' M', forF (.live n) g body (Src.size M1 (.live n) + 1) 0 δ M1 = .nx δ' M' ∧ _
  rw [sz]
  exact forF_inv I hI step (l.length + 1) 0 δ M1 (Nat.zero_le _) (by omega) h0
/-! ### comprehensions over a list of the store -/
theorem compF_live {n : Nat} {g : GF D} {tt : EF Bool} {te : EF D} {δ : DEnv} {M0 : Mem} {l : List D} (hs : seqOf M0 n = some l) (p : D → Bool) (f : D → D)
    (h : ∀ d ∈ l, ∀ acc, ∃ δ', g d δ (M0 ++ [.lst acc]) = some (δ', M0 ++ [.lst acc]) ∧ tt δ' (M0 ++ [.lst acc]) = .ok (p d) (M0 ++ [.lst acc]) ∧ (p d = true → te δ' (M0 ++ [.lst acc]) = .ok (f d) (M0 ++ [.lst acc]))) :
    ∀ (k i : Nat) (acc : List D), l.length - i < k → acc.length + (l.length - i) ≤ sizeLine → compF M0.length g tt te δ (.live n) k i (M0 ++ [.lst acc]) = some (M0 ++ [.lst (acc ++ ((l.drop i).filter p).map f)])
  | 0, _, _, hk, _ => by omega
  | k + 1, i, acc, hk, hl => by
    unfold compF
    have e0 : Src.item (M0 ++ [.lst acc]) i (.live n) = some l[i]? := by
      show (seqOf (M0 ++ [.lst acc]) n).map (fun l => l[i]?) = _
      rw [seqOf_app _ hs]
      rfl
    rw [e0]
    cases c : l[i]? with
    | none =>
      rw [List.drop_eq_nil_of_le (List.getElem?_eq_none_iff.mp c)]
      simp
    | some d =>
      obtain ⟨hi, ed⟩ := List.getElem?_eq_some_iff.mp c
      have hd : d ∈ l := ed ▸ List.getElem_mem hi
      obtain ⟨δ', h1, h2, h3⟩ := h d hd acc
      have step : compStep M0.length g tt te δ d (M0 ++ [.lst acc]) = some (M0 ++ [.lst (acc ++ (if p d = true then [f d] else []))]) := by
        unfold compStep
        rw [h1]
        dsimp only
        rw [h2]
        dsimp only
        by_cases hp : p d = true
        · rw [if_pos hp, if_pos hp, h3 hp]
          dsimp only
          rw [lstOf_mid]
          dsimp only
          rw [if_pos (by omega)]
          simp
        · rw [if_neg hp, if_neg hp, List.append_nil]
      dsimp only
      rw [step, Option.bind_some, compF_live hs p f h k (i + 1) _ (by omega) (by rw [List.length_append]; split <;> simp <;> omega), List.drop_eq_getElem_cons hi, ed]
      by_cases hp : p d = true
      · simp [hp]
      · simp [hp]
theorem dLc_live {own : List Nat} {src : EF Src} {g : GF D} {tt : EF Bool} {te : EF D} {δ : DEnv} {M M1 : Mem} {n : Nat} {l : List D} (p : D → Bool) (f : D → D) (hs : src δ M = .ok (.live n) M1) (hq : seqOf M1 n = some l) (hl : l.length ≤ sizeLine)
    (h : ∀ d ∈ l, ∀ acc, ∃ δ', g d (wipeD δ own) (M1 ++ [.lst acc]) = some (δ', M1 ++ [.lst acc]) ∧ tt δ' (M1 ++ [.lst acc]) = .ok (p d) (M1 ++ [.lst acc]) ∧ (p d = true → te δ' (M1 ++ [.lst acc]) = .ok (f d) (M1 ++ [.lst acc]))) :
    dLc own src g tt te δ M = .ok (.ref M1.length) (M1 ++ [.lst ((l.filter p).map f)]) := by
  unfold dLc
  rw [hs, bind_ok]
  have sz : Src.size (M1 ++ [MO.lst []]) (.live n) = l.length := by
    show ((seqOf (M1 ++ [MO.lst []]) n).getD []).length = _
    rw [seqOf_app _ hq]
    rfl
  have e : compS M1.length g tt te (wipeD δ own) (.live n) (M1 ++ [MO.lst []]) = some (M1 ++ [.lst ((l.filter p).map f)]) := by
    show compF M1.length g tt te (wipeD δ own) (.live n) (Src.size (M1 ++ [MO.lst []]) (.live n) + 1) 0 (M1 ++ [MO.lst []]) = _
    rw [sz, compF_live hq p f h (l.length + 1) 0 [] (by omega) (by simpa using hl)]
    simp
  rw [e]
theorem dLive_ok {f : EF D} {δ : DEnv} {M M1 : Mem} {n : Nat} {l : List D} (h : f δ M = .ok (.ref n) M1) (hl : seqOf M1 n = some l) : dLive f δ M = .ok (.live n) M1 := by
  unfold dLive
  rw [h, bind_ok]
  show (if (seqOf M1 n).isSome = true then Res.ok (Src.live n) M1 else .bad) = _
  rw [hl]
  rfl
theorem strsD_map : ∀ (l : List Str), strsD (l.map D.str) = some l
  | [] => rfl
  | s :: l => by
    rw [List.map_cons]
    unfold strsD
    rw [strsD_map l]
    rfl
theorem oJoin_lst {M : Mem} {s : Str} {n : Nat} {ys : List Str} (h : seqOf M n = some (ys.map .str)) (hz : (ys.map (·.length)).sum + ys.length * s.length ≤ 16777216) : oJoin (.str s) [.ref n] M = some (.str (Txt.join s ys), M) := by
  show (match seqOf M n with
    | some m => match strsD m with
      | some ys => if (ys.map Str.length).sum + ys.length * s.length ≤ 16777216 then some (D.str (Txt.join s ys), M) else none
      | none => none
    | none => none) = _
  rw [h]
  dsimp only
  rw [strsD_map]
  dsimp only
  rw [if_pos hz]
/-! ### a store into a list -/
theorem e_gSb {f i : EF D} {d : D} {δ : DEnv} {M : Mem} {n j : Nat} {k : Int} {l : List D} (hf : f δ M = .ok (.ref n) M) (hi : i δ M = .ok (.int k) M) (hl : lstOf M n = some l) (hj : L2.ixN l.length k = some j) : gSb f i d δ M = some (δ, M.set n (.lst (l.set j d))) := by
  unfold gSb
  rw [hf]
  dsimp only
  rw [hi]
  dsimp only
  rw [hl]
  dsimp only
  rw [hj]
  rfl
theorem lstOf_set {M : Mem} {n : Nat} {l : List D} (h : n < M.length) : lstOf (M.set n (.lst l)) n = some l := by
  unfold lstOf
  rw [List.getElem?_set_self h]
theorem lstOf_lt {M : Mem} {n : Nat} {l : List D} (h : lstOf M n = some l) : n < M.length := by
  unfold lstOf at h
  split at h
  · rename_i e; exact (List.getElem?_eq_some_iff.mp e).1
  · cases h
theorem seqOf_lt {M : Mem} {n : Nat} {l : List D} (h : seqOf M n = some l) : n < M.length := by
  unfold seqOf at h
  split at h
  · rename_i e; exact (List.getElem?_eq_some_iff.mp e).1
  · rename_i e; exact (List.getElem?_eq_some_iff.mp e).1
  · cases h
theorem seqOf_set_ne {M : Mem} {n k : Nat} {m : MO} (h : k ≠ n) : seqOf (M.set n m) k = seqOf M k := by
  unfold seqOf
  rw [List.getElem?_set_ne (Ne.symm h)]
theorem set_app {M G : Mem} {n : Nat} {m : MO} (h : n < M.length) : (M ++ G).set n m = M.set n m ++ G := List.set_append_left _ _ h
/-! ### drawing: a list of two numbers is changed -/
def srcM (a b : Int) : MO := .lst [.int a, .int b]
def okS (M : Mem) (s : Nat) : Prop := ∃ a b : Int, lstOf M s = some [.int a, .int b] ∧ 0 ≤ a ∧ 0 ≤ b ∧ b < 2 ^ 40
/-- r: a value of P comes, the source at s goes on -/
def Dr (s : Nat) (M : Mem) (P : D → Prop) (r : Res D) : Prop := ∃ (d : D) (a b : Int), P d ∧ 0 ≤ a ∧ 0 ≤ b ∧ b < 2 ^ 40 ∧ r = .ok d (M.set s (srcM a b))
theorem okS.lt {M : Mem} {s : Nat} (h : okS M s) : s < M.length := by
  obtain ⟨a, b, e, _⟩ := h
  exact lstOf_lt e
theorem okS.app {M G : Mem} {s : Nat} (h : okS M s) : okS (M ++ G) s := by
  obtain ⟨a, b, e, r⟩ := h
  exact ⟨a, b, lstOf_app G e, r⟩
theorem okS.set {M : Mem} {s : Nat} {a b : Int} (h : s < M.length) (ha : 0 ≤ a) (hb : 0 ≤ b) (hb2 : b < 2 ^ 40) : okS (M.set s (srcM a b)) s := ⟨a, b, lstOf_set h, ha, hb, hb2⟩
theorem below_src (n : Nat) (a b : Int) : belowM n (srcM a b) = true := rfl
end Pd
namespace Pd
open PySem PySem.Spec PyProof.Rows L2
/-! ### tuples of texts in the top -/
def tupsB (K : PySem.W.Frag) (l : List (Str × List Str)) : Bool := l.all fun p => He.tupB K p.1 (p.2.map .str)
theorem tup_ok {fa : List He.Fa} {fn : List He.DefD} {K : PySem.W.Frag} {h : Heap} {mg : Str → Option Value} (X : K.In h) (Gn : h.Ns mainGlobals mg) (c : He.SaysD fa fn K) {T : TB} {lv : Nat} {P : Program} {w : World} {base : Heap} {G : List (Str × GD)} (g : GAll T lv P w K mg base G) :
    ∀ (l : List (Str × List Str)), (∀ p ∈ l, He.Fa.glo p.1 ∈ fa) → tupsB K l = true → GAll T lv P w K mg base (l.map (fun p => (p.1, GD.tup p.2)) ++ G)
  | [], _, _ => g
  | p :: l, hs, hb => by
    have hb' : (He.tupB K p.1 (p.2.map .str) && tupsB K l) = true := hb
    obtain ⟨b1, b2⟩ := Bool.and_eq_true_iff.mp hb'
    refine (tup_ok X Gn c g l (fun q hq => hs q (List.mem_cons_of_mem _ hq)) b2).add (Nat.le_refl _) ?_
    refine ⟨_, He.glo_ok X Gn (c.facts (hs p List.mem_cons_self)), fun H => ?_⟩
    have := He.tupB_ok b1 H
    rwa [List.map_map, show (He.Dv.v K ∘ He.Dv.str) = V.str from rfl] at this
end Pd
namespace Pd
open PySem
/-! ### what comes: stepping backwards -/
def WQ {α : Type} (r : α) (Q : α → Prop) : Prop := Q r
/-- a turn of a loop, and what comes behind the loop -/
def StepQ (I : DEnv → Mem → Prop) (k : DEnv → Mem → ResS) (Q : ResS → Prop) : ResS → Prop
  | .nx δ M => I δ M
  | .ct δ M => I δ M
  | .bk δ M => Q (k δ M)
  | .rt d M => Q (.rt d M)
  | .exc x δ M => Q (.exc x δ M)
  | .bad => False
theorem wq_forL {g : GF D} {body : DS} {k : DEnv → Mem → ResS} {Q : ResS → Prop} (I : Nat → DEnv → Mem → Prop) : ∀ (l : List D) (i0 : Nat) (δ : DEnv) (M : Mem), I i0 δ M →
    (∀ i d, l[i]? = some d → ∀ δ M, I (i0 + i) δ M → WQ (onG (g d δ M) body) (StepQ (I (i0 + i + 1)) k Q)) → (∀ δ M, I (i0 + l.length) δ M → WQ (k δ M) Q) →
    WQ (seqK (forL g body l δ M) k) Q
  | [], i0, δ, M, h, _, hp => hp δ M h
  | d :: l, i0, δ, M, h, st, hp => by
    have s0 := st 0 d rfl δ M h
    rw [e_forL_cons]
    have rest : ∀ δ2 M2, I (i0 + 1) δ2 M2 → WQ (seqK (forL g body l δ2 M2) k) Q := fun δ2 M2 h2 => wq_forL I l (i0 + 1) δ2 M2 h2 (fun i d' hd δ M hI => by
      have := st (i + 1) d' (by simpa using hd) δ M (by rw [show i0 + (i + 1) = i0 + 1 + i by omega]; exact hI)
      rwa [show i0 + (i + 1) + 1 = i0 + 1 + i + 1 by omega] at this) fun δ M hI => hp δ M (by rw [List.length_cons, show i0 + (l.length + 1) = i0 + 1 + l.length by omega]; exact hI)
    cases hg : g d δ M with
    | none => rw [hg] at s0; exact s0.elim
    | some p =>
      rw [hg] at s0
      show WQ (seqK (loopK (body p.1 p.2) (forL g body l)) k) Q
      have s0 : WQ (body p.1 p.2) (StepQ (I (i0 + 0 + 1)) k Q) := s0
      cases hb : body p.1 p.2 with
      | nx δ2 M2 => rw [hb] at s0; exact rest _ _ s0
      | ct δ2 M2 => rw [hb] at s0; exact rest _ _ s0
      | bk δ2 M2 => rw [hb] at s0; exact s0
      | rt d2 M2 => rw [hb] at s0; exact s0
      | exc x δ2 M2 => rw [hb] at s0; exact s0
      | bad => rw [hb] at s0; exact s0.elim
theorem wq_for {src : EF Src} {g : GF D} {body : DS} {k : DEnv → Mem → ResS} {Q : ResS → Prop} {δ : DEnv} {M : Mem} (l : List D) (I : Nat → DEnv → Mem → Prop)
    (hs : ∃ M1, src δ M = .ok (.items l) M1 ∧ I 0 δ M1)
    (st : ∀ i d, l[i]? = some d → ∀ δ M, I i δ M → WQ (onG (g d δ M) body) (StepQ (I (i + 1)) k Q)) (hp : ∀ δ M, I l.length δ M → WQ (k δ M) Q) :
    WQ (seqK (sFor src g body δ M) k) Q := by
  obtain ⟨M1, e, h0⟩ := hs
  rw [e_sFor e]
  exact wq_forL I l 0 δ M1 h0 (fun i d hd δ M hI => by rw [Nat.zero_add] at hI ⊢; exact st i d hd δ M hI) fun δ M hI => hp δ M (by rwa [Nat.zero_add] at hI)
/-- over range(n) -/
theorem wq_rng {src : EF Src} {g : GF D} {body : DS} {k : DEnv → Mem → ResS} {Q : ResS → Prop} {δ : DEnv} {M : Mem} (n : Nat) (I : Nat → DEnv → Mem → Prop)
    (hs : ∃ M1, src δ M = .ok (.items ((List.range n).map fun k : Nat => D.int k)) M1 ∧ I 0 δ M1)
    (st : ∀ i, i < n → ∀ δ M, I i δ M → WQ (onG (g (.int i) δ M) body) (StepQ (I (i + 1)) k Q)) (hp : ∀ δ M, I n δ M → WQ (k δ M) Q) :
    WQ (seqK (sFor src g body δ M) k) Q :=
  wq_for _ I hs (fun i d hd δ M hI => by obtain ⟨rfl, hi⟩ := range_get hd; exact st i hi δ M hI) fun δ M hI => hp δ M (by simpa using hI)
/-- over a list of the store, which stays -/
theorem wq_forF {n : Nat} {g : GF D} {body : DS} {k : DEnv → Mem → ResS} {Q : ResS → Prop} (en : Bool) (l : List D) (I : Nat → DEnv → Mem → Prop) (hI : ∀ i δ M, I i δ M → seqOf M n = some l)
    (st : ∀ i d, l[i]? = some d → ∀ δ M, I i δ M → WQ (onG (g (if en = true then .tup [.int i, d] else d) δ M) body) (StepQ (I (i + 1)) k Q)) (hp : ∀ δ M, I l.length δ M → WQ (k δ M) Q) :
    ∀ (m i : Nat) (δ : DEnv) (M : Mem), i ≤ l.length → l.length - i < m → I i δ M → WQ (seqK (forF (if en = true then .liveE n else .live n) g body m i δ M) k) Q
  | 0, _, _, _, _, h, _ => by omega
  | m + 1, i, δ, M, hi, hk, h => by
    unfold forF
    have e0 : Src.item M i (if en = true then .liveE n else .live n) = some (l[i]?.map fun d => if en = true then .tup [.int (i : Nat), d] else d) := by
      cases en with
      | true =>
        show (seqOf M n).map (fun l => l[i]?.map fun d => D.tup [.int (i : Nat), d]) = _
        rw [hI i δ M h]
        rfl
      | false =>
        show (seqOf M n).map (fun l => l[i]?) = _
        rw [hI i δ M h]
        simp
    rw [e0]
    cases c : l[i]? with
    | none =>
      have : i = l.length := by have := List.getElem?_eq_none_iff.mp c; omega
      subst this
      exact hp δ M h
    | some d =>
      have hi2 := (List.getElem?_eq_some_iff.mp c).1
      have s0 := st i d c δ M h
      dsimp only [Option.map_some]
      generalize (if en = true then D.tup [.int (i : Nat), d] else d) = d' at s0 ⊢
      have rest : ∀ δ2 M2, I (i + 1) δ2 M2 → WQ (seqK (forF (if en = true then .liveE n else .live n) g body m (i + 1) δ2 M2) k) Q := fun δ2 M2 h2 => wq_forF en l I hI st hp m (i + 1) δ2 M2 (by omega) (by omega) h2
      cases hg : g d' δ M with
      | none => rw [hg] at s0; exact s0.elim
      | some p =>
        rw [hg] at s0
        rw [onG_some]
        have s0 : WQ (body p.1 p.2) (StepQ (I (i + 1)) k Q) := s0
        cases hb : body p.1 p.2 with
        | nx δ2 M2 => rw [hb] at s0; exact rest _ _ s0
        | ct δ2 M2 => rw [hb] at s0; exact rest _ _ s0
        | bk δ2 M2 => rw [hb] at s0; exact s0
        | rt d2 M2 => rw [hb] at s0; exact s0
        | exc x δ2 M2 => rw [hb] at s0; exact s0
        | bad => rw [hb] at s0; exact s0.elim
theorem wq_live {src : EF Src} {g : GF D} {body : DS} {k : DEnv → Mem → ResS} {Q : ResS → Prop} {δ : DEnv} {M : Mem} (n : Nat) (l : List D) (I : Nat → DEnv → Mem → Prop)
    (hI : ∀ i δ M, I i δ M → seqOf M n = some l) (hs : ∃ M1, src δ M = .ok (.live n) M1 ∧ I 0 δ M1)
    (st : ∀ i d, l[i]? = some d → ∀ δ M, I i δ M → WQ (onG (g d δ M) body) (StepQ (I (i + 1)) k Q)) (hp : ∀ δ M, I l.length δ M → WQ (k δ M) Q) :
    WQ (seqK (sFor src g body δ M) k) Q := by
  obtain ⟨M1, e, h0⟩ := hs
  rw [e_sFor e]
  have sz : Src.size M1 (.live n) = l.length := by
    show ((seqOf M1 n).getD []).length = _
    rw [hI 0 δ M1 h0]
    rfl
  show WQ (seqK (forF (.live n) g body (Src.size M1 (.live n) + 1) 0 δ M1) k) Q
  rw [sz]
  exact wq_forF false l I hI st hp (l.length + 1) 0 δ M1 (Nat.zero_le _) (by omega) h0
/-- a while by a measure -/
theorem wq_while {c : EF Bool} {body : DS} {k : DEnv → Mem → ResS} {Q : ResS → Prop} (I : Nat → DEnv → Mem → Prop)
    (st : ∀ m δ M, I m δ M → ∃ b M1, c δ M = .ok b M1 ∧ if b = true then WQ (body δ M1) (StepQ (fun δ M => ∃ m', m' < m ∧ I m' δ M) k Q) else WQ (k δ M1) Q)
    : ∀ (m : Nat) (δ : DEnv) (M : Mem), I m δ M → WQ (seqK (sWh c body δ M) k) Q := by
  have key : ∀ (m : Nat) (δ : DEnv) (M : Mem), I m δ M → ∃ n, whF c body n δ M ≠ .bad ∧ WQ (seqK (whF c body n δ M) k) Q := by
    intro m
    induction m using Nat.strongRecOn with
    | _ m ih =>
      intro δ M h
      obtain ⟨b, M1, e, s⟩ := st m δ M h
      cases b with
      | false =>
        refine ⟨1, ?_, ?_⟩
        · unfold whF; rw [e]; exact nofun
        · unfold whF; rw [e]; exact s
      | true =>
        rw [if_pos rfl] at s
        cases hb : body δ M1 with
        | nx δ2 M2 =>
          rw [hb] at s
          obtain ⟨m', hm, h'⟩ := s
          obtain ⟨n, h1, h2⟩ := ih m' hm δ2 M2 h'
          have e2 : whF c body (n + 1) δ M = whF c body n δ2 M2 := by
            conv => lhs; unfold whF
            rw [e, onV_ok, if_pos rfl, hb]
          exact ⟨n + 1, by rw [e2]; exact h1, by rw [e2]; exact h2⟩
        | ct δ2 M2 =>
          rw [hb] at s
          obtain ⟨m', hm, h'⟩ := s
          obtain ⟨n, h1, h2⟩ := ih m' hm δ2 M2 h'
          have e2 : whF c body (n + 1) δ M = whF c body n δ2 M2 := by
            conv => lhs; unfold whF
            rw [e, onV_ok, if_pos rfl, hb]
          exact ⟨n + 1, by rw [e2]; exact h1, by rw [e2]; exact h2⟩
        | bk δ2 M2 =>
          rw [hb] at s
          have e2 : whF c body 1 δ M = .nx δ2 M2 := by
            unfold whF
            rw [e, onV_ok, if_pos rfl, hb]
          exact ⟨1, by rw [e2]; exact nofun, by rw [e2]; exact s⟩
        | rt d M2 =>
          rw [hb] at s
          have e2 : whF c body 1 δ M = .rt d M2 := by
            unfold whF
            rw [e, onV_ok, if_pos rfl, hb]
          exact ⟨1, by rw [e2]; exact nofun, by rw [e2]; exact s⟩
        | exc x δ2 M2 =>
          rw [hb] at s
          have e2 : whF c body 1 δ M = .exc x δ2 M2 := by
            unfold whF
            rw [e, onV_ok, if_pos rfl, hb]
          exact ⟨1, by rw [e2]; exact nofun, by rw [e2]; exact s⟩
        | bad => rw [hb] at s; exact s.elim
  intro m δ M h
  obtain ⟨n, h1, h2⟩ := key m δ M h
  rwa [sWh_of n rfl h1]
/-! ### the same, sealed: nothing looks into it -/
@[irreducible] def WP {α : Type} (r : α) (Q : α → Prop) : Prop := Q r
theorem wp_eq {α : Type} (r : α) (Q : α → Prop) : WP r Q = Q r := by unfold WP; rfl
theorem wp_of {α : Type} {r : α} {Q : α → Prop} (h : Q r) : WP r Q := by rw [wp_eq]; exact h
theorem wp_to {α : Type} {r : α} {Q : α → Prop} (h : WP r Q) : Q r := by rw [wp_eq] at h; exact h
section
variable {I : DEnv → Mem → Prop} {k : DEnv → Mem → ResS} {Q : ResS → Prop} {δ : DEnv} {M : Mem} {d : D} {x : Exn}
@[simp] theorem step_nx : WP (ResS.nx δ M) (StepQ I k Q) = I δ M := by rw [wp_eq]; rfl
@[simp] theorem step_ct : WP (ResS.ct δ M) (StepQ I k Q) = I δ M := by rw [wp_eq]; rfl
@[simp] theorem step_bk : WP (ResS.bk δ M) (StepQ I k Q) = WP (k δ M) Q := by rw [wp_eq, wp_eq]; rfl
@[simp] theorem step_rt : WP (ResS.rt d M) (StepQ I k Q) = WP (ResS.rt d M) Q := by rw [wp_eq, wp_eq]; rfl
@[simp] theorem step_exc : WP (ResS.exc x δ M) (StepQ I k Q) = WP (ResS.exc x δ M) Q := by rw [wp_eq, wp_eq]; rfl
end
theorem wp_toQ {α : Type} {r : α} {Q : α → Prop} (h : WP r Q) : WQ r Q := wp_to (r := r) (Q := Q) h
theorem wp_for {src : EF Src} {g : GF D} {body : DS} {k : DEnv → Mem → ResS} {Q : ResS → Prop} {δ : DEnv} {M : Mem} (l : List D) (I : Nat → DEnv → Mem → Prop)
    (hs : ∃ M1, src δ M = .ok (.items l) M1 ∧ I 0 δ M1)
    (st : ∀ i d, l[i]? = some d → ∀ δ M, I i δ M → WP (onG (g d δ M) body) (StepQ (I (i + 1)) k Q)) (hp : ∀ δ M, I l.length δ M → WP (k δ M) Q) :
    WP (seqK (sFor src g body δ M) k) Q :=
  wp_of (wq_for l I hs (fun i d hd δ M h => wp_toQ (st i d hd δ M h)) fun δ M h => wp_toQ (hp δ M h))
theorem wp_rng {src : EF Src} {g : GF D} {body : DS} {k : DEnv → Mem → ResS} {Q : ResS → Prop} {δ : DEnv} {M : Mem} (n : Nat) (I : Nat → DEnv → Mem → Prop)
    (hs : ∃ M1, src δ M = .ok (.items ((List.range n).map fun k : Nat => D.int k)) M1 ∧ I 0 δ M1)
    (st : ∀ i, i < n → ∀ δ M, I i δ M → WP (onG (g (.int i) δ M) body) (StepQ (I (i + 1)) k Q)) (hp : ∀ δ M, I n δ M → WP (k δ M) Q) :
    WP (seqK (sFor src g body δ M) k) Q :=
  wp_of (wq_rng n I hs (fun i hi δ M h => wp_toQ (st i hi δ M h)) fun δ M h => wp_toQ (hp δ M h))
theorem wp_live {src : EF Src} {g : GF D} {body : DS} {k : DEnv → Mem → ResS} {Q : ResS → Prop} {δ : DEnv} {M : Mem} (n : Nat) (l : List D) (I : Nat → DEnv → Mem → Prop)
    (hI : ∀ i δ M, I i δ M → seqOf M n = some l) (hs : ∃ M1, src δ M = .ok (.live n) M1 ∧ I 0 δ M1)
    (st : ∀ i d, l[i]? = some d → ∀ δ M, I i δ M → WP (onG (g d δ M) body) (StepQ (I (i + 1)) k Q)) (hp : ∀ δ M, I l.length δ M → WP (k δ M) Q) :
    WP (seqK (sFor src g body δ M) k) Q :=
  wp_of (wq_live n l I hI hs (fun i d hd δ M h => wp_toQ (st i d hd δ M h)) fun δ M h => wp_toQ (hp δ M h))
theorem wp_while {c : EF Bool} {body : DS} {k : DEnv → Mem → ResS} {Q : ResS → Prop} (I : Nat → DEnv → Mem → Prop)
    (st : ∀ m δ M, I m δ M → ∃ b M1, c δ M = .ok b M1 ∧ if b = true then WP (body δ M1) (StepQ (fun δ M => ∃ m', m' < m ∧ I m' δ M) k Q) else WP (k δ M1) Q)
    (m : Nat) (δ : DEnv) (M : Mem) (h : I m δ M) : WP (seqK (sWh c body δ M) k) Q :=
  wp_of (wq_while I (fun m δ M h => by
    obtain ⟨b, M1, e, s⟩ := st m δ M h
    refine ⟨b, M1, e, ?_⟩
    cases b with
    | true => rw [if_pos rfl] at s ⊢; exact wp_toQ s
    | false => rw [if_neg Bool.false_ne_true] at s ⊢; exact wp_toQ s) m δ M h)
/-! ### the reading of a def -/
theorem fn_of {n : Nat} {den : DS} {l : List D} {M : Mem} {R : Res D} (h : WP (den (l.map some ++ List.replicate (n - l.length) none) M) (fun r => gcR M (toR r) = R)) : fnOf n den l M = R := wp_to (Q := fun r => gcR M (toR r) = R) h
@[simp] theorem wp_rt {d : D} {M M0 : Mem} {R : Res D} : WP (ResS.rt d M) (fun r => gcR M0 (toR r) = R) = (gcR M0 (.ok d M) = R) := by rw [wp_eq]; rfl
@[simp] theorem wp_nx {δ : DEnv} {M M0 : Mem} {R : Res D} : WP (ResS.nx δ M) (fun r => gcR M0 (toR r) = R) = (gcR M0 (.ok .non M) = R) := by rw [wp_eq]; rfl
@[simp] theorem wp_exc {x : Exn} {δ : DEnv} {M M0 : Mem} {R : Res D} : WP (ResS.exc x δ M) (fun r => gcR M0 (toR r) = R) = (gcR M0 (.exc x M) = R) := by rw [wp_eq]; rfl
/-! ### the store's new part -/
section
variable (M G : Mem) (m : MO) (l : List D) (n k : Nat)
theorem sizeLine_val : sizeLine = 16777216 := by decide
theorem seqOf_new : seqOf (M ++ G) (M.length + k) = seqOf G k := by
  unfold seqOf
  rw [List.getElem?_append_right (by omega), Nat.add_sub_cancel_left]
theorem seqOf_new0 : seqOf (M ++ G) M.length = seqOf G 0 := by
  unfold seqOf
  rw [List.getElem?_append_right (Nat.le_refl _), Nat.sub_self]
theorem lstOf_new : lstOf (M ++ G) (M.length + k) = lstOf G k := by
  unfold lstOf
  rw [List.getElem?_append_right (by omega), Nat.add_sub_cancel_left]
theorem lstOf_new0 : lstOf (M ++ G) M.length = lstOf G 0 := by
  unfold lstOf
  rw [List.getElem?_append_right (Nat.le_refl _), Nat.sub_self]
theorem seqOf_c0 : seqOf (.lst l :: G) 0 = some l := nr rfl
theorem seqOf_cS : seqOf (m :: G) (k + 1) = seqOf G k := nr rfl
theorem lstOf_c0 : lstOf (.lst l :: G) 0 = some l := nr rfl
theorem lstOf_cS : lstOf (m :: G) (k + 1) = lstOf G k := nr rfl
theorem seqOf_old (h : n < M.length) : seqOf (M ++ G) n = seqOf M n := by
  unfold seqOf
  rw [List.getElem?_append_left h]
theorem lstOf_old (h : n < M.length) : lstOf (M ++ G) n = lstOf M n := by
  unfold lstOf
  rw [List.getElem?_append_left h]
theorem setM_new : (M ++ G).set (M.length + k) m = M ++ G.set k m := by
  rw [List.set_append_right _ _ (by omega), Nat.add_sub_cancel_left]
theorem setM_new0 : (M ++ G).set M.length m = M ++ G.set 0 m := by
  rw [List.set_append_right _ _ (Nat.le_refl _), Nat.sub_self]
theorem setM_old (h : n < M.length) : (M ++ G).set n m = M.set n m ++ G := List.set_append_left _ _ h
theorem oAdd_ref : oAdd (.ref n) (.ref k) M = (lstOf M n).bind fun l => (lstOf M k).bind fun m => if l.length + m.length ≤ sizeLine then some (.ref M.length, M ++ [.lst (l ++ m)]) else none := by
  show (match lstOf M n, lstOf M k with
    | some l, some m => if l.length + m.length ≤ sizeLine then some (D.ref M.length, M ++ [MO.lst (l ++ m)]) else none
    | _, _ => none) = _
  cases lstOf M n <;> cases lstOf M k <;> rfl
theorem oIx_ref (i : Int) : oIx (.ref n) (.int i) M = (seqOf M n).bind fun l => (L2.atI l i).map fun d => (d, M) := nr rfl
theorem oLen_ref : oLen [.ref n] M = (seqOf M n).map fun l => (.int l.length, M) := nr rfl
theorem oToTup_ref : oToTup [.ref n] M = (seqOf M n).map fun l => (.tup l, M) := nr rfl
theorem oToTup_tup : oToTup [.tup l] M = some (.tup l, M) := nr rfl
theorem oToLst_ref : oToLst [.ref n] M = (seqOf M n).map fun l => (.ref M.length, M ++ [.lst l]) := nr rfl
theorem oToLst_tup : oToLst [.tup l] M = some (.ref M.length, M ++ [.lst l]) := nr rfl
theorem oSl_ref (lo hi : Option Int) : oSl (.ref n) lo hi M = (seqOf M n).map fun l => (.ref M.length, M ++ [.lst (cutD l lo hi)]) := nr rfl
theorem oSl_tup (lo hi : Option Int) : oSl (.tup l) lo hi M = some (.tup (cutD l lo hi), M) := nr rfl
theorem isLst_ref : isLst (.ref n) M = (seqOf M n).isSome := nr rfl
theorem oApp_ref (d : D) : oApp (.ref n) [d] M = (lstOf M n).bind fun xs => if xs.length < sizeLine then some (.non, M.set n (.lst (xs ++ [d]))) else none := by
  show (match lstOf M n with
    | some xs => if xs.length < sizeLine then some (D.non, M.set n (.lst (xs ++ [d]))) else none
    | none => none) = _
  cases lstOf M n <;> rfl
theorem dSeqSrc_bind (f : EF D) (δ : DEnv) : dSeqSrc f δ M = (f δ M).bind fun a M1 => match a with
  | .tup l => .ok (.items l) M1
  | .ref n => if (seqOf M1 n).isSome then .ok (.live n) M1 else .bad
  | _ => .bad := rfl
theorem dRng1_bind (g : EF (List D)) (δ : DEnv) : dRng1 g δ M = (g δ M).bind fun l M1 => match l with
  | [.int j] => if -(2 ^ 62) ≤ j ∧ j < 2 ^ 62 then .ok (.items (intsR 0 j.toNat)) M1 else .bad
  | _ => .bad := rfl
theorem intsR0 (j : Nat) : intsR 0 j = (List.range j).map fun k : Nat => D.int k := by
  unfold intsR
  congr 1
  funext k
  rw [Int.zero_add]
end
end Pd
namespace Pd
open PySem
/-! ### slices, places -/
theorem cutD_to (l : List D) (k : Nat) : cutD l none (some (k : Int)) = l.take k := by
  unfold cutD
  rw [HT.sIx_none, HT.sIx_nat, Nat.sub_zero, List.drop_zero]
  rcases Nat.le_total k l.length with h | h
  · rw [Nat.min_eq_left h]
  · rw [Nat.min_eq_right h, List.take_length, List.take_of_length_le h]
theorem cutD_from (l : List D) (k : Nat) : cutD l (some (k : Int)) none = l.drop k := by
  unfold cutD
  rw [HT.sIx_none, HT.sIx_nat]
  rcases Nat.le_total k l.length with h | h
  · rw [Nat.min_eq_left h, List.take_of_length_le (by rw [List.length_drop]; omega)]
  · rw [Nat.min_eq_right h, List.drop_length, List.take_nil, List.drop_of_length_le h]
theorem cutD_at (l : List D) (j k : Nat) : cutD l (some (j : Int)) (some (k : Int)) = (l.take k).drop j := by
  unfold cutD
  rw [HT.sIx_nat, HT.sIx_nat, List.drop_take]
  rcases Nat.le_total k l.length with h | h <;> rcases Nat.le_total j l.length with g | g
  · rw [Nat.min_eq_left h, Nat.min_eq_left g]
  · rw [Nat.min_eq_left h, Nat.min_eq_right g, List.drop_length, List.take_nil, List.drop_of_length_le g, List.take_nil]
  · rw [Nat.min_eq_right h, Nat.min_eq_left g, List.take_of_length_le (by rw [List.length_drop]; omega), List.take_of_length_le (by rw [List.length_drop]; omega)]
  · rw [Nat.min_eq_right h, Nat.min_eq_right g, List.drop_length, List.take_nil, List.drop_of_length_le g, List.take_nil]
theorem cutD_none (l : List D) : cutD l none none = l := by
  unfold cutD
  rw [HT.sIx_none, HT.sIx_none, List.drop_zero, Nat.sub_zero, List.take_length]
theorem set_cut {α : Type} (l : List α) (i : Nat) (a : α) (h : i < l.length) : l.take i ++ (a :: l.drop (i + 1)) = l.set i a := by
  rw [List.set_eq_take_append_cons_drop, if_pos h]
theorem atI_lt {l : List D} {i : Nat} (h : i < l.length) : L2.atI l (i : Int) = some l[i] := atI_nat (List.getElem?_eq_getElem h)
theorem atI_some {l : List D} {i : Nat} {d : D} (h : l[i]? = some d) : L2.atI l (i : Int) = some d := atI_nat h
theorem ixN_nat {n i : Nat} (h : i < n) : L2.ixN n (i : Int) = some i := by
  unfold L2.ixN
  rw [if_pos (by omega), if_pos (by omega)]
  rfl
theorem intsD_ints (ns : List Int) : intsD (ns.map D.int) = some ns := intsD_of ns
theorem oMin_tup (x : Int) (ns : List Int) (M : Mem) : oMin [.tup (.int x :: ns.map D.int)] M = some (.int (minL ns x), M) := by
  show (match intsD (.int x :: ns.map D.int) with
    | some (x :: r) => some (D.int (minL r x), M)
    | _ => none) = _
  have : intsD (.int x :: ns.map D.int) = some (x :: ns) := intsD_of (x :: ns)
  rw [this]
theorem oSum_tup (ns : List Int) (M : Mem) : oSum [.tup (ns.map D.int)] M = some (.int ns.sum, M) := by
  show (match intsD (ns.map D.int) with
    | some ns => some (D.int ns.sum, M)
    | none => none) = _
  rw [intsD_of ns]
theorem oMin_ref {n : Nat} {M : Mem} {x : Int} {ns : List Int} (h : seqOf M n = some ((x :: ns).map D.int)) : oMin [.ref n] M = some (.int (minL ns x), M) := by
  show (match (seqOf M n).bind intsD with
    | some (x :: r) => some (D.int (minL r x), M)
    | _ => none) = _
  rw [h, Option.bind_some, intsD_of]
theorem oMax_ref {n : Nat} {M : Mem} {x : Int} {ns : List Int} (h : seqOf M n = some ((x :: ns).map D.int)) : oMax [.ref n] M = some (.int (maxL ns x), M) := by
  show (match (seqOf M n).bind intsD with
    | some (x :: r) => some (D.int (maxL r x), M)
    | _ => none) = _
  rw [h, Option.bind_some, intsD_of]
@[simp] theorem oNotN_non {M : Mem} : oNotN .non .non M = some (.bl false, M) := nr rfl
@[simp] theorem oNotN_tup {M : Mem} {l : List D} : oNotN (.tup l) .non M = some (.bl true, M) := nr rfl
/-- over enumerate of a tuple -/
theorem dEnum_tup {f : EF D} {δ : DEnv} {M M1 : Mem} {l : List D} (h : f δ M = .ok (.tup l) M1) : dEnumL (aCons f aNil) δ M = .ok (.items (enumD 0 l)) M1 := by
  unfold dEnumL
  simp [h]
/-! ### one statement behind another -/
theorem wp_seq {r : ResS} {k : DEnv → Mem → ResS} {Q : ResS → Prop} (P : DEnv → Mem → Prop) (h : WP r (fun r => ∃ δ M, r = .nx δ M ∧ P δ M)) (h2 : ∀ δ M, P δ M → WP (k δ M) Q) : WP (seqK r k) Q := by
  obtain ⟨δ, M, e, p⟩ := wp_to h
  subst e
  exact h2 δ M p
@[simp] theorem wp_nxP {δ : DEnv} {M : Mem} {P : DEnv → Mem → Prop} : WP (ResS.nx δ M) (fun r => ∃ δ M, r = .nx δ M ∧ P δ M) = P δ M := by rw [wp_eq]; exact propext ⟨fun ⟨_, _, e, h⟩ => by cases e; exact h, fun h => ⟨_, _, rfl, h⟩⟩
theorem wp_next {r : ResS} {k : DEnv → Mem → ResS} {Q : ResS → Prop} {δ : DEnv} {M : Mem} (h : r = .nx δ M) (h2 : WP (k δ M) Q) : WP (seqK r k) Q := by
  subst h
  exact h2
theorem wp_ret {r : ResS} {k : DEnv → Mem → ResS} {Q : ResS → Prop} {d : D} {M : Mem} (h : r = .rt d M) (h2 : WP (ResS.rt d M) Q) : WP (seqK r k) Q := by
  subst h
  exact h2
theorem wp_raise {r : ResS} {k : DEnv → Mem → ResS} {Q : ResS → Prop} {δ : DEnv} {M : Mem} {x : Exn} (h : r = .exc x δ M) (h2 : WP (ResS.exc x δ M) Q) : WP (seqK r k) Q := by
  subst h
  exact h2
theorem s_asg {f : EF D} {i : Nat} {d : D} {δ : DEnv} {M M1 : Mem} (h : f δ M = .ok d M1) : sAsg f (gNm i) δ M = .nx (δ.set i (some d)) M1 := by
  rw [e_sAsg, h]
  rfl
theorem s_drop {f : EF D} {d : D} {δ : DEnv} {M M1 : Mem} (h : f δ M = .ok d M1) : sDrop f δ M = .nx δ M1 := by
  rw [e_sDrop, h]
  rfl
theorem s_ret {f : EF D} {d : D} {δ : DEnv} {M M1 : Mem} (h : f δ M = .ok d M1) : sRet f δ M = .rt d M1 := by
  rw [e_sRet, h]
  rfl
theorem s_if {c : EF Bool} {a b : DS} {t : Bool} {δ : DEnv} {M M1 : Mem} (h : c δ M = .ok t M1) : sIf c a b δ M = if t = true then a δ M1 else b δ M1 := by
  rw [e_sIf, h]
  rfl
/-- a tuple with another item at one place -/
theorem e_tupSet {f i i2 p : EF D} {l : List D} {k : Nat} {q : D} {δ : DEnv} {M : Mem} (h1 : f δ M = .ok (.tup l) M) (h2 : i δ M = .ok (.int k) M) (h4 : i2 δ M = .ok (.int (k + 1 : Nat)) M) (h3 : p δ M = .ok q M) (hk : k < l.length) (hl : l.length ≤ sizeLine) :
    dBin oAdd (dBin oAdd (dSl f dNoP (dPart i)) (dTup (aCons p aNil))) (dSl f (dPart i2) dNoP) δ M = .ok (.tup (l.set k q)) M := by
  have z1 : 1 ≤ sizeLine := by decide
  have a1 : oAdd (.tup (l.take k)) (.tup [q]) M = some (.tup (l.take k ++ [q]), M) := by
    rw [oAdd_tup, if_pos]
    rw [List.length_take, List.length_singleton]
    omega
  have a2 : oAdd (.tup (l.take k ++ [q])) (.tup (l.drop (k + 1))) M = some (.tup (l.set k q), M) := by
    rw [oAdd_tup, if_pos]
    · rw [List.append_assoc, List.singleton_append, set_cut l k q hk]
    · rw [List.length_append, List.length_take, List.length_singleton, List.length_drop]
      omega
  rw [e_dBin, e_dBin, e_dSl, h1]
  simp only [bind_ok, e_dNoP, e_dPart, h2, partK_int, oSl_tup, cutD_to, ofV_some, e_dTup, e_aCons, h3, e_aNil, List.length_cons, List.length_nil]
  rw [if_pos (show 0 + 1 ≤ sizeLine from z1)]
  simp only [bind_ok, a1, ofV_some, e_dSl, h1, e_dPart, h4, partK_int, e_dNoP, oSl_tup, cutD_from, a2]
end Pd
namespace Pd
open PySem
/-! ### drawing in a comprehension; range from one number to another -/
theorem dr_nextP {s : Nat} {M : Mem} {P : D → Prop} {r : Res D} (h : Dr s M P r) (hs : s < M.length) : ∃ d a b, P d ∧ r = .ok d (M.set s (srcM a b)) ∧ okS (M.set s (srcM a b)) s ∧ 0 ≤ a ∧ 0 ≤ b ∧ b < 2 ^ 40 := by
  obtain ⟨d, a, b, hp, ha, hb, hb2, e⟩ := h
  exact ⟨d, a, b, hp, e, okS.set hs ha hb hb2, ha, hb, hb2⟩
theorem compL_draw {s n : Nat} {g : GF D} {te : EF D} {δ : DEnv} {P : D → Prop} : ∀ (l acc : List D) (M0 : Mem), n = M0.length → s < M0.length → okS M0 s → acc.length + l.length ≤ sizeLine → (∀ x ∈ acc, P x) →
    (∀ d ∈ l, ∀ (a b : Int) acc, 0 ≤ a → 0 ≤ b → b < 2 ^ 40 → ∃ δ', g d δ (M0.set s (srcM a b) ++ [.lst acc]) = some (δ', M0.set s (srcM a b) ++ [.lst acc]) ∧ Dr s (M0.set s (srcM a b) ++ [.lst acc]) P (te δ' (M0.set s (srcM a b) ++ [.lst acc]))) →
    ∃ acc' a b, compL n g tTrue te δ l (M0 ++ [.lst acc]) = some (M0.set s (srcM a b) ++ [.lst acc']) ∧ acc'.length = acc.length + l.length ∧ (∀ x ∈ acc', P x) ∧ 0 ≤ a ∧ 0 ≤ b ∧ b < 2 ^ 40
  | [], acc, M0, _, hs, ho, _, hp, _ => by
    obtain ⟨a, b, e, h1, h2, h3⟩ := ho
    refine ⟨acc, a, b, ?_, rfl, hp, h1, h2, h3⟩
    have : M0.set s (srcM a b) = M0 := by
      unfold lstOf at e
      split at e
      · rename_i l' e'
        cases e
        obtain ⟨h, e2⟩ := List.getElem?_eq_some_iff.mp e'
        have e2 : M0[s] = srcM a b := e2
        rw [← e2, List.set_getElem_self]
      · cases e
    rw [this]
    rfl
  | d :: l, acc, M0, hn, hs, ho, hl, hp, h => by
    obtain ⟨a0, b0, e0, g1, g2, g3⟩ := id ho
    have same : M0.set s (srcM a0 b0) = M0 := by
      unfold lstOf at e0
      split at e0
      · rename_i l' e'
        cases e0
        obtain ⟨h, e2⟩ := List.getElem?_eq_some_iff.mp e'
        have e2 : M0[s] = srcM a0 b0 := e2
        rw [← e2, List.set_getElem_self]
      · cases e0
    obtain ⟨δ', h1, h2⟩ := h d List.mem_cons_self a0 b0 acc g1 g2 g3
    rw [same] at h1 h2
    obtain ⟨x, a, b, hx, e, _, k1, k2, k3⟩ := dr_nextP h2 (by rw [List.length_append]; omega)
    rw [set_app hs] at e
    rw [List.length_cons] at hl
    have step : compStep n g tTrue te δ d (M0 ++ [.lst acc]) = some (M0.set s (srcM a b) ++ [.lst (acc ++ [x])]) := by
      unfold compStep
      rw [h1]
      dsimp only
      show (match tTrue δ' (M0 ++ [.lst acc]) with
        | .ok b M2 => _
        | _ => none) = _
      show (if true = true then _ else _) = _
      rw [if_pos rfl, e]
      dsimp only
      have hn' : n = (M0.set s (srcM a b)).length := by rw [List.length_set]; exact hn
      rw [hn', lstOf_mid]
      dsimp only
      rw [if_pos (by omega)]
      simp
    obtain ⟨acc', a', b', q1, q2, q3, q4, q5, q6⟩ := compL_draw (n := n) (P := P) l (acc ++ [x]) (M0.set s (srcM a b)) (by rw [List.length_set]; exact hn) (by rw [List.length_set]; exact hs) (okS.set hs k1 k2 k3) (by rw [List.length_append, List.length_singleton]; omega)
      (fun y hy => by
        rcases List.mem_append.mp hy with z | z
        · exact hp y z
        · rw [List.mem_singleton.mp z]; exact hx)
      (fun d' hd' a b acc ha hb hb2 => by rw [List.set_set]; exact h d' (List.mem_cons_of_mem _ hd') a b acc ha hb hb2)
    refine ⟨acc', a', b', ?_, by rw [q2, List.length_append, List.length_singleton, List.length_cons]; omega, q3, q4, q5, q6⟩
    unfold compL
    rw [step]
    show compL n g tTrue te δ l (M0.set s (srcM a b) ++ [.lst (acc ++ [x])]) = _
    rw [q1, List.set_set]
theorem dLc_draw {own : List Nat} {s : Nat} {src : EF Src} {g : GF D} {te : EF D} {δ : DEnv} {M M1 : Mem} {l : List D} (P : D → Prop) (hs : src δ M = .ok (.items l) M1) (ho : okS M1 s) (hl : l.length ≤ sizeLine)
    (h : ∀ d ∈ l, ∀ (a b : Int) acc, 0 ≤ a → 0 ≤ b → b < 2 ^ 40 → ∃ δ', g d (wipeD δ own) (M1.set s (srcM a b) ++ [.lst acc]) = some (δ', M1.set s (srcM a b) ++ [.lst acc]) ∧ Dr s (M1.set s (srcM a b) ++ [.lst acc]) P (te δ' (M1.set s (srcM a b) ++ [.lst acc]))) :
    ∃ acc a b, dLc own src g tTrue te δ M = .ok (.ref M1.length) (M1.set s (srcM a b) ++ [.lst acc]) ∧ acc.length = l.length ∧ (∀ x ∈ acc, P x) ∧ 0 ≤ a ∧ 0 ≤ b ∧ b < 2 ^ 40 := by
  obtain ⟨acc, a, b, e, q2, q3, q4, q5, q6⟩ := compL_draw (n := M1.length) (g := g) (te := te) (δ := wipeD δ own) (P := P) l [] M1 rfl ho.lt ho (by simpa using hl) (fun x hx => by cases hx) h
  refine ⟨acc, a, b, ?_, by simpa using q2, q3, q4, q5, q6⟩
  unfold dLc
  rw [hs]
  show (match compL M1.length g tTrue te (wipeD δ own) l (M1 ++ [.lst []]) with
    | some M' => Res.ok (D.ref M1.length) M'
    | none => .bad) = _
  rw [e]
theorem intsR_length (i : Int) (n : Nat) : (intsR i n).length = n := by
  unfold intsR
  rw [List.length_map, List.length_range]
theorem dRng2_ok {ga : EF (List D)} {δ : DEnv} {M M1 : Mem} {i j : Int} (h : ga δ M = .ok [.int i, .int j] M1) (h1 : -(2 ^ 62) ≤ i) (h2 : i < 2 ^ 62) (h3 : -(2 ^ 62) ≤ j) (h4 : j < 2 ^ 62) : dRng2 ga δ M = .ok (.items (intsR i (j - i).toNat)) M1 := by
  unfold dRng2
  rw [h, bind_ok]
  dsimp only
  rw [if_pos ⟨h1, h2, h3, h4⟩]
/-- over range(i, j) -/
theorem wp_rng2 {src : EF Src} {g : GF D} {body : DS} {k : DEnv → Mem → ResS} {Q : ResS → Prop} {δ : DEnv} {M : Mem} (i : Int) (n : Nat) (I : Nat → DEnv → Mem → Prop)
    (hs : ∃ M1, src δ M = .ok (.items (intsR i n)) M1 ∧ I 0 δ M1)
    (st : ∀ t, t < n → ∀ δ M, I t δ M → WP (onG (g (.int (i + t)) δ M) body) (StepQ (I (t + 1)) k Q)) (hp : ∀ δ M, I n δ M → WP (k δ M) Q) :
    WP (seqK (sFor src g body δ M) k) Q :=
  wp_for _ I hs (fun t d hd δ M hI => by
    rw [intsR_get] at hd
    split at hd
    · rename_i ht
      cases hd
      exact st t ht δ M hI
    · cases hd) fun δ M hI => hp δ M (by rwa [intsR_length] at hI)
/-! ### tuples times an int -/
theorem oMul_tup (l : List D) (j : Nat) (M : Mem) (h : l.length * j ≤ 1000000) (hj : (j : Int) < 2 ^ 63) : oMul (.tup l) (.int j) M = some (.tup (List.replicate j l).flatten, M) := by
  unfold oMul
  dsimp only
  rw [if_pos ⟨by omega, hj, by rw [Int.toNat_natCast]; exact h⟩, Int.toNat_natCast]
theorem oRv_tup (l : List D) (M : Mem) : oRv (.tup l) (.int (-1)) M = some (.tup l.reverse, M) := nr rfl
theorem oRv_ref (n : Nat) (M : Mem) : oRv (.ref n) (.int (-1)) M = (seqOf M n).map fun l => (.ref M.length, M ++ [.lst l.reverse]) := nr rfl
@[simp] theorem oNeg_int (i : Int) (M : Mem) : oNeg (.int i) M = some (.int (-i), M) := nr rfl
/-! ### comprehensions whose items leave lists behind -/
theorem compL_gar {n : Nat} {g : GF D} {tt : EF Bool} {te : EF D} {δ : DEnv} {M0 : Mem} (hn : n = M0.length) (p : D → Bool) (f : D → D) : ∀ (l acc : List D) (G : Mem), acc.length + l.length ≤ sizeLine →
    (∀ d ∈ l, ∀ acc G, ∃ δ' G1, g d δ (onL M0 acc G) = some (δ', onL M0 acc G) ∧ tt δ' (onL M0 acc G) = .ok (p d) (onL M0 acc G1) ∧ (p d = true → ∃ G2, te δ' (onL M0 acc G1) = .ok (f d) (onL M0 acc G2))) →
    ∃ G', compL n g tt te δ l (onL M0 acc G) = some (onL M0 (acc ++ (l.filter p).map f) G')
  | [], acc, G, _, _ => ⟨G, by simp [compL]⟩
  | d :: l, acc, G, hl, h => by
    rw [List.length_cons] at hl
    obtain ⟨δ', G1, h1, h2, h3⟩ := h d List.mem_cons_self acc G
    have step : ∃ G3, compStep n g tt te δ d (onL M0 acc G) = some (onL M0 (acc ++ (if p d = true then [f d] else [])) G3) := by
      unfold compStep
      rw [h1]
      dsimp only
      rw [h2]
      dsimp only
      by_cases hp : p d = true
      · obtain ⟨G2, h3⟩ := h3 hp
        rw [if_pos hp, if_pos hp, h3]
        dsimp only
        rw [hn, lstOf_onL]
        dsimp only
        rw [if_pos (by omega)]
        exact ⟨G2, by unfold onL; rw [setM_new0]; rfl⟩
      · rw [if_neg hp, if_neg hp, List.append_nil]
        exact ⟨G1, rfl⟩
    obtain ⟨G3, step⟩ := step
    obtain ⟨G', e⟩ := compL_gar hn p f l (acc ++ (if p d = true then [f d] else [])) G3 (by rw [List.length_append]; split <;> simp <;> omega) fun d' hd' => h d' (List.mem_cons_of_mem _ hd')
    refine ⟨G', ?_⟩
    unfold compL
    rw [step]
    show compL n g tt te δ l (onL M0 (acc ++ (if p d = true then [f d] else [])) G3) = _
    rw [e]
    by_cases hp : p d = true
    · simp [hp]
    · simp [hp]
theorem dLc_gar {own : List Nat} {src : EF Src} {g : GF D} {tt : EF Bool} {te : EF D} {δ : DEnv} {M M1 : Mem} {l : List D} (p : D → Bool) (f : D → D) (hs : src δ M = .ok (.items l) M1) (hl : l.length ≤ sizeLine)
    (h : ∀ d ∈ l, ∀ acc G, ∃ δ' G1, g d (wipeD δ own) (onL M1 acc G) = some (δ', onL M1 acc G) ∧ tt δ' (onL M1 acc G) = .ok (p d) (onL M1 acc G1) ∧ (p d = true → ∃ G2, te δ' (onL M1 acc G1) = .ok (f d) (onL M1 acc G2))) :
    ∃ G, dLc own src g tt te δ M = .ok (.ref M1.length) (onL M1 ((l.filter p).map f) G) := by
  obtain ⟨G, e⟩ := compL_gar (n := M1.length) (M0 := M1) rfl p f l [] [] (by simpa using hl) h
  refine ⟨G, ?_⟩
  unfold dLc
  rw [hs]
  show (match compL M1.length g tt te (wipeD δ own) l (M1 ++ [.lst []]) with
    | some M' => Res.ok (D.ref M1.length) M'
    | none => .bad) = _
  rw [onL_new, e]
  rfl
theorem dLc_garM {own : List Nat} {src : EF Src} {g : GF D} {te : EF D} {δ : DEnv} {M M1 : Mem} {l : List D} (f : D → D) (hs : src δ M = .ok (.items l) M1) (hl : l.length ≤ sizeLine)
    (h : ∀ d ∈ l, ∀ acc G, ∃ δ' G2, g d (wipeD δ own) (onL M1 acc G) = some (δ', onL M1 acc G) ∧ te δ' (onL M1 acc G) = .ok (f d) (onL M1 acc G2)) :
    ∃ G, dLc own src g tTrue te δ M = .ok (.ref M1.length) (onL M1 (l.map f) G) := by
  obtain ⟨G, e⟩ := dLc_gar (own := own) (tt := tTrue) (fun _ => true) f hs hl fun d hd acc G => let ⟨δ', G2, a, b⟩ := h d hd acc G; ⟨δ', G, a, rfl, fun _ => ⟨G2, b⟩⟩
  exact ⟨G, by rw [e, show l.filter (fun _ => true) = l from List.filter_eq_self.mpr fun _ _ => rfl]⟩
/-- a tuple with another item at one place, which is drawn -/
theorem e_tupSet2 {f i i2 p : EF D} {l : List D} {k : Nat} {q : D} {δ : DEnv} {M M2 : Mem} (h1 : f δ M = .ok (.tup l) M) (h2 : i δ M = .ok (.int k) M) (h3 : p δ M = .ok q M2) (h5 : f δ M2 = .ok (.tup l) M2) (h4 : i2 δ M2 = .ok (.int (k + 1 : Nat)) M2) (hk : k < l.length) (hl : l.length ≤ sizeLine) :
    dBin oAdd (dBin oAdd (dSl f dNoP (dPart i)) (dTup (aCons p aNil))) (dSl f (dPart i2) dNoP) δ M = .ok (.tup (l.set k q)) M2 := by
  have z1 : 1 ≤ sizeLine := by decide
  have a1 : oAdd (.tup (l.take k)) (.tup [q]) M2 = some (.tup (l.take k ++ [q]), M2) := by
    rw [oAdd_tup, if_pos]
    rw [List.length_take, List.length_singleton]
    omega
  have a2 : oAdd (.tup (l.take k ++ [q])) (.tup (l.drop (k + 1))) M2 = some (.tup (l.set k q), M2) := by
    rw [oAdd_tup, if_pos]
    · rw [List.append_assoc, List.singleton_append, set_cut l k q hk]
    · rw [List.length_append, List.length_take, List.length_singleton, List.length_drop]
      omega
  rw [e_dBin, e_dBin, e_dSl, h1]
  simp only [bind_ok, e_dNoP, e_dPart, h2, partK_int, oSl_tup, cutD_to, ofV_some, e_dTup, e_aCons, h3, e_aNil, List.length_cons, List.length_nil]
  rw [if_pos (show 0 + 1 ≤ sizeLine from z1)]
  simp only [bind_ok, a1, ofV_some, e_dSl, h5, e_dPart, h4, partK_int, e_dNoP, oSl_tup, cutD_from, a2]
end Pd
namespace Pd
open PySem
/-! ### comprehensions over enumerate of a list of the store; the last item -/
theorem compF_liveE {n : Nat} {g : GF D} {tt : EF Bool} {te : EF D} {δ : DEnv} {M0 : Mem} {l : List D} (hs : seqOf M0 n = some l) (p : D → Bool) (f : D → D)
    (h : ∀ (i : Nat) (d : D), l[i]? = some d → ∀ acc, ∃ δ', g (.tup [.int i, d]) δ (M0 ++ [.lst acc]) = some (δ', M0 ++ [.lst acc]) ∧ tt δ' (M0 ++ [.lst acc]) = .ok (p (.tup [.int i, d])) (M0 ++ [.lst acc]) ∧ (p (.tup [.int i, d]) = true → te δ' (M0 ++ [.lst acc]) = .ok (f (.tup [.int i, d])) (M0 ++ [.lst acc]))) :
    ∀ (k i : Nat) (acc : List D), l.length - i < k → acc.length + (l.length - i) ≤ sizeLine → compF M0.length g tt te δ (.liveE n) k i (M0 ++ [.lst acc]) = some (M0 ++ [.lst (acc ++ (((enumD 0 l).drop i).filter p).map f)])
  | 0, _, _, hk, _ => by omega
  | k + 1, i, acc, hk, hl => by
    unfold compF
    have e0 : Src.item (M0 ++ [.lst acc]) i (.liveE n) = some (l[i]?.map fun d => .tup [.int (i : Nat), d]) := by
      show (seqOf (M0 ++ [.lst acc]) n).map (fun l => l[i]?.map fun d => D.tup [.int (i : Nat), d]) = _
      rw [seqOf_app _ hs]
      rfl
    have el : (enumD 0 l).length = l.length := by
      have : ∀ (l : List D) k, (enumD k l).length = l.length := fun l => by
        induction l with
        | nil => intro k; rfl
        | cons d l ih => intro k; show (enumD (k + 1) l).length + 1 = _; rw [ih]; rfl
      exact this l 0
    rw [e0]
    cases c : l[i]? with
    | none =>
      rw [List.drop_eq_nil_of_le (by rw [el]; exact List.getElem?_eq_none_iff.mp c)]
      simp
    | some d =>
      have hi := (List.getElem?_eq_some_iff.mp c).1
      have ge : (enumD 0 l)[i]? = some (.tup [.int i, d]) := by rw [enumD_get, c, Nat.zero_add]; rfl
      obtain ⟨hi2, ed⟩ := List.getElem?_eq_some_iff.mp ge
      obtain ⟨δ', h1, h2, h3⟩ := h i d c acc
      generalize hz : D.tup [.int (i : Nat), d] = z at *
      have step : compStep M0.length g tt te δ z (M0 ++ [.lst acc]) = some (M0 ++ [.lst (acc ++ (if p z = true then [f z] else []))]) := by
        unfold compStep
        rw [h1]
        dsimp only
        rw [h2]
        dsimp only
        by_cases hp : p z = true
        · rw [if_pos hp, if_pos hp, h3 hp]
          dsimp only
          rw [lstOf_mid]
          dsimp only
          rw [if_pos (by omega)]
          simp
        · rw [if_neg hp, if_neg hp, List.append_nil]
      dsimp only [Option.map_some]
      rw [hz, step, Option.bind_some, compF_liveE hs p f (by rw [← hz] at *; exact h) k (i + 1) _ (by omega) (by rw [List.length_append]; split <;> simp <;> omega), List.drop_eq_getElem_cons hi2, ed]
      by_cases hp : p z = true
      · simp [hp]
      · simp [hp]
theorem dLc_liveE {own : List Nat} {src : EF Src} {g : GF D} {tt : EF Bool} {te : EF D} {δ : DEnv} {M M1 : Mem} {n : Nat} {l : List D} (p : D → Bool) (f : D → D) (hs : src δ M = .ok (.liveE n) M1) (hq : seqOf M1 n = some l) (hl : l.length ≤ sizeLine)
    (h : ∀ (i : Nat) (d : D), l[i]? = some d → ∀ acc, ∃ δ', g (.tup [.int i, d]) (wipeD δ own) (M1 ++ [.lst acc]) = some (δ', M1 ++ [.lst acc]) ∧ tt δ' (M1 ++ [.lst acc]) = .ok (p (.tup [.int i, d])) (M1 ++ [.lst acc]) ∧ (p (.tup [.int i, d]) = true → te δ' (M1 ++ [.lst acc]) = .ok (f (.tup [.int i, d])) (M1 ++ [.lst acc]))) :
    dLc own src g tt te δ M = .ok (.ref M1.length) (M1 ++ [.lst (((enumD 0 l).filter p).map f)]) := by
  unfold dLc
  rw [hs, bind_ok]
  have sz : Src.size (M1 ++ [MO.lst []]) (.liveE n) = l.length := by
    show ((seqOf (M1 ++ [MO.lst []]) n).getD []).length = _
    rw [seqOf_app _ hq]
    rfl
  have e : compS M1.length g tt te (wipeD δ own) (.liveE n) (M1 ++ [MO.lst []]) = some (M1 ++ [.lst (((enumD 0 l).filter p).map f)]) := by
    show compF M1.length g tt te (wipeD δ own) (.liveE n) (Src.size (M1 ++ [MO.lst []]) (.liveE n) + 1) 0 (M1 ++ [MO.lst []]) = _
    rw [sz, compF_liveE hq p f h (l.length + 1) 0 [] (by omega) (by simpa using hl)]
    simp
  rw [e]
theorem dEnum_ref {f : EF D} {δ : DEnv} {M M1 : Mem} {n : Nat} {l : List D} (h : f δ M = .ok (.ref n) M1) (hl : seqOf M1 n = some l) : dEnumL (aCons f aNil) δ M = .ok (.liveE n) M1 := by
  unfold dEnumL
  simp [h, hl]
theorem atI_last {l : List D} (h : l ≠ []) : L2.atI l (-1) = some (l.getLast h) := by
  have hl : 0 < l.length := List.length_pos_iff.mpr h
  unfold L2.atI L2.ixN
  rw [if_neg (by omega), if_pos (by omega)]
  show l[(-1 + (l.length : Int)).toNat]? = _
  rw [show (-1 + (l.length : Int)).toNat = l.length - 1 by omega, List.getLast_eq_getElem, List.getElem?_eq_getElem (by omega)]
end Pd
namespace Pd
open PySem PySem.Spec PyProof.Rows
/-! ### values of whatever kind, in a store -/
/-- a value, nested at most n deep, that names no list of R -/
def okV (M : Mem) (R : List Nat) : Nat → D → Prop
  | 0, d => match d with
    | .non => True
    | .bl _ => True
    | .int _ => True
    | .str x => PyData.strOk x = true
    | _ => False
  | n + 1, d => match d with
    | .non => True
    | .bl _ => True
    | .int _ => True
    | .str x => PyData.strOk x = true
    | .tup l => l.length ≤ 20 * (n + 1) ∧ ∀ d ∈ l, okV M R n d
    | .ref k => k ∉ R ∧ ∃ l, lstOf M k = some l ∧ ∀ d ∈ l, okV M R n d
    | _ => False
def WM (M : Mem) : Prop := ∀ m ∈ M, belowM M.length m = true
/-- the store has gone on: the source at s is drawn from, and there is more -/
def Ext (s : Nat) (M M' : Mem) : Prop := ∃ (a b : Int) (G : Mem), 0 ≤ a ∧ 0 ≤ b ∧ b < 2 ^ 40 ∧ M' = M.set s (srcM a b) ++ G
theorem seq_of_lst {M : Mem} {n : Nat} {l : List D} (h : lstOf M n = some l) : seqOf M n = some l := by
  unfold lstOf at h
  split at h
  · rename_i l' e
    cases h
    unfold seqOf
    rw [e]
  · cases h
theorem set_same {M : Mem} {s : Nat} {a b : Int} (e : lstOf M s = some [.int a, .int b]) : M.set s (srcM a b) = M := by
  unfold lstOf at e
  split at e
  · rename_i l' e'
    cases e
    obtain ⟨h, e2⟩ := List.getElem?_eq_some_iff.mp e'
    have e2 : M[s] = srcM a b := e2
    rw [← e2, List.set_getElem_self]
  · cases e
theorem Ext.refl {s : Nat} {M : Mem} (h : okS M s) : Ext s M M := by
  obtain ⟨a, b, e, h1, h2, h3⟩ := h
  exact ⟨a, b, [], h1, h2, h3, by rw [set_same e, List.append_nil]⟩
theorem Ext.okS {s : Nat} {M M' : Mem} (h : Ext s M M') (hs : s < M.length) : okS M' s := by
  obtain ⟨a, b, G, h1, h2, h3, rfl⟩ := h
  exact (Pd.okS.set hs h1 h2 h3).app
theorem Ext.len {s : Nat} {M M' : Mem} (h : Ext s M M') : M.length ≤ M'.length := by
  obtain ⟨a, b, G, h1, h2, h3, rfl⟩ := h
  rw [List.length_append, List.length_set]; omega
theorem Ext.trans {s : Nat} {M M' M'' : Mem} (h : Ext s M M') (h' : Ext s M' M'') (hs : s < M.length) : Ext s M M'' := by
  obtain ⟨a, b, G, h1, h2, h3, rfl⟩ := h
  obtain ⟨a', b', G', g1, g2, g3, rfl⟩ := h'
  exact ⟨a', b', G ++ G', g1, g2, g3, by rw [set_app (by rw [List.length_set]; exact hs), List.set_set, List.append_assoc]⟩
theorem Ext.app {s : Nat} {M M' : Mem} (h : Ext s M M') (G : Mem) : Ext s M (M' ++ G) := by
  obtain ⟨a, b, G', h1, h2, h3, rfl⟩ := h
  exact ⟨a, b, G' ++ G, h1, h2, h3, List.append_assoc ..⟩
theorem Ext.of_set {s : Nat} {M : Mem} {a b : Int} (h1 : 0 ≤ a) (h2 : 0 ≤ b) (h3 : b < 2 ^ 40) : Ext s M (M.set s (srcM a b)) := ⟨a, b, [], h1, h2, h3, (List.append_nil _).symm⟩
theorem lstOf_ext {s k : Nat} {M M' : Mem} {l : List D} (h : Ext s M M') (hk : k ≠ s) (e : lstOf M k = some l) : lstOf M' k = some l := by
  obtain ⟨a, b, G, h1, h2, h3, rfl⟩ := h
  refine lstOf_app G ?_
  unfold lstOf at e ⊢
  rw [List.getElem?_set_ne (Ne.symm hk)]
  exact e
theorem seqOf_ext {s k : Nat} {M M' : Mem} {l : List D} (h : Ext s M M') (hk : k ≠ s) (e : seqOf M k = some l) : seqOf M' k = some l := by
  obtain ⟨a, b, G, h1, h2, h3, rfl⟩ := h
  refine seqOf_app G ?_
  rw [seqOf_set_ne hk]
  exact e
/-- what the store must keep for values to stay -/
theorem okV.keep {M M' : Mem} {R : List Nat} (hk : ∀ k l, k ∉ R → lstOf M k = some l → lstOf M' k = some l) : ∀ (n : Nat) (d : D), okV M R n d → okV M' R n d
  | 0, d, h => h
  | n + 1, .non, h => h
  | n + 1, .bl _, h => h
  | n + 1, .int _, h => h
  | n + 1, .str _, h => h
  | n + 1, .tup l, h => ⟨h.1, fun d hd => okV.keep hk n d (h.2 d hd)⟩
  | n + 1, .ref k, h => by
    obtain ⟨h1, l, h2, h3⟩ := h
    exact ⟨h1, l, hk k l h1 h2, fun d hd => okV.keep hk n d (h3 d hd)⟩
theorem okV.ext {s : Nat} {M M' : Mem} {R : List Nat} {n : Nat} {d : D} (h : okV M R n d) (e : Ext s M M') (hs : s ∈ R) : okV M' R n d :=
  okV.keep (fun k l hk hl => lstOf_ext e (fun z => hk (z ▸ hs)) hl) n d h
theorem okV.succ {M : Mem} {R : List Nat} : ∀ (n : Nat) (d : D), okV M R n d → okV M R (n + 1) d
  | 0, .non, h => h
  | 0, .bl _, h => h
  | 0, .int _, h => h
  | 0, .str _, h => h
  | n + 1, .non, h => h
  | n + 1, .bl _, h => h
  | n + 1, .int _, h => h
  | n + 1, .str _, h => h
  | n + 1, .tup l, h => ⟨Nat.le_trans h.1 (by omega), fun d hd => okV.succ n d (h.2 d hd)⟩
  | n + 1, .ref k, h => by
    obtain ⟨h1, l, h2, h3⟩ := h
    exact ⟨h1, l, h2, fun d hd => okV.succ n d (h3 d hd)⟩
theorem okV.mono {M : Mem} {R : List Nat} {n m : Nat} {d : D} (h : okV M R n d) (hm : n ≤ m) : okV M R m d := by
  induction m with
  | zero => rw [show n = 0 by omega] at h; exact h
  | succ m ih =>
    by_cases z : n = m + 1
    · rw [← z]; exact h
    · exact okV.succ m d (ih (by omega))
/-- fewer lists that are kept apart -/
theorem okV.less {M : Mem} {R R' : List Nat} (hR : ∀ x ∈ R', x ∈ R) : ∀ (n : Nat) (d : D), okV M R n d → okV M R' n d
  | 0, d, h => h
  | n + 1, .non, h => h
  | n + 1, .bl _, h => h
  | n + 1, .int _, h => h
  | n + 1, .str _, h => h
  | n + 1, .tup l, h => ⟨h.1, fun d hd => okV.less hR n d (h.2 d hd)⟩
  | n + 1, .ref k, h => by
    obtain ⟨h1, l, h2, h3⟩ := h
    exact ⟨fun z => h1 (hR k z), l, h2, fun d hd => okV.less hR n d (h3 d hd)⟩
theorem belowL_mem {n : Nat} : ∀ {l : List D}, belowL n l = true → ∀ d ∈ l, belowD n d = true
  | x :: l, h, d, hd => by
    unfold belowL at h
    obtain ⟨h1, h2⟩ := Bool.and_eq_true_iff.mp h
    rcases List.mem_cons.mp hd with e | hd
    · rw [e]; exact h1
    · exact belowL_mem h2 d hd
theorem belowL_all {n : Nat} : ∀ {l : List D}, (∀ d ∈ l, belowD n d = true) → belowL n l = true
  | [], _ => rfl
  | x :: l, h => by
    unfold belowL
    rw [h x List.mem_cons_self, belowL_all fun d hd => h d (List.mem_cons_of_mem _ hd)]
    rfl
theorem belowM_mono {n m : Nat} (h : n ≤ m) : ∀ o, belowM n o = true → belowM m o = true
  | .lst l, e => belowL_mono h l e
  | .fz l, e => belowL_mono h l e
  | .ins _ fs, e => by
    show belowF m fs = true
    replace e : belowF n fs = true := e
    induction fs with
    | nil => rfl
    | cons p fs ih =>
      unfold belowF at e ⊢
      obtain ⟨h1, h2⟩ := Bool.and_eq_true_iff.mp e
      rw [below_mono h _ h1, ih h2]
      rfl
  | .dct kvs, e => by
    show belowK m kvs = true
    replace e : belowK n kvs = true := e
    induction kvs with
    | nil => rfl
    | cons p kvs ih =>
      unfold belowK at e ⊢
      obtain ⟨h1, h2⟩ := Bool.and_eq_true_iff.mp e
      obtain ⟨h3, h4⟩ := Bool.and_eq_true_iff.mp h2
      rw [below_mono h _ h1, below_mono h _ h3, ih h4]
      rfl
  | .any, _ => rfl
theorem WM.set {M : Mem} {s : Nat} {a b : Int} (h : WM M) : WM (M.set s (srcM a b)) := fun m hm => by
  rw [List.length_set]
  rcases List.mem_or_eq_of_mem_set hm with z | z
  · exact h m z
  · rw [z]; rfl
theorem WM.app {M : Mem} (h : WM M) {l : List D} (hl : ∀ d ∈ l, belowD (M.length + 1) d = true) : WM (M ++ [.lst l]) := fun m hm => by
  rw [List.length_append, List.length_singleton]
  rcases List.mem_append.mp hm with z | z
  · exact belowM_mono (by omega) m (h m z)
  · rw [List.mem_singleton.mp z]
    exact belowL_all hl
theorem WM.lst {M : Mem} (h : WM M) {k : Nat} {l : List D} (e : lstOf M k = some l) : ∀ d ∈ l, belowD M.length d = true := by
  unfold lstOf at e
  split at e
  · rename_i l' e'
    cases e
    exact belowL_mem (h _ (List.mem_of_getElem? e'))
  · cases e
theorem WM.put {M : Mem} (h : WM M) {k : Nat} {l : List D} (hl : ∀ d ∈ l, belowD M.length d = true) : WM (M.set k (.lst l)) := fun m hm => by
  rw [List.length_set]
  rcases List.mem_or_eq_of_mem_set hm with z | z
  · exact h m z
  · rw [z]; exact belowL_all hl
theorem okV.below {M : Mem} {R : List Nat} (w : WM M) : ∀ (n : Nat) (d : D), okV M R n d → belowD M.length d = true
  | 0, .non, h => rfl
  | 0, .bl _, h => rfl
  | 0, .int _, h => rfl
  | 0, .str _, h => rfl
  | n + 1, .non, h => rfl
  | n + 1, .bl _, h => rfl
  | n + 1, .int _, h => rfl
  | n + 1, .str _, h => rfl
  | n + 1, .tup l, h => belowL_all fun d hd => okV.below w n d (h.2 d hd)
  | n + 1, .ref k, h => by
    obtain ⟨h1, l, h2, h3⟩ := h
    exact decide_eq_true (lstOf_lt h2)
theorem okV.take {M0 G : Mem} {R : List Nat} (w : WM M0) : ∀ (n : Nat) (d : D), belowD M0.length d = true → okV (M0 ++ G) R n d → okV M0 R n d
  | 0, d, _, h => h
  | n + 1, .non, _, h => h
  | n + 1, .bl _, _, h => h
  | n + 1, .int _, _, h => h
  | n + 1, .str _, _, h => h
  | n + 1, .tup l, hb, h => ⟨h.1, fun d hd => okV.take w n d (belowL_mem hb d hd) (h.2 d hd)⟩
  | n + 1, .ref k, hb, h => by
    obtain ⟨h1, l, h2, h3⟩ := h
    have hk : k < M0.length := of_decide_eq_true hb
    have e : lstOf M0 k = some l := by
      unfold lstOf at h2 ⊢
      rw [List.getElem?_append_left hk] at h2
      exact h2
    exact ⟨h1, l, e, fun d hd => okV.take w n d (w.lst e d hd) (h3 d hd)⟩
/-- a drawn value: the store has gone on -/
def DrX (s : Nat) (M : Mem) (R : List Nat) (n : Nat) (r : Res D) : Prop := ∃ d M', r = .ok d M' ∧ Ext s M M' ∧ WM M' ∧ okV M' R n d
theorem gcX {s : Nat} {M M' : Mem} {R : List Nat} {n : Nat} {d : D} (hs : s < M.length) (sR : s ∈ R) (hR : ∀ r ∈ R, r < M.length) (w : WM M) (e : Ext s M M') (w' : WM M') (h : okV M' R n d) :
    DrX s M R n (gcR M (.ok d M')) := by
  obtain ⟨a, b, G, h1, h2, h3, rfl⟩ := e
  have tk : (M.set s (srcM a b) ++ G).take M.length = M.set s (srcM a b) := by
    rw [List.take_append_of_le_length (by rw [List.length_set]; omega), List.take_of_length_le (by rw [List.length_set]; omega)]
  have base : DrX s M R n (.ok d (M.set s (srcM a b) ++ G)) := ⟨d, _, rfl, ⟨a, b, G, h1, h2, h3, rfl⟩, w', h⟩
  have wS : WM (M.set s (srcM a b)) := w.set
  show DrX s M R n (gcV M d (M.set s (srcM a b) ++ G))
  unfold gcV
  split
  · split
    · rename_i hb
      rw [tk]
      refine ⟨d, _, rfl, Ext.of_set h1 h2 h3, wS, okV.take wS n d (by rw [List.length_set]; exact hb) h⟩
    · split
      · rename_i k hb
        split
        · rename_i l hl
          split
          · rename_i hk
            rw [tk]
            have wl := belowL_mem hk.2
            have e0 : lstOf (M.set s (srcM a b) ++ G) k = some l := by
              unfold lstOf
              rw [hl]
            match n, h with
            | n + 1, ⟨g1, l0, g2, g3⟩ =>
              rw [e0] at g2
              cases g2
              refine ⟨_, _, rfl, (Ext.of_set h1 h2 h3).app _, wS.app fun d hd => below_mono (by rw [List.length_set]; omega) d (wl d hd), fun z => by have := hR _ z; omega, l, lstOf_end (by rw [List.length_set]), fun d hd => ?_⟩
              have := okV.take wS n d (by rw [List.length_set]; exact wl d hd) (g3 d hd)
              exact okV.keep (fun k l hk hl => lstOf_app _ hl) n d this
          · exact base
        · exact base
      · exact base
  · exact base
/-! ### such values as data: beside an empty list -/
theorem pyD_okV {M : Mem} {R : List Nat} : ∀ (n k : Nat) (d : D), okV M R n d → n < k → ∃ p, pyD M k d = some p ∧ p.canLay0 = true ∧ p.depth ≤ n := by
  have lst : ∀ (n k : Nat), (∀ d, okV M R n d → ∃ p, pyD M k d = some p ∧ p.canLay0 = true ∧ p.depth ≤ n) → ∀ l : List D, (∀ d ∈ l, okV M R n d) → ∃ ps, pyL (pyD M k) l = some ps ∧ PyData.canLayAll0 ps = true ∧ PyData.depthAll ps ≤ n := by
    intro n k ih l
    induction l with
    | nil => intro _; exact ⟨[], rfl, rfl, by unfold PyData.depthAll; omega⟩
    | cons d l ihl =>
      intro h
      obtain ⟨p, p1, p2, p3⟩ := ih d (h d List.mem_cons_self)
      obtain ⟨ps, q1, q2, q3⟩ := ihl fun d hd => h d (List.mem_cons_of_mem _ hd)
      refine ⟨p :: ps, ?_, ?_, ?_⟩
      · unfold pyL; rw [p1, q1]
      · unfold PyData.canLayAll0; rw [p2, q2]; rfl
      · unfold PyData.depthAll; omega
  intro n
  induction n with
  | zero =>
    intro k d h hk
    obtain ⟨k, rfl⟩ : ∃ j, k = j + 1 := ⟨k - 1, by omega⟩
    cases d with
    | non => exact ⟨.none, rfl, rfl, by unfold PyData.depth; omega⟩
    | bl b => exact ⟨.bool b, rfl, rfl, by unfold PyData.depth; omega⟩
    | int i => exact ⟨.int i, rfl, rfl, by unfold PyData.depth; omega⟩
    | str x => exact ⟨.str x, rfl, by unfold PyData.canLay0; exact h, by unfold PyData.depth; omega⟩
    | _ => exact h.elim
  | succ n ih =>
    intro k d h hk
    obtain ⟨k, rfl⟩ : ∃ j, k = j + 1 := ⟨k - 1, by omega⟩
    cases d with
    | non => exact ⟨.none, rfl, rfl, by unfold PyData.depth; omega⟩
    | bl b => exact ⟨.bool b, rfl, rfl, by unfold PyData.depth; omega⟩
    | int i => exact ⟨.int i, rfl, rfl, by unfold PyData.depth; omega⟩
    | str x => exact ⟨.str x, rfl, by unfold PyData.canLay0; exact h, by unfold PyData.depth; omega⟩
    | tup l =>
      obtain ⟨ps, q1, q2, q3⟩ := lst n k (fun d hd => ih k d hd (by omega)) l h.2
      refine ⟨.tuple ps, ?_, by unfold PyData.canLay0; exact q2, by unfold PyData.depth; omega⟩
      unfold pyD
      rw [q1]
      rfl
    | ref j =>
      obtain ⟨h1, l, h2, h3⟩ := h
      obtain ⟨ps, q1, q2, q3⟩ := lst n k (fun d hd => ih k d hd (by omega)) l h3
      refine ⟨.list ps, ?_, by unfold PyData.canLay0; exact q2, by unfold PyData.depth; omega⟩
      unfold pyD
      rw [seq_of_lst h2]
      dsimp only
      rw [q1]
      rfl
    | _ => exact h.elim
end Pd
namespace Pd
open PySem PySem.Spec PyProof.Rows
theorem pyL_okV {M : Mem} {R : List Nat} {n k : Nat} (hk : n < k) : ∀ l : List D, (∀ d ∈ l, okV M R n d) → ∃ ps, pyL (pyD M k) l = some ps ∧ PyData.canLayAll0 ps = true ∧ PyData.depthAll ps ≤ n ∧ (ps = [] ↔ l = [])
  | [], _ => ⟨[], rfl, rfl, by unfold PyData.depthAll; omega, by simp⟩
  | d :: l, h => by
    obtain ⟨p, p1, p2, p3⟩ := pyD_okV n k d (h d List.mem_cons_self) hk
    obtain ⟨ps, q1, q2, q3, _⟩ := pyL_okV hk l fun d hd => h d (List.mem_cons_of_mem _ hd)
    refine ⟨p :: ps, ?_, ?_, ?_, by simp⟩
    · unfold pyL; rw [p1, q1]
    · unfold PyData.canLayAll0; rw [p2, q2]; rfl
    · unfold PyData.depthAll; omega
/-- a list of such values beside an empty one -/
theorem oEq_nil {M : Mem} {R : List Nat} {n i j : Nat} {l : List D} (hi : seqOf M i = some l) (hj : seqOf M j = some []) (h : ∀ d ∈ l, okV M R n d) (hn : n < 19) : oEq (.ref i) (.ref j) M = some (.bl l.isEmpty, M) := by
  obtain ⟨ps, q1, q2, q3, q4⟩ := pyL_okV (k := 19) hn l h
  have e1 : pyD M FU (.ref i) = some (.list ps) := by
    show pyD M (19 + 1) (.ref i) = _
    unfold pyD
    rw [hi]
    dsimp only
    rw [q1]
    rfl
  have e2 : pyD M FU (.ref j) = some (.list []) := by
    show pyD M (19 + 1) (.ref j) = _
    unfold pyD
    rw [hj]
    rfl
  have s1 : SeqAt.shaped (.list ps) = true := by
    unfold SeqAt.shaped PyData.canLay0 PyData.depth
    rw [q2, decide_eq_true (by omega)]
    rfl
  show (dEqB M (.ref i) (.ref j)).map _ = _
  unfold dEqB
  rw [e1, e2]
  dsimp only
  rw [s1, show SeqAt.shaped (.list []) = true by decide +kernel]
  show some (D.bl (PyData.eqv (.list ps) (.list [])), M) = _
  congr 3
  rw [Bool.eq_iff_iff, List.isEmpty_iff]
  cases ps with
  | nil => exact ⟨fun _ => q4.mp rfl, fun _ => rfl⟩
  | cons p ps => exact ⟨fun z => (by cases z), fun z => absurd (q4.mpr z) (by simp)⟩
theorem oEq_blV (a b : Bool) (M : Mem) : oEq (.bl a) (.bl b) M = some (.bl (decide (a = b)), M) := by
  cases a <;> cases b <;> rfl
/-! ### values drawn in a comprehension -/
/-- within it: the list at its place, and what came behind it -/
structure InX (s : Nat) (R : List Nat) (n : Nat) (M1 : Mem) (acc : List D) (M : Mem) : Prop where
  e : ∃ (a b : Int) (G : Mem), 0 ≤ a ∧ 0 ≤ b ∧ b < 2 ^ 40 ∧ M = M1.set s (srcM a b) ++ (.lst acc :: G)
  w : WM M
  v : ∀ d ∈ acc, okV M (M1.length :: R) n d
theorem compL_drawX {s nn n : Nat} {R : List Nat} {g : GF D} {te : EF D} {δ : DEnv} {M1 : Mem} (hn : nn = M1.length) (hs : s < M1.length) (sR : s ∈ R) (hR : ∀ r ∈ R, r < M1.length) : ∀ (l acc : List D) (M : Mem), acc.length + l.length ≤ sizeLine → InX s R n M1 acc M →
    (∀ d ∈ l, ∀ M acc, InX s R n M1 acc M → ∃ δ', g d δ M = some (δ', M) ∧ DrX s M (M1.length :: R) n (te δ' M)) →
    ∃ acc' M', compL nn g tTrue te δ l M = some M' ∧ acc'.length = acc.length + l.length ∧ InX s R n M1 acc' M'
  | [], acc, M, _, h, _ => ⟨acc, M, rfl, rfl, h⟩
  | d :: l, acc, M, hl, h, st => by
    obtain ⟨δ', h1, x, M', h2, h3, h4, h5⟩ := st d List.mem_cons_self M acc h
    rw [List.length_cons] at hl
    obtain ⟨⟨a, b, G, k1, k2, k3, rfl⟩, w, v⟩ := h
    obtain ⟨a', b', G', j1, j2, j3, rfl⟩ := h3
    have lenS : ∀ a b, (M1.set s (srcM a b)).length = M1.length := fun _ _ => List.length_set ..
    have em : (M1.set s (srcM a b) ++ (.lst acc :: G)).set s (srcM a' b') ++ G' = M1.set s (srcM a' b') ++ (.lst acc :: (G ++ G')) := by
      rw [set_app (by rw [lenS]; exact hs), List.set_set, List.append_assoc]
      rfl
    rw [em] at h2 h4 h5
    have step : compStep nn g tTrue te δ d (M1.set s (srcM a b) ++ (.lst acc :: G)) = some (M1.set s (srcM a' b') ++ (.lst (acc ++ [x]) :: (G ++ G'))) := by
      unfold compStep
      rw [h1]
      dsimp only
      show (match tTrue δ' (M1.set s (srcM a b) ++ (.lst acc :: G)) with
        | .ok b M2 => _
        | _ => none) = _
      show (if true = true then _ else _) = _
      rw [if_pos rfl, h2]
      dsimp only
      have hn' : nn = (M1.set s (srcM a' b')).length := by rw [lenS]; exact hn
      rw [hn', lstOf_new0, lstOf_c0]
      dsimp only
      rw [if_pos (by omega), setM_new0]
      rfl
    have keep : ∀ (d : D) m, okV (M1.set s (srcM a' b') ++ (.lst acc :: (G ++ G'))) (M1.length :: R) m d → okV (M1.set s (srcM a' b') ++ (.lst (acc ++ [x]) :: (G ++ G'))) (M1.length :: R) m d := fun d m hd => by
      refine okV.keep (fun k l hk hl => ?_) m d hd
      have hk' : k ≠ M1.length := fun z => hk (by rw [z]; exact List.mem_cons_self)
      have : M1.set s (srcM a' b') ++ (.lst (acc ++ [x]) :: (G ++ G')) = (M1.set s (srcM a' b') ++ (.lst acc :: (G ++ G'))).set M1.length (.lst (acc ++ [x])) := by
        rw [← lenS a' b', setM_new0]
        rfl
      rw [this]
      unfold lstOf at hl ⊢
      rw [List.getElem?_set_ne (Ne.symm hk')]
      exact hl
    have inx : InX s R n M1 (acc ++ [x]) (M1.set s (srcM a' b') ++ (.lst (acc ++ [x]) :: (G ++ G'))) := by
      refine ⟨⟨a', b', G ++ G', j1, j2, j3, rfl⟩, ?_, fun d hd => ?_⟩
      · have : M1.set s (srcM a' b') ++ (.lst (acc ++ [x]) :: (G ++ G')) = (M1.set s (srcM a' b') ++ (.lst acc :: (G ++ G'))).set M1.length (.lst (acc ++ [x])) := by
          rw [← lenS a' b', setM_new0]
          rfl
        rw [this]
        refine h4.put fun d hd => ?_
        rcases List.mem_append.mp hd with z | z
        · exact h4.lst (k := M1.length) (l := acc) (by rw [← lenS a' b', lstOf_new0]; rfl) d z
        · rw [List.mem_singleton.mp z]; exact okV.below h4 n x h5
      · rcases List.mem_append.mp hd with z | z
        · have o := v d z
          have ex : Ext s (M1.set s (srcM a b) ++ (.lst acc :: G)) (M1.set s (srcM a' b') ++ (.lst acc :: (G ++ G'))) := ⟨a', b', G', j1, j2, j3, em.symm⟩
          exact keep d n (o.ext ex (List.mem_cons_of_mem _ sR))
        · rw [List.mem_singleton.mp z]; exact keep x n h5
    obtain ⟨acc', M', q1, q2, q3⟩ := compL_drawX hn hs sR hR l (acc ++ [x]) _ (by rw [List.length_append, List.length_singleton]; omega) inx fun d' hd' => st d' (List.mem_cons_of_mem _ hd')
    refine ⟨acc', M', ?_, by rw [q2, List.length_append, List.length_singleton, List.length_cons]; omega, q3⟩
    unfold compL
    rw [step]
    exact q1
theorem dLc_drawX {own : List Nat} {s n : Nat} {R : List Nat} {src : EF Src} {g : GF D} {te : EF D} {δ : DEnv} {M M1 : Mem} {l : List D} (hs : src δ M = .ok (.items l) M1) (ho : okS M1 s) (w : WM M1) (sR : s ∈ R) (hR : ∀ r ∈ R, r < M1.length) (hl : l.length ≤ sizeLine)
    (h : ∀ d ∈ l, ∀ M acc, InX s R n M1 acc M → ∃ δ', g d (wipeD δ own) M = some (δ', M) ∧ DrX s M (M1.length :: R) n (te δ' M)) :
    ∃ acc M', dLc own src g tTrue te δ M = .ok (.ref M1.length) M' ∧ acc.length = l.length ∧ InX s R n M1 acc M' := by
  obtain ⟨a, b, e, h1, h2, h3⟩ := id ho
  have i0 : InX s R n M1 [] (M1 ++ [.lst []]) := ⟨⟨a, b, [], h1, h2, h3, by rw [set_same e]⟩, w.app (fun d hd => by cases hd), fun d hd => by cases hd⟩
  obtain ⟨acc, M', q1, q2, q3⟩ := compL_drawX (nn := M1.length) (g := g) (te := te) (δ := wipeD δ own) (n := n) rfl ho.lt sR hR l [] _ (by simpa using hl) i0 h
  refine ⟨acc, M', ?_, by simpa using q2, q3⟩
  unfold dLc
  rw [hs]
  show (match compL M1.length g tTrue te (wipeD δ own) l (M1 ++ [.lst []]) with
    | some M' => Res.ok (D.ref M1.length) M'
    | none => .bad) = _
  rw [q1]
/-- behind it -/
theorem InX.ext {s n : Nat} {R : List Nat} {M1 : Mem} {acc : List D} {M : Mem} (h : InX s R n M1 acc M) : Ext s M1 M ∧ lstOf M M1.length = some acc ∧ ∀ d ∈ acc, okV M R n d := by
  obtain ⟨⟨a, b, G, h1, h2, h3, rfl⟩, w, v⟩ := h
  exact ⟨⟨a, b, _, h1, h2, h3, rfl⟩, by rw [show M1.length = (M1.set s (srcM a b)).length by rw [List.length_set], lstOf_new0]; rfl, fun d hd => okV.less (fun x hx => List.mem_cons_of_mem _ hx) n d (v d hd)⟩
theorem InX.okS {s n : Nat} {R : List Nat} {M1 : Mem} {acc : List D} {M : Mem} (h : InX s R n M1 acc M) (hs : s < M1.length) : okS M s := (h.ext.1).okS hs
end Pd
namespace Pd
open PySem
/-! ### a comprehension that draws: each result by its item -/
def All2 {α β : Type} (P : α → β → Prop) : List α → List β → Prop
  | [], [] => True
  | a :: l, b :: m => P a b ∧ All2 P l m
  | _, _ => False
theorem All2.len {α β : Type} {P : α → β → Prop} : ∀ {l : List α} {m : List β}, All2 P l m → m.length = l.length
  | [], [], _ => rfl
  | _ :: _, _ :: _, h => by rw [List.length_cons, List.length_cons, All2.len h.2]
  | [], _ :: _, h => h.elim
  | _ :: _, [], h => h.elim
theorem All2.get {α β : Type} {P : α → β → Prop} : ∀ {l : List α} {m : List β} {i : Nat} {a : α} {b : β}, All2 P l m → l[i]? = some a → m[i]? = some b → P a b
  | [], _, _, _, _, _, h, _ => by cases h
  | _ :: _, [], _, _, _, h, _, _ => h.elim
  | x :: l, y :: m, 0, a, b, h, h1, h2 => by cases h1; cases h2; exact h.1
  | x :: l, y :: m, i + 1, a, b, h, h1, h2 => All2.get (i := i) h.2 (by simpa using h1) (by simpa using h2)
theorem All2.mem {α β : Type} {P : α → β → Prop} : ∀ {l : List α} {m : List β} {b : β}, All2 P l m → b ∈ m → ∃ a ∈ l, P a b
  | [], [], _, _, h => by cases h
  | [], _ :: _, _, h, _ => h.elim
  | _ :: _, [], _, h, _ => h.elim
  | x :: l, y :: m, b, h, hb => by
    rcases List.mem_cons.mp hb with e | hb
    · rw [e]; exact ⟨x, List.mem_cons_self, h.1⟩
    · obtain ⟨a, ha, p⟩ := All2.mem h.2 hb
      exact ⟨a, List.mem_cons_of_mem _ ha, p⟩
theorem compL_draw2 {s n : Nat} {g : GF D} {te : EF D} {δ : DEnv} {P : D → D → Prop} : ∀ (l acc : List D) (M0 : Mem), n = M0.length → s < M0.length → okS M0 s → acc.length + l.length ≤ sizeLine →
    (∀ d ∈ l, ∀ (a b : Int) acc, 0 ≤ a → 0 ≤ b → b < 2 ^ 40 → ∃ δ', g d δ (M0.set s (srcM a b) ++ [.lst acc]) = some (δ', M0.set s (srcM a b) ++ [.lst acc]) ∧ Dr s (M0.set s (srcM a b) ++ [.lst acc]) (P d) (te δ' (M0.set s (srcM a b) ++ [.lst acc]))) →
    ∃ ys a b, compL n g tTrue te δ l (M0 ++ [.lst acc]) = some (M0.set s (srcM a b) ++ [.lst (acc ++ ys)]) ∧ All2 P l ys ∧ 0 ≤ a ∧ 0 ≤ b ∧ b < 2 ^ 40
  | [], acc, M0, _, hs, ho, _, _ => by
    obtain ⟨a, b, e, h1, h2, h3⟩ := ho
    refine ⟨[], a, b, ?_, trivial, h1, h2, h3⟩
    rw [set_same e, List.append_nil]
    rfl
  | d :: l, acc, M0, hn, hs, ho, hl, h => by
    obtain ⟨a0, b0, e0, g1, g2, g3⟩ := id ho
    have same := set_same e0
    obtain ⟨δ', h1, h2⟩ := h d List.mem_cons_self a0 b0 acc g1 g2 g3
    rw [same] at h1 h2
    obtain ⟨x, a, b, hx, e, _, k1, k2, k3⟩ := dr_nextP h2 (by rw [List.length_append]; omega)
    rw [set_app hs] at e
    rw [List.length_cons] at hl
    have step : compStep n g tTrue te δ d (M0 ++ [.lst acc]) = some (M0.set s (srcM a b) ++ [.lst (acc ++ [x])]) := by
      unfold compStep
      rw [h1]
      dsimp only
      show (match tTrue δ' (M0 ++ [.lst acc]) with
        | .ok b M2 => _
        | _ => none) = _
      show (if true = true then _ else _) = _
      rw [if_pos rfl, e]
      dsimp only
      have hn' : n = (M0.set s (srcM a b)).length := by rw [List.length_set]; exact hn
      rw [hn', lstOf_mid]
      dsimp only
      rw [if_pos (by omega)]
      simp
    obtain ⟨ys, a', b', q1, q2, q4, q5, q6⟩ := compL_draw2 (n := n) (P := P) l (acc ++ [x]) (M0.set s (srcM a b)) (by rw [List.length_set]; exact hn) (by rw [List.length_set]; exact hs) (okS.set hs k1 k2 k3) (by rw [List.length_append, List.length_singleton]; omega)
      (fun d' hd' a b acc ha hb hb2 => by rw [List.set_set]; exact h d' (List.mem_cons_of_mem _ hd') a b acc ha hb hb2)
    refine ⟨x :: ys, a', b', ?_, ⟨hx, q2⟩, q4, q5, q6⟩
    unfold compL
    rw [step]
    show compL n g tTrue te δ l (M0.set s (srcM a b) ++ [.lst (acc ++ [x])]) = _
    rw [q1, List.set_set]
    simp
theorem dLc_draw2 {own : List Nat} {s : Nat} {src : EF Src} {g : GF D} {te : EF D} {δ : DEnv} {M M1 : Mem} {l : List D} (P : D → D → Prop) (hs : src δ M = .ok (.items l) M1) (ho : okS M1 s) (hl : l.length ≤ sizeLine)
    (h : ∀ d ∈ l, ∀ (a b : Int) acc, 0 ≤ a → 0 ≤ b → b < 2 ^ 40 → ∃ δ', g d (wipeD δ own) (M1.set s (srcM a b) ++ [.lst acc]) = some (δ', M1.set s (srcM a b) ++ [.lst acc]) ∧ Dr s (M1.set s (srcM a b) ++ [.lst acc]) (P d) (te δ' (M1.set s (srcM a b) ++ [.lst acc]))) :
    ∃ ys a b, dLc own src g tTrue te δ M = .ok (.ref M1.length) (M1.set s (srcM a b) ++ [.lst ys]) ∧ All2 P l ys ∧ 0 ≤ a ∧ 0 ≤ b ∧ b < 2 ^ 40 := by
  obtain ⟨ys, a, b, e, q2, q4, q5, q6⟩ := compL_draw2 (n := M1.length) (g := g) (te := te) (δ := wipeD δ own) (P := P) l [] M1 rfl ho.lt ho (by simpa using hl) h
  refine ⟨ys, a, b, ?_, q2, q4, q5, q6⟩
  unfold dLc
  rw [hs]
  show (match compL M1.length g tTrue te (wipeD δ own) l (M1 ++ [.lst []]) with
    | some M' => Res.ok (D.ref M1.length) M'
    | none => .bad) = _
  rw [e]
  rfl
/-! ### a number in a tuple of numbers -/
theorem flatL_ints : ∀ l : List Int, flatL (l.map D.int) = some (l.map L2.V.int)
  | [] => rfl
  | i :: l => by
    rw [List.map_cons]
    unfold flatL
    rw [flatL_ints l]
    rfl
theorem inV_ints (i : Int) (l : List Int) : L2.inV (.int i) (l.map L2.V.int) = decide (i ∈ l) := by
  unfold L2.inV
  induction l with
  | nil => rfl
  | cons x l ih =>
    rw [List.map_cons, List.any_cons, ih]
    have e : L2.eqV (.int x) (.int i) = decide (x = i) := by
      first | rfl | (unfold L2.eqV; rfl) | simp [L2.eqV]
    rw [e, Bool.eq_iff_iff, Bool.or_eq_true, decide_eq_true_iff, decide_eq_true_iff, decide_eq_true_iff, List.mem_cons]
    exact ⟨fun h => h.elim (fun z => .inl z.symm) .inr, fun h => h.elim (fun z => .inl z.symm) .inr⟩
theorem oIn_ints (i : Int) (l : List Int) (M : Mem) : oIn (.int i) (.tup (l.map D.int)) M = some (.bl (decide (i ∈ l)), M) := by
  have e1 : inFlat (.int i) (.tup (l.map D.int)) M = some (decide (i ∈ l)) := by
    unfold inFlat
    show (match flatOf (.int i), (some (l.map D.int)).bind flatL with
      | some x, some xs => some (L2.inV x xs)
      | _, _ => none) = _
    rw [Option.bind_some, flatL_ints, ← inV_ints]
    rfl
  have e2 : inStr (.int i) (.tup (l.map D.int)) = none := rfl
  unfold oIn dInB
  rw [e2, e1]
  rfl
/-! ### pairs and numbered items -/
theorem pairsD_length : ∀ (l m : List D), (pairsD l m).length = min l.length m.length
  | [], m => by show 0 = _; simp
  | _ :: _, [] => by show 0 = _; simp
  | a :: l, b :: m => by
    show (pairsD l m).length + 1 = _
    rw [pairsD_length l m, List.length_cons, List.length_cons]
    omega
theorem enumD_length : ∀ (l : List D) (k : Nat), (enumD k l).length = l.length
  | [], _ => rfl
  | d :: l, k => by
    show (enumD (k + 1) l).length + 1 = _
    rw [enumD_length l (k + 1)]
    rfl
end Pd
namespace Pd
open PySem
/-! ### comprehensions by an invariant -/
theorem compF_inv {n r : Nat} {g : GF D} {tt : EF Bool} {te : EF D} {δ : DEnv} {l : List D} (J : Nat → Mem → Prop) (hs : ∀ i M, J i M → seqOf M r = some l)
    (st : ∀ i d M, l[i]? = some d → J i M → ∃ M', compStep n g tt te δ d M = some M' ∧ J (i + 1) M') : ∀ (k i : Nat) (M : Mem), i ≤ l.length → l.length - i < k → J i M → ∃ M', compF n g tt te δ (.live r) k i M = some M' ∧ J l.length M'
  | 0, _, _, _, h, _ => by omega
  | k + 1, i, M, hi, hk, h => by
    unfold compF
    have e0 : Src.item M i (.live r) = some l[i]? := by
      show (seqOf M r).map (fun l => l[i]?) = _
      rw [hs i M h]
      rfl
    rw [e0]
    cases c : l[i]? with
    | none =>
      have : i = l.length := by have := List.getElem?_eq_none_iff.mp c; omega
      subst this
      exact ⟨M, rfl, h⟩
    | some d =>
      have hi2 := (List.getElem?_eq_some_iff.mp c).1
      obtain ⟨M', e, h'⟩ := st i d M c h
      dsimp only
      rw [e, Option.bind_some]
      exact compF_inv J hs st k (i + 1) M' (by omega) (by omega) h'
theorem dLc_liveJ {own : List Nat} {src : EF Src} {g : GF D} {tt : EF Bool} {te : EF D} {δ : DEnv} {M M1 : Mem} {r : Nat} {l : List D} (J : Nat → Mem → Prop) (hsrc : src δ M = .ok (.live r) M1) (h0 : J 0 (M1 ++ [.lst []])) (hs : ∀ i M, J i M → seqOf M r = some l)
    (st : ∀ i d M, l[i]? = some d → J i M → ∃ M', compStep M1.length g tt te (wipeD δ own) d M = some M' ∧ J (i + 1) M') : ∃ M', dLc own src g tt te δ M = .ok (.ref M1.length) M' ∧ J l.length M' := by
  have sz : Src.size (M1 ++ [MO.lst []]) (.live r) = l.length := by
    show ((seqOf (M1 ++ [MO.lst []]) r).getD []).length = _
    rw [hs 0 _ h0]
    rfl
  obtain ⟨M', e, h⟩ := compF_inv (n := M1.length) J hs st (l.length + 1) 0 (M1 ++ [.lst []]) (Nat.zero_le _) (by omega) h0
  refine ⟨M', ?_, h⟩
  unfold dLc
  rw [hsrc, bind_ok]
  show (match compF M1.length g tt te (wipeD δ own) (.live r) (Src.size (M1 ++ [MO.lst []]) (.live r) + 1) 0 (M1 ++ [MO.lst []]) with
    | some M' => Res.ok (D.ref M1.length) M'
    | none => .bad) = _
  rw [sz, e]
theorem compL_inv {n : Nat} {g : GF D} {tt : EF Bool} {te : EF D} {δ : DEnv} (J : Nat → Mem → Prop) : ∀ (l : List D) (i : Nat) (M : Mem),
    (∀ j d M, l[j]? = some d → J (i + j) M → ∃ M', compStep n g tt te δ d M = some M' ∧ J (i + j + 1) M') → J i M → ∃ M', compL n g tt te δ l M = some M' ∧ J (i + l.length) M'
  | [], i, M, _, h => ⟨M, rfl, h⟩
  | d :: l, i, M, st, h => by
    obtain ⟨M', e, h'⟩ := st 0 d M rfl h
    obtain ⟨M2, e2, h2⟩ := compL_inv J l (i + 1) M' (fun j d M hd hJ => by
      have := st (j + 1) d M (by simpa using hd) (by rw [show i + (j + 1) = i + 1 + j by omega]; exact hJ)
      rw [show i + (j + 1) + 1 = i + 1 + j + 1 by omega] at this
      exact this) h'
    refine ⟨M2, ?_, by rw [List.length_cons, show i + (l.length + 1) = i + 1 + l.length by omega]; exact h2⟩
    unfold compL
    rw [e]
    exact e2
theorem dLc_itemsJ {own : List Nat} {src : EF Src} {g : GF D} {tt : EF Bool} {te : EF D} {δ : DEnv} {M M1 : Mem} {l : List D} (J : Nat → Mem → Prop) (hsrc : src δ M = .ok (.items l) M1) (h0 : J 0 (M1 ++ [.lst []]))
    (st : ∀ i d M, l[i]? = some d → J i M → ∃ M', compStep M1.length g tt te (wipeD δ own) d M = some M' ∧ J (i + 1) M') : ∃ M', dLc own src g tt te δ M = .ok (.ref M1.length) M' ∧ J l.length M' := by
  obtain ⟨M', e, h⟩ := compL_inv (n := M1.length) J l 0 (M1 ++ [.lst []]) (fun j d M hd hJ => by rw [Nat.zero_add] at hJ ⊢; exact st j d M hd hJ) h0
  rw [Nat.zero_add] at h
  refine ⟨M', ?_, h⟩
  unfold dLc
  rw [hsrc, bind_ok]
  show (match compL M1.length g tt te (wipeD δ own) l (M1 ++ [.lst []]) with
    | some M' => Res.ok (D.ref M1.length) M'
    | none => .bad) = _
  rw [e]
/-- one step, taken -/
theorem comp_yes {n : Nat} {g : GF D} {tt : EF Bool} {te : EF D} {δ δ' : DEnv} {d x : D} {M M1 M2 M3 : Mem} {acc : List D} (h1 : g d δ M = some (δ', M1)) (h2 : tt δ' M1 = .ok true M2) (h3 : te δ' M2 = .ok x M3) (h4 : lstOf M3 n = some acc) (h5 : acc.length < sizeLine) :
    compStep n g tt te δ d M = some (M3.set n (.lst (acc ++ [x]))) := by
  unfold compStep
  rw [h1]
  dsimp only
  rw [h2]
  dsimp only
  rw [if_pos rfl, h3]
  dsimp only
  rw [h4]
  dsimp only
  rw [if_pos h5]
/-! ### what is kept behind a call -/
theorem gc_keepL {M G : Mem} {k : Nat} {l : List D} (h : (M ++ G)[k]? = some (.lst l)) (hk : M.length ≤ k) (hb : belowL M.length l = false) : gcR M (.ok (.ref k) (M ++ G)) = .ok (.ref k) (M ++ G) := by
  show gcV M (.ref k) (M ++ G) = _
  unfold gcV
  rw [if_pos (oldOk_self M G), if_neg (by show ¬ (decide (k < M.length) = true); simp; omega)]
  dsimp only
  rw [h]
  dsimp only
  rw [if_neg (by rw [hb]; simp)]
theorem gc_keepT {M G : Mem} {l : List D} (hb : belowL M.length l = false) : gcR M (.ok (.tup l) (M ++ G)) = .ok (.tup l) (M ++ G) := by
  show gcV M (.tup l) (M ++ G) = _
  unfold gcV
  rw [if_pos (oldOk_self M G), if_neg (by show ¬ belowL M.length l = true; rw [hb]; simp)]
theorem lstOf_get {M : Mem} {k : Nat} {l : List D} (h : lstOf M k = some l) : M[k]? = some (.lst l) := by
  unfold lstOf at h
  split at h
  · cases h; assumption
  · cases h
/-! ### l.remove(x) of the first, l.pop(i), l[i] += 1 -/
theorem oRem_head {n : Nat} {M : Mem} {x : Int} {ns : List Int} (h : lstOf M n = some ((x :: ns).map D.int)) : oRem (.ref n) [.int x] M = some (.non, M.set n (.lst (ns.map D.int))) := by
  show (match lstOf M n with
    | some xs => match intsD xs with
      | some ns => match ns.findIdx? (fun z => decide (z = x)) with
        | some j => some (D.non, M.set n (.lst ((ns.eraseIdx j).map D.int)))
        | none => none
      | none => none
    | none => none) = _
  rw [h]
  dsimp only
  rw [intsD_ints]
  dsimp only
  rw [List.findIdx?_cons, if_pos (decide_eq_true rfl)]
  rfl
theorem oPopA_at {n k : Nat} {M : Mem} {l : List D} {d : D} (h : lstOf M n = some l) (hk : l[k]? = some d) (hb : (k : Int) < 2 ^ 62) : oPopA (.ref n) [.int k] M = some (d, M.set n (.lst (l.eraseIdx k))) := by
  show (match lstOf M n with
    | some xs => if 0 ≤ (k : Int) ∧ (k : Int) < 2 ^ 62 then (match xs[(k : Int).toNat]? with
      | some d => some (d, M.set n (.lst (xs.eraseIdx (k : Int).toNat)))
      | none => none) else none
    | none => none) = _
  rw [h]
  dsimp only
  rw [if_pos ⟨by omega, hb⟩, show (k : Int).toNat = k by omega, hk]
theorem minL_head {x : Int} : ∀ {ns : List Int}, (∀ y ∈ ns, x ≤ y) → minL ns x = x
  | [], _ => rfl
  | y :: ns, h => by
    show minL ns (if y < x then y else x) = x
    rw [if_neg (by have := h y List.mem_cons_self; omega)]
    exact minL_head fun z hz => h z (List.mem_cons_of_mem _ hz)
end Pd
namespace Hr
open Pd
/-! Buckets handed round, in plain lists of numbers: counters -/
theorem sortI_of {l : List Int} (h : l.Pairwise (· ≤ ·)) : sortI l = l := sorted_one (sortI_sorted l) h (sortI_perm l)
def cnt (p : Nat → Bool) : Nat → Nat
  | 0 => 0
  | t + 1 => cnt p t + if p t = true then 1 else 0
theorem cnt_le (p : Nat → Bool) (t : Nat) : cnt p t ≤ cnt p (t + 1) := Nat.le_add_right _ _
theorem cnt_mono (p : Nat → Bool) {s t : Nat} (h : s ≤ t) : cnt p s ≤ cnt p t := by
  induction t with
  | zero => have : s = 0 := by omega
            subst this; exact Nat.le_refl _
  | succ t ih =>
    by_cases e : s = t + 1
    · subst e; exact Nat.le_refl _
    · exact Nat.le_trans (ih (by omega)) (cnt_le p t)
theorem cnt_step (p : Nat → Bool) (t : Nat) : cnt p (t + 1) ≤ cnt p t + 1 := by
  show cnt p t + (if p t = true then 1 else 0) ≤ _
  split <;> omega
theorem cnt_true {p : Nat → Bool} {t : Nat} (h : p t = true) : cnt p (t + 1) = cnt p t + 1 := by
  show cnt p t + (if p t = true then 1 else 0) = _
  rw [if_pos h]
theorem cnt_false {p : Nat → Bool} {t : Nat} (h : p t = false) : cnt p (t + 1) = cnt p t := by
  show cnt p t + (if p t = true then 1 else 0) = _
  rw [if_neg (by rw [h]; exact Bool.false_ne_true), Nat.add_zero]
/-- the k-th time of p lies ahead of t -/
theorem cnt_gt {p : Nat → Bool} {k : Nat} : ∀ {t : Nat}, k < cnt p t → ∃ u, u < t ∧ p u = true ∧ cnt p u = k
  | 0, h => absurd h (Nat.not_lt_zero _)
  | t + 1, h => by
    by_cases g : k < cnt p t
    · obtain ⟨u, h1, h2⟩ := cnt_gt g
      exact ⟨u, by omega, h2⟩
    · cases e : p t with
      | true =>
        rw [cnt_true e] at h
        exact ⟨t, by omega, e, by omega⟩
      | false =>
        rw [cnt_false e] at h
        omega
theorem cnt_of {p : Nat → Bool} {u t : Nat} (h : p u = true) (ht : u < t) : cnt p u < cnt p t := by
  have := cnt_mono p (show u + 1 ≤ t by omega)
  rw [cnt_true h] at this
  omega
/-! ### a row of things that become ready -/
/-- what is on its way: due within less than c beats -/
def pend (p : Nat → Bool) (c t : Nat) : List Int := (List.range (c - 1)).filterMap fun r => if c ≤ t + (r + 1) ∧ p (t + (r + 1) - c) = true then some ((r + 1 : Nat) : Int) else none
def queue (inn out : Nat → Bool) (k c t : Nat) : List Int := List.replicate (k + cnt inn (t + 1 - c) - cnt out t) 0 ++ pend inn c t
def dec1 (x : Int) : Int := if x - 1 > 0 then x - 1 else 0
def rdy (l : List Int) : Bool := match l with
  | x :: _ => decide (x = 0)
  | [] => false
def laterL (b : List Int) (gone : Bool) (new : Int) : List Int := sortI ((if gone = true then b.drop 1 else b).map dec1 ++ if 0 < new then [new - 1] else [])
theorem pend_mem {p : Nat → Bool} {c t : Nat} {x : Int} (h : x ∈ pend p c t) : 1 ≤ x ∧ x ≤ (c : Int) - 1 := by
  obtain ⟨r, hr, e⟩ := List.mem_filterMap.mp h
  have hr' := List.mem_range.mp hr
  split at e
  · cases e; omega
  · cases e
theorem pend_sorted (p : Nat → Bool) (c t : Nat) : (pend p c t).Pairwise (· ≤ ·) := by
  unfold pend
  rw [List.pairwise_filterMap]
  refine List.Pairwise.imp_of_mem (R := fun a b => a < b) (fun {a b} _ _ h x hx y hy => ?_) List.pairwise_lt_range
  split at hx
  · split at hy
    · cases hx; cases hy; omega
    · cases hy
  · cases hx
theorem queue_rdy (inn out : Nat → Bool) (k c t : Nat) : rdy (queue inn out k c t) = decide (cnt out t < k + cnt inn (t + 1 - c)) := by
  unfold queue
  cases e : k + cnt inn (t + 1 - c) - cnt out t with
  | zero =>
    rw [decide_eq_false (by omega), List.replicate_zero, List.nil_append]
    cases h : pend inn c t with
    | nil => rfl
    | cons x l =>
      have : 1 ≤ x := (pend_mem (p := inn) (c := c) (t := t) (x := x) (by rw [h]; exact List.mem_cons_self)).1
      show decide (x = 0) = false
      exact decide_eq_false (by omega)
  | succ n =>
    rw [decide_eq_true (by omega), List.replicate_succ]
    rfl
theorem queue_zero (inn out : Nat → Bool) (k c : Nat) (h : 1 ≤ c) : queue inn out k c 0 = List.replicate k 0 := by
  unfold queue pend
  have e1 : cnt inn (0 + 1 - c) = 0 := by rw [show 0 + 1 - c = 0 by omega]; rfl
  have e2 : cnt out 0 = 0 := rfl
  rw [e1, e2, Nat.add_zero, Nat.sub_zero]
  have : ((List.range (c - 1)).filterMap fun r => if c ≤ 0 + (r + 1) ∧ inn (0 + (r + 1) - c) = true then some ((r + 1 : Nat) : Int) else none) = [] := by
    rw [List.filterMap_eq_nil_iff]
    intro r hr
    have := List.mem_range.mp hr
    rw [if_neg (by omega)]
  rw [this, List.append_nil]
theorem fm_congr {α β : Type} {f g : α → Option β} : ∀ {l : List α}, (∀ a ∈ l, f a = g a) → l.filterMap f = l.filterMap g
  | [], _ => rfl
  | a :: l, h => by
    rw [List.filterMap_cons, List.filterMap_cons, h a List.mem_cons_self, fm_congr fun b hb => h b (List.mem_cons_of_mem _ hb)]
theorem pend_dec (p : Nat → Bool) (c t : Nat) (h : 2 ≤ c) : (pend p c t).map dec1 ++ (if p t = true then [(c : Int) - 1] else []) = (if c ≤ t + 1 ∧ p (t + 1 - c) = true then [0] else []) ++ pend p c (t + 1) := by
  obtain ⟨c, rfl⟩ : ∃ d, c = d + 2 := ⟨c - 2, by omega⟩
  have e1 : (pend p (c + 2) t).map dec1 = (if c + 2 ≤ t + 1 ∧ p (t + 1 - (c + 2)) = true then [0] else []) ++ ((List.range c).filterMap fun r => if c + 2 ≤ t + 1 + (r + 1) ∧ p (t + 1 + (r + 1) - (c + 2)) = true then some ((r + 1 : Nat) : Int) else none) := by
    unfold pend
    rw [show c + 2 - 1 = c + 1 from rfl, List.range_succ_eq_map, List.filterMap_cons, Nat.zero_add]
    have rest : (((List.map Nat.succ (List.range c)).filterMap fun r => if c + 2 ≤ t + (r + 1) ∧ p (t + (r + 1) - (c + 2)) = true then some ((r + 1 : Nat) : Int) else none).map dec1) = ((List.range c).filterMap fun r => if c + 2 ≤ t + 1 + (r + 1) ∧ p (t + 1 + (r + 1) - (c + 2)) = true then some ((r + 1 : Nat) : Int) else none) := by
      rw [List.filterMap_map, List.map_filterMap]
      refine fm_congr fun r _ => ?_
      show Option.map dec1 (if c + 2 ≤ t + (r + 1 + 1) ∧ p (t + (r + 1 + 1) - (c + 2)) = true then some ((r + 1 + 1 : Nat) : Int) else none) = _
      rw [show t + (r + 1 + 1) = t + 1 + (r + 1) by omega]
      split
      · show some (dec1 _) = _
        unfold dec1
        rw [if_pos (by omega)]
        congr 1
        omega
      · rfl
    by_cases g : c + 2 ≤ t + 1 ∧ p (t + 1 - (c + 2)) = true
    · rw [if_pos g, if_pos g]
      dsimp only
      rw [List.map_cons, rest]
      rfl
    · rw [if_neg g, if_neg g]
      dsimp only
      rw [rest]
      rfl
  have e2 : pend p (c + 2) (t + 1) = ((List.range c).filterMap fun r => if c + 2 ≤ t + 1 + (r + 1) ∧ p (t + 1 + (r + 1) - (c + 2)) = true then some ((r + 1 : Nat) : Int) else none) ++ if p t = true then [((c + 2 : Nat) : Int) - 1] else [] := by
    unfold pend
    rw [show c + 2 - 1 = c + 1 from rfl, List.range_succ, List.filterMap_append]
    congr 1
    rw [List.filterMap_cons, List.filterMap_nil]
    have : t + 1 + (c + 1) - (c + 2) = t := by omega
    rw [this]
    by_cases g : p t = true
    · rw [if_pos ⟨by omega, g⟩, if_pos g]
      dsimp only
      congr 1
      omega
    · rw [if_neg (fun z => g z.2), if_neg g]
  rw [e1, e2, List.append_assoc]
theorem queue_sorted (inn out : Nat → Bool) (k c t : Nat) : (queue inn out k c t).Pairwise (· ≤ ·) := by
  unfold queue
  refine List.pairwise_append.mpr ⟨List.pairwise_replicate.mpr (.inr (by omega)), pend_sorted inn c t, fun x hx y hy => ?_⟩
  rw [(List.mem_replicate.mp hx).2]
  have := (pend_mem hy).1
  omega
theorem map_dec_zero (n : Nat) : (List.replicate n (0 : Int)).map dec1 = List.replicate n 0 := by
  rw [List.map_replicate]
  rfl
/-- a beat later -/
theorem queue_step (inn out : Nat → Bool) (k c t : Nat) (hc : 1 ≤ c) (hle : cnt out t ≤ k + cnt inn (t + 1 - c)) (ho : out t = true → cnt out t < k + cnt inn (t + 1 - c)) :
    laterL (queue inn out k c t) (out t) (if inn t = true then (c : Int) else 0) = queue inn out k c (t + 1) ∧ cnt out (t + 1) ≤ k + cnt inn (t + 1 + 1 - c) := by
  have left : (if out t = true then (queue inn out k c t).drop 1 else queue inn out k c t) = List.replicate (k + cnt inn (t + 1 - c) - cnt out (t + 1)) 0 ++ pend inn c t := by
    cases e : out t with
    | false => rw [if_neg Bool.false_ne_true, cnt_false e]; rfl
    | true =>
      have := ho e
      rw [if_pos rfl, cnt_true e]
      unfold queue
      rw [show k + cnt inn (t + 1 - c) - cnt out t = k + cnt inn (t + 1 - c) - (cnt out t + 1) + 1 by omega, List.replicate_succ]
      rfl
  have le1 : cnt out (t + 1) ≤ k + cnt inn (t + 1 - c) := by
    cases e : out t with
    | false => rw [cnt_false e]; exact hle
    | true => have := ho e; rw [cnt_true e]; omega
  have mono := cnt_mono inn (show t + 1 - c ≤ t + 1 + 1 - c by omega)
  refine ⟨?_, by omega⟩
  have key : (List.replicate (k + cnt inn (t + 1 - c) - cnt out (t + 1)) (0 : Int) ++ pend inn c t).map dec1 ++ (if (0 : Int) < (if inn t = true then (c : Int) else 0) then [(if inn t = true then (c : Int) else 0) - 1] else []) = queue inn out k c (t + 1) := by
    rw [List.map_append, map_dec_zero]
    have e2 : (if (0 : Int) < (if inn t = true then (c : Int) else 0) then [(if inn t = true then (c : Int) else 0) - 1] else []) = if inn t = true then [(c : Int) - 1] else [] := by
      by_cases g : inn t = true
      · rw [if_pos g, if_pos g, if_pos (by omega)]
      · rw [if_neg g, if_neg g, if_neg (by omega)]
    rw [e2]
    by_cases c1 : c = 1
    · subst c1
      have p0 : ∀ t, pend inn 1 t = [] := fun _ => rfl
      unfold queue
      rw [p0, p0, List.map_nil, List.append_nil, List.append_nil]
      rw [show t + 1 + 1 - 1 = t + 1 from rfl, show t + 1 - 1 = t from rfl] at *
      by_cases g : inn t = true
      · rw [if_pos g, cnt_true g, show k + (cnt inn t + 1) - cnt out (t + 1) = (k + cnt inn t - cnt out (t + 1)) + 1 by omega, List.replicate_succ']
        rfl
      · have g' : inn t = false := by cases h : inn t <;> simp_all
        rw [if_neg g, cnt_false g', List.append_nil]
    · rw [List.append_assoc, pend_dec inn c t (by omega), ← List.append_assoc]
      unfold queue
      congr 1
      by_cases g : c ≤ t + 1 ∧ inn (t + 1 - c) = true
      · rw [if_pos g, show t + 1 + 1 - c = (t + 1 - c) + 1 by omega, cnt_true g.2, show k + (cnt inn (t + 1 - c) + 1) - cnt out (t + 1) = (k + cnt inn (t + 1 - c) - cnt out (t + 1)) + 1 by omega, List.replicate_succ']
      · rw [if_neg g, List.append_nil]
        congr 1
        by_cases h : c ≤ t + 1
        · have g' : inn (t + 1 - c) = false := by
            cases e : inn (t + 1 - c) with
            | false => rfl
            | true => exact absurd ⟨h, e⟩ g
          rw [show t + 1 + 1 - c = (t + 1 - c) + 1 by omega, cnt_false g']
        · rw [show t + 1 + 1 - c = 0 by omega, show t + 1 - c = 0 by omega]
  unfold laterL
  rw [left, key, sortI_of (queue_sorted inn out k c (t + 1))]
end Hr
namespace Hr
open Pd
abbrev Ppl := List (Int × Int × Int)
abbrev Stg := List (List Int × List Int)
def who (c : Ppl) (i : Nat) : Int × Int × Int := c.getD i (1, 1, 1)
def Cy (c : Ppl) (i : Nat) : Nat := (who c i).1.toNat
def Bk (c : Ppl) (i : Nat) : Nat := (who c i).2.1.toNat
def Hd (c : Ppl) (i : Nat) : Nat := (who c i).2.2.toNat
def Fl (f : List Int) (i : Nat) : Nat := (f.getD i 0).toNat
def Gl (c : Ppl) (f : List Int) (i : Nat) : Nat := Hd c i - Fl f i
def at' (s : Stg) (i : Nat) : List Int × List Int := s.getD i ([], [])
def pr (n i : Nat) : Nat := (i + n - 1) % n
def su (n i : Nat) : Nat := (i + 1) % n
theorem pr_lt {n i : Nat} (h : 0 < n) : pr n i < n := Nat.mod_lt _ h
theorem su_lt {n i : Nat} (h : 0 < n) : su n i < n := Nat.mod_lt _ h
theorem pr_su {n i : Nat} (h : i < n) : pr n (su n i) = i := by
  unfold pr su
  by_cases e : i + 1 = n
  · rw [e, Nat.mod_self, Nat.zero_add, Nat.mod_eq_of_lt (by omega)]
    omega
  · rw [Nat.mod_eq_of_lt (show i + 1 < n by omega), show i + 1 + n - 1 = i + n by omega, Nat.add_mod_right, Nat.mod_eq_of_lt h]
theorem su_pr {n i : Nat} (h : i < n) : su n (pr n i) = i := by
  unfold pr su
  by_cases e : i = 0
  · subst e
    rw [Nat.zero_add, Nat.mod_eq_of_lt (show n - 1 < n by omega), show n - 1 + 1 = n by omega, Nat.mod_self]
  · rw [show i + n - 1 = (i - 1) + n by omega, Nat.add_mod_right, Nat.mod_eq_of_lt (show i - 1 < n by omega), show i - 1 + 1 = i by omega, Nat.mod_eq_of_lt h]
def giversL (s : Stg) : List Nat := (List.range s.length).filter fun i => rdy (at' s i).1 && rdy (at' s (su s.length i)).2
def stepL (c : Ppl) (s : Stg) : Stg := (List.range c.length).map fun i =>
  (laterL (at' s i).1 (decide (i ∈ giversL s)) (if decide (pr c.length i ∈ giversL s) = true then (who c i).1 else 0),
   laterL (at' s i).2 (decide (pr c.length i ∈ giversL s)) (if decide (i ∈ giversL s) = true then (who c i).2.1 else 0))
def firstL (c : Ppl) (f : List Int) : Stg := (List.range c.length).map fun i => (List.replicate (Fl f i) 0, List.replicate (Gl c f i) 0)
def runL (c : Ppl) (f : List Int) : Nat → Stg
  | 0 => firstL c f
  | t + 1 => stepL c (runL c f t)
def fire (c : Ppl) (f : List Int) (i t : Nat) : Bool := decide (i ∈ giversL (runL c f t))
/-- a circle with its filling -/
structure OkCF (c : Ppl) (f : List Int) : Prop where
  n0 : 0 < c.length
  len : f.length = c.length
  cy : ∀ i, i < c.length → 1 ≤ (who c i).1
  bk : ∀ i, i < c.length → 1 ≤ (who c i).2.1
  fl : ∀ i, i < c.length → 0 ≤ f.getD i 0 ∧ f.getD i 0 ≤ (who c i).2.2
section
variable {c : Ppl} {f : List Int}
theorem OkCF.c1 (h : OkCF c f) {i : Nat} (hi : i < c.length) : 1 ≤ Cy c i ∧ ((Cy c i : Nat) : Int) = (who c i).1 := by
  have := h.cy i hi
  unfold Cy
  omega
theorem OkCF.b1 (h : OkCF c f) {i : Nat} (hi : i < c.length) : 1 ≤ Bk c i ∧ ((Bk c i : Nat) : Int) = (who c i).2.1 := by
  have := h.bk i hi
  unfold Bk
  omega
theorem OkCF.fh (h : OkCF c f) {i : Nat} (hi : i < c.length) : Fl f i + Gl c f i = Hd c i := by
  have := h.fl i hi
  unfold Gl Fl Hd
  omega
def shape (c : Ppl) (f : List Int) (t i : Nat) : List Int × List Int :=
  (queue (fire c f (pr c.length i)) (fire c f i) (Fl f i) (Cy c i) t, queue (fire c f i) (fire c f (pr c.length i)) (Gl c f i) (Bk c i) t)
theorem at_map {n i : Nat} {g : Nat → List Int × List Int} (h : i < n) : at' ((List.range n).map g) i = g i := by
  unfold at'
  rw [List.getD_eq_getElem?_getD, List.getElem?_map, List.getElem?_range h]
  rfl
theorem len_run (t : Nat) : (runL c f t).length = c.length := by
  cases t with
  | zero => show (firstL c f).length = _; unfold firstL; rw [List.length_map, List.length_range]
  | succ t => show (stepL c _).length = _; unfold stepL; rw [List.length_map, List.length_range]
abbrev N (c : Ppl) (f : List Int) (i t : Nat) : Nat := cnt (fire c f i) t
/-- who hands on, by the numbers of handings on so far -/
def may (c : Ppl) (f : List Int) (i t : Nat) : Bool := decide (N c f i t < Fl f i + N c f (pr c.length i) (t + 1 - Cy c i)) && decide (N c f i t < Gl c f (su c.length i) + N c f (su c.length i) (t + 1 - Bk c (su c.length i)))
theorem fire_of (h : OkCF c f) {t : Nat} (e : runL c f t = (List.range c.length).map (shape c f t)) {i : Nat} (hi : i < c.length) : fire c f i t = may c f i t := by
  have hs := su_lt (n := c.length) (i := i) h.n0
  have key : (i ∈ giversL (runL c f t)) ↔ may c f i t = true := by
    unfold giversL
    rw [List.mem_filter, List.mem_range, len_run, e, at_map hi, at_map hs]
    unfold shape
    dsimp only
    rw [queue_rdy, queue_rdy, pr_su hi]
    exact ⟨fun z => z.2, fun z => ⟨hi, z⟩⟩
  unfold fire
  cases m : may c f i t with
  | true => exact decide_eq_true (key.mpr m)
  | false => exact decide_eq_false fun z => by rw [key.mp z] at m; cases m
theorem may_l {i t : Nat} (h : may c f i t = true) : N c f i t < Fl f i + N c f (pr c.length i) (t + 1 - Cy c i) ∧ N c f i t < Gl c f (su c.length i) + N c f (su c.length i) (t + 1 - Bk c (su c.length i)) := by
  obtain ⟨h1, h2⟩ := Bool.and_eq_true_iff.mp h
  exact ⟨of_decide_eq_true h1, of_decide_eq_true h2⟩
theorem run_ok (h : OkCF c f) : ∀ t, runL c f t = (List.range c.length).map (shape c f t) ∧ ∀ i, i < c.length → N c f i t ≤ Fl f i + N c f (pr c.length i) (t + 1 - Cy c i) ∧ N c f (pr c.length i) t ≤ Gl c f i + N c f i (t + 1 - Bk c i)
  | 0 => by
    refine ⟨?_, fun i hi => ⟨Nat.zero_le _, Nat.zero_le _⟩⟩
    show firstL c f = _
    unfold firstL
    refine List.map_congr_left fun i hi => ?_
    have hi' := List.mem_range.mp hi
    unfold shape
    rw [queue_zero _ _ _ _ (h.c1 hi').1, queue_zero _ _ _ _ (h.b1 hi').1]
  | t + 1 => by
    obtain ⟨e, le⟩ := run_ok h t
    have fr : ∀ i, i < c.length → fire c f i t = may c f i t := fun i hi => fire_of h e hi
    have st : ∀ i, i < c.length → (laterL (shape c f t i).1 (fire c f i t) (if fire c f (pr c.length i) t = true then (who c i).1 else 0) = (shape c f (t + 1) i).1 ∧ N c f i (t + 1) ≤ Fl f i + N c f (pr c.length i) (t + 1 + 1 - Cy c i)) ∧
        (laterL (shape c f t i).2 (fire c f (pr c.length i) t) (if fire c f i t = true then (who c i).2.1 else 0) = (shape c f (t + 1) i).2 ∧ N c f (pr c.length i) (t + 1) ≤ Gl c f i + N c f i (t + 1 + 1 - Bk c i)) := fun i hi => by
      obtain ⟨l1, l2⟩ := le i hi
      have hp := pr_lt (n := c.length) (i := i) h.n0
      constructor
      · rw [← (h.c1 hi).2]
        exact queue_step _ _ _ _ _ (h.c1 hi).1 l1 fun z => by
          rw [fr i hi] at z
          exact (may_l z).1
      · rw [← (h.b1 hi).2]
        exact queue_step _ _ _ _ _ (h.b1 hi).1 l2 fun z => by
          rw [fr _ hp] at z
          have := (may_l z).2
          rw [su_pr hi] at this
          exact this
    refine ⟨?_, fun i hi => ⟨(st i hi).1.2, (st i hi).2.2⟩⟩
    show stepL c (runL c f t) = _
    unfold stepL
    refine List.map_congr_left fun i hi => ?_
    have hi' := List.mem_range.mp hi
    have a : at' (runL c f t) i = shape c f t i := by rw [e, at_map hi']
    rw [a]
    show (laterL (shape c f t i).1 (fire c f i t) (if fire c f (pr c.length i) t = true then (who c i).1 else 0), laterL (shape c f t i).2 (fire c f (pr c.length i) t) (if fire c f i t = true then (who c i).2.1 else 0)) = _
    rw [(st i hi').1.1, (st i hi').2.1]
theorem fire_may (h : OkCF c f) {i : Nat} (hi : i < c.length) (t : Nat) : fire c f i t = may c f i t := fire_of h (run_ok h t).1 hi
theorem N_le (h : OkCF c f) {i : Nat} (hi : i < c.length) (t : Nat) : N c f i t ≤ Fl f i + N c f (pr c.length i) (t + 1 - Cy c i) ∧ N c f (pr c.length i) t ≤ Gl c f i + N c f i (t + 1 - Bk c i) := (run_ok h t).2 i hi
/-- a quicker circle hands on as often, at least -/
theorem quicker {c' : Ppl} (h : OkCF c f) (h' : OkCF c' f) (hn : c'.length = c.length) (hc : ∀ i, i < c.length → Cy c' i ≤ Cy c i) (hb : ∀ i, i < c.length → Bk c' i ≤ Bk c i) (hh : ∀ i, i < c.length → Hd c i ≤ Hd c' i) :
    ∀ t i, i < c.length → N c f i t ≤ N c' f i t := by
  intro t
  induction t using Nat.strongRecOn with
  | _ t ih =>
    intro i hi
    cases t with
    | zero => exact Nat.zero_le _
    | succ t =>
      have ih0 := ih t (by omega) i hi
      have m1 := cnt_le (fire c' f i) t
      cases e : fire c f i t with
      | false =>
        show cnt (fire c f i) (t + 1) ≤ _
        rw [cnt_false e]
        exact Nat.le_trans ih0 m1
      | true =>
        show cnt (fire c f i) (t + 1) ≤ cnt (fire c' f i) (t + 1)
        rw [cnt_true e]
        have ih0' : cnt (fire c f i) t ≤ cnt (fire c' f i) t := ih0
        by_cases g : cnt (fire c f i) t < cnt (fire c' f i) t
        · omega
        · have hi' : i < c'.length := by omega
          have eq : cnt (fire c' f i) t = cnt (fire c f i) t := by omega
          have fr : fire c' f i t = true := by
            rw [fire_may h' hi']
            rw [fire_may h hi] at e
            obtain ⟨a1, a2⟩ := may_l e
            have hp := pr_lt (n := c.length) (i := i) h.n0
            have hs := su_lt (n := c.length) (i := i) h.n0
            unfold may
            rw [hn]
            have c1 := (h.c1 hi).1
            have c1' := (h'.c1 hi').1
            have cc := hc i hi
            have bb := hb _ hs
            have hhs := hh _ hs
            have b1' := (h'.b1 (i := su c.length i) (by omega)).1
            have q1 := ih (t + 1 - Cy c i) (by omega) (pr c.length i) hp
            have q2 := cnt_mono (fire c' f (pr c.length i)) (show t + 1 - Cy c i ≤ t + 1 - Cy c' i by omega)
            have q3 := ih (t + 1 - Bk c (su c.length i)) (by have := (h.b1 hs).1; omega) (su c.length i) hs
            have q4 := cnt_mono (fire c' f (su c.length i)) (show t + 1 - Bk c (su c.length i) ≤ t + 1 - Bk c' (su c.length i) by omega)
            have gg : Gl c f (su c.length i) ≤ Gl c' f (su c.length i) := by unfold Gl; omega
            have q0 : N c' f i t = N c f i t := eq
            refine Bool.and_eq_true_iff.mpr ⟨decide_eq_true ?_, decide_eq_true ?_⟩
            · show N c' f i t < _
              have : N c f (pr c.length i) (t + 1 - Cy c i) ≤ N c' f (pr c.length i) (t + 1 - Cy c' i) := Nat.le_trans q1 q2
              omega
            · show N c' f i t < _
              have : N c f (su c.length i) (t + 1 - Bk c (su c.length i)) ≤ N c' f (su c.length i) (t + 1 - Bk c' (su c.length i)) := Nat.le_trans q3 q4
              omega
          rw [cnt_true fr]
          omega
end
end Hr
namespace Hr
open Pd
/-! the times of all handings on, by what each waits for -/
def tl (p : Nat → Bool) (T : Nat) : List Nat := (List.range T).filter p
theorem tl_succ (p : Nat → Bool) (T : Nat) : tl p (T + 1) = tl p T ++ if p T = true then [T] else [] := by
  unfold tl
  rw [List.range_succ, List.filter_append]
  congr 1
  by_cases h : p T = true <;> simp [h]
theorem tl_len (p : Nat → Bool) : ∀ T, (tl p T).length = cnt p T
  | 0 => rfl
  | T + 1 => by
    rw [tl_succ, List.length_append, tl_len p T]
    show _ = cnt p T + (if p T = true then 1 else 0)
    by_cases h : p T = true <;> simp [h]
theorem tl_get {p : Nat → Bool} {v : Nat} (h : p v = true) : ∀ {T : Nat}, v < T → (tl p T)[cnt p v]? = some v
  | 0, hv => absurd hv (Nat.not_lt_zero _)
  | T + 1, hv => by
    rw [tl_succ]
    by_cases e : v = T
    · subst e
      rw [if_pos h, ← tl_len]
      exact List.getElem?_concat_length
    · have ih := tl_get h (T := T) (by omega)
      rw [List.getElem?_append_left (List.getElem?_eq_some_iff.mp ih).1]
      exact ih
theorem get_tl {p : Nat → Bool} {k v : Nat} : ∀ {T : Nat}, (tl p T)[k]? = some v → p v = true ∧ v < T ∧ cnt p v = k
  | 0, h => by cases h
  | T + 1, h => by
    rw [tl_succ] at h
    by_cases g : k < (tl p T).length
    · rw [List.getElem?_append_left g] at h
      obtain ⟨h1, h2, h3⟩ := get_tl h
      exact ⟨h1, by omega, h3⟩
    · rw [List.getElem?_append_right (by omega)] at h
      by_cases e : p T = true
      · rw [if_pos e] at h
        have hk : k - (tl p T).length = 0 := by
          have := (List.getElem?_eq_some_iff.mp h).1
          simp at this
          omega
        rw [hk] at h
        cases h
        refine ⟨e, by omega, ?_⟩
        rw [← tl_len]
        omega
      · rw [if_neg e] at h
        cases h
def need (L : List Nat) (k F lag : Nat) : Option Nat := if k < F then some 0 else (L[k - F]?).map fun v => v + lag
def last (L : List Nat) : Nat := if 0 < L.length then L.getD (L.length - 1) 0 + 1 else 0
def row (A : List (List Nat)) (i : Nat) : List Nat := A.getD i []
def nextT (c : Ppl) (f : List Int) (A : List (List Nat)) (i : Nat) : Option Nat :=
  match need (row A (pr c.length i)) (row A i).length (Fl f i) (Cy c i), need (row A (su c.length i)) (row A i).length (Gl c f (su c.length i)) (Bk c (su c.length i)) with
  | some b, some h => some (max (max b h) (last (row A i)))
  | _, _ => none
structure Pre (c : Ppl) (f : List Int) (T : Nat) (A : List (List Nat)) : Prop where
  len : A.length = c.length
  pre : ∀ i, i < c.length → row A i <+: tl (fire c f i) T
section
variable {c : Ppl} {f : List Int} {T : Nat} {A : List (List Nat)}
theorem pre_get {l m : List Nat} (h : l <+: m) {k v : Nat} (e : l[k]? = some v) : m[k]? = some v := by
  obtain ⟨r, rfl⟩ := h
  rw [List.getElem?_append_left (List.getElem?_eq_some_iff.mp e).1]
  exact e
/-- a thing waited for, as what must have come ahead -/
theorem need_ok {p : Nat → Bool} {L : List Nat} (h : L <+: tl p T) {k F lag b : Nat} (hl : 1 ≤ lag) (e : need L k F lag = some b) (v : Nat) : b ≤ v ↔ k < F + cnt p (v + 1 - lag) := by
  unfold need at e
  by_cases g : k < F
  · rw [if_pos g] at e
    cases e
    exact ⟨fun _ => by omega, fun _ => Nat.zero_le _⟩
  · rw [if_neg g] at e
    obtain ⟨u, e1, rfl⟩ := Option.map_eq_some_iff.mp e
    obtain ⟨h1, h2, h3⟩ := get_tl (pre_get h e1)
    constructor
    · intro hv
      have := cnt_of h1 (show u < v + 1 - lag by omega)
      omega
    · intro hv
      obtain ⟨u', a1, a2, a3⟩ := cnt_gt (p := p) (k := k - F) (t := v + 1 - lag) (by omega)
      have : u' = u := by
        rcases Nat.lt_trichotomy u' u with z | z | z
        · have := cnt_of a2 z; omega
        · exact z
        · have := cnt_of h1 z; omega
      omega
theorem need_some {p : Nat → Bool} {L : List Nat} {k F lag v : Nat} (hl : 1 ≤ lag) (hk : k < F + cnt p (v + 1 - lag)) (hL : ∀ u, u < v → p u = true → L[cnt p u]? = some u) : ∃ b, need L k F lag = some b := by
  unfold need
  by_cases g : k < F
  · exact ⟨0, if_pos g⟩
  · rw [if_neg g]
    obtain ⟨u, a1, a2, a3⟩ := cnt_gt (p := p) (k := k - F) (t := v + 1 - lag) (by omega)
    have := hL u (by omega) a2
    rw [a3] at this
    exact ⟨u + lag, by rw [this]; rfl⟩
theorem last_ok {p : Nat → Bool} {L : List Nat} (h : L <+: tl p T) (v : Nat) : last L ≤ v ↔ L.length ≤ cnt p v := by
  unfold last
  by_cases g : 0 < L.length
  · rw [if_pos g]
    have e1 : L[L.length - 1]? = some (L.getD (L.length - 1) 0) := by
      rw [List.getD_eq_getElem?_getD, List.getElem?_eq_getElem (by omega)]
      rfl
    obtain ⟨h1, h2, h3⟩ := get_tl (pre_get h e1)
    constructor
    · intro hv
      have := cnt_of h1 (show L.getD (L.length - 1) 0 < v by omega)
      omega
    · intro hv
      obtain ⟨u', a1, a2, a3⟩ := cnt_gt (p := p) (k := L.length - 1) (t := v) (by omega)
      have : u' = L.getD (L.length - 1) 0 := by
        rcases Nat.lt_trichotomy u' (L.getD (L.length - 1) 0) with z | z | z
        · have := cnt_of a2 z; omega
        · exact z
        · have := cnt_of h1 z; omega
      omega
  · rw [if_neg g]
    exact ⟨fun _ => by omega, fun _ => Nat.zero_le _⟩
/-- what is known of the next handing on is right -/
theorem next_ok (h : OkCF c f) (P : Pre c f T A) {i : Nat} (hi : i < c.length) {v : Nat} (e : nextT c f A i = some v) (hv : v < T) : (tl (fire c f i) T)[(row A i).length]? = some v := by
  have hp := pr_lt (n := c.length) (i := i) h.n0
  have hs := su_lt (n := c.length) (i := i) h.n0
  unfold nextT at e
  split at e
  · rename_i b d e1 e2
    have n1 := need_ok (P.pre _ hp) (h.c1 hi).1 e1
    have n2 := need_ok (P.pre _ hs) (h.b1 hs).1 e2
    have n3 := last_ok (P.pre i hi)
    cases e
    generalize hw : max (max b d) (last (row A i)) = v at *
    have a1 := (n1 v).mp (by omega)
    have a2 := (n2 v).mp (by omega)
    have a3 := (n3 v).mp (by omega)
    have eq : cnt (fire c f i) v = (row A i).length := by
      by_cases g : (row A i).length < cnt (fire c f i) v
      · obtain ⟨u, b1, b2, b3⟩ := cnt_gt g
        have m := b2
        rw [fire_may h hi] at m
        obtain ⟨m1, m2⟩ := may_l m
        have q : N c f i u = (row A i).length := b3
        rw [q] at m1 m2
        have := (n1 u).mpr m1
        have := (n2 u).mpr m2
        have := (n3 u).mpr (by omega)
        omega
      · omega
    have fr : fire c f i v = true := by
      rw [fire_may h hi]
      have q : N c f i v = (row A i).length := eq
      unfold may
      rw [q]
      exact Bool.and_eq_true_iff.mpr ⟨decide_eq_true a1, decide_eq_true a2⟩
    rw [← eq]
    exact tl_get fr hv
  · cases e
theorem pre_snoc {l m : List Nat} (h : l <+: m) {v : Nat} (e : m[l.length]? = some v) : l ++ [v] <+: m := by
  obtain ⟨r, rfl⟩ := h
  rw [List.getElem?_append_right (Nat.le_refl _), Nat.sub_self] at e
  cases r with
  | nil => cases e
  | cons x r =>
    cases e
    exact ⟨r, by simp⟩
theorem row_set {A : List (List Nat)} {i j : Nat} {l : List Nat} (hi : i < A.length) : row (A.set i l) j = if i = j then l else row A j := by
  unfold row
  rw [List.getD_eq_getElem?_getD, List.getD_eq_getElem?_getD]
  by_cases e : i = j
  · subst e
    rw [if_pos rfl, List.getElem?_set_self hi]
    rfl
  · rw [if_neg e, List.getElem?_set_ne e]
theorem Pre.put (h : OkCF c f) (P : Pre c f T A) {i : Nat} (hi : i < c.length) {v : Nat} (e : nextT c f A i = some v) (hv : v < T) : Pre c f T (A.set i (row A i ++ [v])) := by
  refine ⟨by rw [List.length_set]; exact P.len, fun j hj => ?_⟩
  rw [row_set (by rw [P.len]; exact hi)]
  by_cases g : i = j
  · subst g
    rw [if_pos rfl]
    exact pre_snoc (P.pre i hi) (next_ok h P hi e hv)
  · rw [if_neg g]
    exact P.pre j hj
theorem pre_full {l m : List Nat} (h : l <+: m) (e : m.length ≤ l.length) : l = m := by
  obtain ⟨r, rfl⟩ := h
  cases r with
  | nil => rw [List.append_nil]
  | cons x r =>
    rw [List.length_append, List.length_cons] at e
    omega
/-- where nothing more is found, all is there -/
theorem all_full (h : OkCF c f) (P : Pre c f T A) (no : ∀ i, i < c.length → ∀ v, nextT c f A i = some v → T ≤ v) : ∀ i, i < c.length → row A i = tl (fire c f i) T := by
  -- by the time of the first one that is missing
  have key : ∀ u, ∀ i, i < c.length → fire c f i u = true → u < T → (row A i)[cnt (fire c f i) u]? = some u := by
    intro u
    induction u using Nat.strongRecOn with
    | _ u ih =>
      intro i hi fr hu
      have hp := pr_lt (n := c.length) (i := i) h.n0
      have hs := su_lt (n := c.length) (i := i) h.n0
      by_cases g : cnt (fire c f i) u < (row A i).length
      · have e1 : (row A i)[cnt (fire c f i) u]? = some (row A i)[cnt (fire c f i) u] := List.getElem?_eq_getElem g
        have e2 := pre_get (P.pre i hi) e1
        rw [tl_get fr hu] at e2
        rw [e1]
        exact e2.symm
      · exfalso
        have len : (row A i).length = cnt (fire c f i) u := by
          by_cases z : (row A i).length < cnt (fire c f i) u
          · obtain ⟨w, b1, b2, b3⟩ := cnt_gt z
            have := ih w b1 i hi b2 (by omega)
            rw [b3, List.getElem?_eq_none (Nat.le_refl _)] at this
            cases this
          · omega
        have m := fr
        rw [fire_may h hi] at m
        obtain ⟨m1, m2⟩ := may_l m
        have q : N c f i u = (row A i).length := len.symm
        rw [q] at m1 m2
        obtain ⟨b, e1⟩ := need_some (L := row A (pr c.length i)) (h.c1 hi).1 m1 fun w hw fw => ih w hw _ hp fw (by omega)
        obtain ⟨d, e2⟩ := need_some (L := row A (su c.length i)) (h.b1 hs).1 m2 fun w hw fw => ih w hw _ hs fw (by omega)
        have n1 := (need_ok (P.pre _ hp) (h.c1 hi).1 e1 u).mpr m1
        have n2 := (need_ok (P.pre _ hs) (h.b1 hs).1 e2 u).mpr m2
        have n3 := (last_ok (P.pre i hi) u).mpr (by omega)
        have := no i hi (max (max b d) (last (row A i))) (by unfold nextT; rw [e1, e2])
        omega
  intro i hi
  refine pre_full (P.pre i hi) ?_
  by_cases g : (row A i).length < (tl (fire c f i) T).length
  · have e1 : (tl (fire c f i) T)[(row A i).length]? = some (tl (fire c f i) T)[(row A i).length] := List.getElem?_eq_getElem g
    obtain ⟨h1, h2, h3⟩ := get_tl e1
    have := key _ i hi h1 h2
    rw [h3, List.getElem?_eq_none (Nat.le_refl _)] at this
    cases this
  · omega
theorem Pre.start (h : OkCF c f) (T : Nat) : Pre c f T (List.replicate c.length []) := by
  refine ⟨List.length_replicate, fun i hi => ?_⟩
  unfold row
  rw [List.getD_eq_getElem?_getD, List.getElem?_replicate, if_pos hi]
  exact List.nil_prefix
def total (A : List (List Nat)) : Nat := (A.map List.length).sum
theorem total_set : ∀ {A : List (List Nat)} {i : Nat} {v : Nat}, i < A.length → total (A.set i (row A i ++ [v])) = total A + 1
  | [], _, _, h => absurd h (Nat.not_lt_zero _)
  | l :: A, 0, v, _ => by
    show total ((row (l :: A) 0 ++ [v]) :: A) = _
    unfold total row
    simp
    omega
  | l :: A, i + 1, v, h => by
    have ih := total_set (A := A) (i := i) (v := v) (by simpa using h)
    show total (l :: A.set i (row A i ++ [v])) = total (l :: A) + 1
    unfold total at ih ⊢
    rw [List.map_cons, List.sum_cons, ih, List.map_cons, List.sum_cons]
    omega
theorem total_le (P : Pre c f T A) : total A ≤ c.length * T := by
  have key : ∀ B : List (List Nat), (∀ l ∈ B, l.length ≤ T) → total B ≤ B.length * T := by
    intro B
    induction B with
    | nil => intro _; exact Nat.zero_le _
    | cons l B ih =>
      intro hB
      have h1 := hB l List.mem_cons_self
      have h2 := ih fun m hm => hB m (List.mem_cons_of_mem _ hm)
      unfold total at h2 ⊢
      rw [List.map_cons, List.sum_cons, List.length_cons, Nat.add_mul, Nat.one_mul]
      omega
  rw [← P.len]
  refine key A fun l hl => ?_
  obtain ⟨i, hi, e⟩ := List.getElem_of_mem hl
  have := P.pre i (by rw [← P.len]; exact hi)
  unfold row at this
  rw [List.getD_eq_getElem?_getD, List.getElem?_eq_getElem hi] at this
  have l1 := this.length_le
  have l2 : (tl (fire c f i) T).length ≤ T := by
    unfold tl
    exact Nat.le_trans (List.length_filter_le _ _) (by rw [List.length_range]; exact Nat.le_refl _)
  rw [← e]
  exact Nat.le_trans l1 l2
end
end Hr
namespace Hr
open Pd
/-! how the numbers of handings on lean on one another -/
def sm (g : Nat → Nat) : Nat → Nat
  | 0 => 0
  | k + 1 => sm g k + g k
theorem sm_mono (g : Nat → Nat) {a b : Nat} (h : a ≤ b) : sm g a ≤ sm g b := by
  induction b with
  | zero => have : a = 0 := by omega
            subst this; exact Nat.le_refl _
  | succ b ih =>
    by_cases e : a = b + 1
    · subst e; exact Nat.le_refl _
    · exact Nat.le_trans (ih (by omega)) (Nat.le_add_right _ _)
section
variable {c : Ppl} {f : List Int}
theorem N_mono (i : Nat) {s t : Nat} (h : s ≤ t) : N c f i s ≤ N c f i t := cnt_mono _ h
theorem N_fwd (h : OkCF c f) {i : Nat} (hi : i < c.length) (u : Nat) : N c f i u ≤ Fl f i + N c f (pr c.length i) (u - Cy c i) := by
  cases u with
  | zero => exact Nat.zero_le _
  | succ t =>
    have l := (N_le h hi t).1
    cases e : fire c f i t with
    | false =>
      show cnt (fire c f i) (t + 1) ≤ _
      rw [cnt_false e]
      exact l
    | true =>
      have m := e
      rw [fire_may h hi] at m
      have := (may_l m).1
      show cnt (fire c f i) (t + 1) ≤ _
      rw [cnt_true e]
      exact this
theorem N_bwd' (h : OkCF c f) {i : Nat} (hi : i < c.length) (u : Nat) : N c f i u ≤ Gl c f (su c.length i) + N c f (su c.length i) (u - Bk c (su c.length i)) := by
  cases u with
  | zero => exact Nat.zero_le _
  | succ t =>
    have l := (N_le h (su_lt (n := c.length) (i := i) h.n0) t).2
    rw [pr_su hi] at l
    cases e : fire c f i t with
    | false =>
      show cnt (fire c f i) (t + 1) ≤ _
      rw [cnt_false e]
      exact l
    | true =>
      have m := e
      rw [fire_may h hi] at m
      have := (may_l m).2
      show cnt (fire c f i) (t + 1) ≤ _
      rw [cnt_true e]
      exact this
theorem N_bwd (h : OkCF c f) {i : Nat} (hi : i < c.length) (u : Nat) : N c f (pr c.length i) u ≤ Gl c f i + N c f i (u - Bk c i) := by
  have := N_bwd' h (pr_lt (n := c.length) (i := i) h.n0) u
  rw [su_pr hi] at this
  exact this
/-- one of the three holds as an equality -/
theorem N_eq (h : OkCF c f) {i : Nat} (hi : i < c.length) (t : Nat) : N c f i (t + 1) = N c f i t + 1 ∨ N c f i (t + 1) = Fl f i + N c f (pr c.length i) (t + 1 - Cy c i) ∨ N c f i (t + 1) = Gl c f (su c.length i) + N c f (su c.length i) (t + 1 - Bk c (su c.length i)) := by
  cases e : fire c f i t with
  | true => exact .inl (cnt_true e)
  | false =>
    refine .inr ?_
    have e0 : N c f i (t + 1) = N c f i t := cnt_false e
    have m := e
    rw [fire_may h hi] at m
    have l1 := (N_le h hi t).1
    have l2 := (N_le h (su_lt (n := c.length) (i := i) h.n0) t).2
    rw [pr_su hi] at l2
    unfold may at m
    rcases Bool.and_eq_false_iff.mp m with g | g
    · have := of_decide_eq_false g
      exact .inl (by omega)
    · have := of_decide_eq_false g
      exact .inr (by omega)
abbrev PF (f : List Int) : Nat → Nat := sm (Fl f)
abbrev PG (c : Ppl) (f : List Int) : Nat → Nat := sm (Gl c f)
abbrev PC (c : Ppl) : Nat → Nat := sm (Cy c)
abbrev PB (c : Ppl) : Nat → Nat := sm (Bk c)
theorem PF_mono (f : List Int) {a b : Nat} (h : a ≤ b) : PF f a ≤ PF f b := sm_mono _ h
theorem PG_mono (c : Ppl) (f : List Int) {a b : Nat} (h : a ≤ b) : PG c f a ≤ PG c f b := sm_mono _ h
theorem PC_mono (c : Ppl) {a b : Nat} (h : a ≤ b) : PC c a ≤ PC c b := sm_mono _ h
theorem PB_mono (c : Ppl) {a b : Nat} (h : a ≤ b) : PB c a ≤ PB c b := sm_mono _ h
theorem pr_succ {n i : Nat} (h : i + 1 < n) : pr n (i + 1) = i := by
  unfold pr
  rw [show i + 1 + n - 1 = i + n by omega, Nat.add_mod_right, Nat.mod_eq_of_lt (by omega)]
theorem pr_zero {n : Nat} (h : 0 < n) : pr n 0 = n - 1 := by
  unfold pr
  rw [Nat.zero_add, Nat.mod_eq_of_lt (by omega)]
/-- along the line, forward -/
theorem fwd_seg (h : OkCF c f) {k : Nat} : ∀ {i : Nat}, k ≤ i → i < c.length → ∀ u, N c f i u ≤ (PF f (i + 1) - PF f (k + 1)) + N c f k (u - (PC c (i + 1) - PC c (k + 1)))
  | i, hk, hi, u => by
    by_cases e : k = i
    · subst e
      rw [Nat.sub_self, Nat.sub_self, Nat.sub_zero, Nat.zero_add]
      exact Nat.le_refl _
    · obtain ⟨j, rfl⟩ : ∃ j, i = j + 1 := ⟨i - 1, by omega⟩
      have a := N_fwd h hi u
      rw [pr_succ hi] at a
      have b := fwd_seg h (k := k) (i := j) (by omega) (by omega) (u - Cy c (j + 1))
      have m1 : PF f (j + 1 + 1) = PF f (j + 1) + Fl f (j + 1) := rfl
      have m2 : PC c (j + 1 + 1) = PC c (j + 1) + Cy c (j + 1) := rfl
      have m3 := PF_mono f (show k + 1 ≤ j + 1 by omega)
      have m4 := PC_mono c (show k + 1 ≤ j + 1 by omega)
      have e2 : u - Cy c (j + 1) - (PC c (j + 1) - PC c (k + 1)) = u - (PC c (j + 1 + 1) - PC c (k + 1)) := by omega
      rw [e2] at b
      omega
theorem bwd_seg (h : OkCF c f) {k : Nat} : ∀ {i : Nat}, k ≤ i → i < c.length → ∀ u, N c f k u ≤ (PG c f (i + 1) - PG c f (k + 1)) + N c f i (u - (PB c (i + 1) - PB c (k + 1)))
  | i, hk, hi, u => by
    by_cases e : k = i
    · subst e
      rw [Nat.sub_self, Nat.sub_self, Nat.sub_zero, Nat.zero_add]
      exact Nat.le_refl _
    · obtain ⟨j, rfl⟩ : ∃ j, i = j + 1 := ⟨i - 1, by omega⟩
      have b := bwd_seg h (k := k) (i := j) (by omega) (by omega) u
      have a := N_bwd h hi (u - (PB c (j + 1) - PB c (k + 1)))
      rw [pr_succ hi] at a
      have m1 : PG c f (j + 1 + 1) = PG c f (j + 1) + Gl c f (j + 1) := rfl
      have m2 : PB c (j + 1 + 1) = PB c (j + 1) + Bk c (j + 1) := rfl
      have m3 := PG_mono c f (show k + 1 ≤ j + 1 by omega)
      have m4 := PB_mono c (show k + 1 ≤ j + 1 by omega)
      have e2 : u - (PB c (j + 1) - PB c (k + 1)) - Bk c (j + 1) = u - (PB c (j + 1 + 1) - PB c (k + 1)) := by omega
      rw [e2] at a
      omega
/-- all the way round -/
theorem fwd_loop (h : OkCF c f) {i : Nat} (hi : i < c.length) (u : Nat) : N c f i u ≤ PF f c.length + N c f i (u - PC c c.length) := by
  have a := fwd_seg h (Nat.zero_le i) hi u
  have b := N_fwd h h.n0 (u - (PC c (i + 1) - PC c (0 + 1)))
  rw [pr_zero h.n0] at b
  have d := fwd_seg h (k := i) (i := c.length - 1) (by omega) (by have := h.n0; omega) (u - (PC c (i + 1) - PC c (0 + 1)) - Cy c 0)
  rw [show c.length - 1 + 1 = c.length by have := h.n0; omega] at d
  have m1 : PF f (0 + 1) = Fl f 0 := Nat.zero_add _
  have m2 : PC c (0 + 1) = Cy c 0 := Nat.zero_add _
  have m3 := PF_mono f (show i + 1 ≤ c.length by omega)
  have m4 := PC_mono c (show i + 1 ≤ c.length by omega)
  have m5 := PF_mono f (show 0 + 1 ≤ i + 1 by omega)
  have m6 := PC_mono c (show 0 + 1 ≤ i + 1 by omega)
  rw [m1] at a m5
  rw [m2] at a b d m6
  have e2 : u - (PC c (i + 1) - Cy c 0) - Cy c 0 - (PC c c.length - PC c (i + 1)) = u - PC c c.length := by omega
  rw [e2] at d
  omega
theorem bwd_loop (h : OkCF c f) {i : Nat} (hi : i < c.length) (u : Nat) : N c f i u ≤ PG c f c.length + N c f i (u - PB c c.length) := by
  have a := bwd_seg h (k := i) (i := c.length - 1) (by omega) (by have := h.n0; omega) u
  rw [show c.length - 1 + 1 = c.length by have := h.n0; omega] at a
  have b := N_bwd h h.n0 (u - (PB c c.length - PB c (i + 1)))
  rw [pr_zero h.n0] at b
  have d := bwd_seg h (Nat.zero_le i) hi (u - (PB c c.length - PB c (i + 1)) - Bk c 0)
  have m1 : PG c f (0 + 1) = Gl c f 0 := Nat.zero_add _
  have m2 : PB c (0 + 1) = Bk c 0 := Nat.zero_add _
  have m3 := PG_mono c f (show i + 1 ≤ c.length by omega)
  have m4 := PB_mono c (show i + 1 ≤ c.length by omega)
  have m5 := PG_mono c f (show 0 + 1 ≤ i + 1 by omega)
  have m6 := PB_mono c (show 0 + 1 ≤ i + 1 by omega)
  rw [m1] at d m5
  rw [m2] at d m6
  have e2 : u - (PB c c.length - PB c (i + 1)) - Bk c 0 - (PB c (i + 1) - Bk c 0) = u - PB c c.length := by omega
  rw [e2] at d
  omega
/-- to and fro between two -/
theorem two_l (h : OkCF c f) {i : Nat} (hi : i < c.length) (u : Nat) : N c f i u ≤ Hd c i + N c f i (u - (Cy c i + Bk c i)) := by
  have a := N_fwd h hi u
  have b := N_bwd h hi (u - Cy c i)
  have g := h.fh hi
  rw [show u - Cy c i - Bk c i = u - (Cy c i + Bk c i) by omega] at b
  omega
theorem two_r (h : OkCF c f) {i : Nat} (hi : i < c.length) (u : Nat) : N c f (pr c.length i) u ≤ Hd c i + N c f (pr c.length i) (u - (Cy c i + Bk c i)) := by
  have a := N_bwd h hi u
  have b := N_fwd h hi (u - Bk c i)
  have g := h.fh hi
  rw [show u - Bk c i - Cy c i = u - (Cy c i + Bk c i) by omega] at b
  omega
theorem one_l (i u : Nat) : N c f i u ≤ 1 + N c f i (u - 1) := by
  cases u with
  | zero => exact Nat.zero_le _
  | succ u => have := cnt_step (fire c f i) u; show cnt _ _ ≤ 1 + cnt _ u; omega
/-- nobody is far ahead -/
theorem near (h : OkCF c f) {i j : Nat} (hi : i < c.length) (hj : j < c.length) (u : Nat) : N c f i u ≤ PF f c.length + N c f j u := by
  have m3 := PF_mono f (show i + 1 ≤ c.length by omega)
  by_cases g : j ≤ i
  · have a := fwd_seg h g hi u
    have := N_mono (c := c) (f := f) j (show u - (PC c (i + 1) - PC c (j + 1)) ≤ u by omega)
    omega
  · have a := fwd_seg h (Nat.zero_le i) hi u
    have b := N_fwd h h.n0 (u - (PC c (i + 1) - PC c (0 + 1)))
    rw [pr_zero h.n0] at b
    have d := fwd_seg h (k := j) (i := c.length - 1) (by omega) (by have := h.n0; omega) (u - (PC c (i + 1) - PC c (0 + 1)) - Cy c 0)
    rw [show c.length - 1 + 1 = c.length by have := h.n0; omega] at d
    have m1 : PF f (0 + 1) = Fl f 0 := Nat.zero_add _
    have m5 := PF_mono f (show 0 + 1 ≤ i + 1 by omega)
    have m7 := PF_mono f (show i + 1 ≤ j + 1 by omega)
    have m8 := PF_mono f (show j + 1 ≤ c.length by omega)
    have := N_mono (c := c) (f := f) j (show u - (PC c (i + 1) - PC c (0 + 1)) - Cy c 0 - (PC c c.length - PC c (j + 1)) ≤ u by omega)
    rw [m1] at a m5
    omega
end
end Hr
namespace Hr
open Pd
/-! the slope: no round of waiting is quicker -/
structure Slope (c : Ppl) (f : List Int) (q p : Int) : Prop where
  q0 : 0 < q
  p0 : 0 < p
  one : p ≤ q
  two : ∀ i, i < c.length → p * ((Cy c i : Nat) + (Bk c i : Nat)) ≤ q * (Hd c i : Nat)
  fw : p * (PC c c.length : Nat) ≤ q * (PF f c.length : Nat)
  bw : p * (PB c c.length : Nat) ≤ q * (PG c f c.length : Nat)
def zs (g : Nat → Int) : Nat → Int
  | 0 => 0
  | k + 1 => zs g k + g k
section
variable {c : Ppl} {f : List Int} {q p : Int}
def lo (c : Ppl) (f : List Int) (q p : Int) (i : Nat) : Int := p * (Bk c i : Nat) - q * (Gl c f i : Nat)
def up (c : Ppl) (f : List Int) (q p : Int) (i : Nat) : Int := q * (Fl f i : Nat) - p * (Cy c i : Nat)
def sA (c : Ppl) (f : List Int) (q p : Int) : Int := q * (PF f c.length : Nat) - p * (PC c c.length : Nat)
def sB (c : Ppl) (f : List Int) (q p : Int) : Int := q * (PG c f c.length : Nat) - p * (PB c c.length : Nat)
theorem zs_up (k : Nat) : zs (up c f q p) k = q * (PF f k : Nat) - p * (PC c k : Nat) := by
  induction k with
  | zero => show (0 : Int) = q * ((0 : Nat) : Int) - p * ((0 : Nat) : Int); simp
  | succ k ih =>
    show zs (up c f q p) k + up c f q p k = q * ((PF f k + Fl f k : Nat) : Int) - p * ((PC c k + Cy c k : Nat) : Int)
    rw [ih]
    unfold up
    rw [Int.natCast_add, Int.natCast_add, Int.mul_add, Int.mul_add]
    omega
theorem zs_lo (k : Nat) : zs (lo c f q p) k = p * (PB c k : Nat) - q * (PG c f k : Nat) := by
  induction k with
  | zero => show (0 : Int) = p * ((0 : Nat) : Int) - q * ((0 : Nat) : Int); simp
  | succ k ih =>
    show zs (lo c f q p) k + lo c f q p k = p * ((PB c k + Bk c k : Nat) : Int) - q * ((PG c f k + Gl c f k : Nat) : Int)
    rw [ih]
    unfold lo
    rw [Int.natCast_add, Int.natCast_add, Int.mul_add, Int.mul_add]
    omega
/-- the weights -/
structure Wt (c : Ppl) (f : List Int) (q p α β : Int) : Prop where
  a0 : 0 ≤ α
  b0 : 0 ≤ β
  s0 : 0 < α + β
  eq : α * sB c f q p = β * sA c f q p
theorem wt_ex (S : Slope c f q p) : ∃ α β, Wt c f q p α β ∧ (0 < sA c f q p → 0 < sB c f q p → α = sA c f q p ∧ β = sB c f q p) := by
  have hA : 0 ≤ sA c f q p := by have := S.fw; unfold sA; omega
  have hB : 0 ≤ sB c f q p := by have := S.bw; unfold sB; omega
  by_cases z : 0 < sA c f q p + sB c f q p
  · exact ⟨sA c f q p, sB c f q p, ⟨hA, hB, z, Int.mul_comm _ _⟩, fun _ _ => ⟨rfl, rfl⟩⟩
  · have e1 : sA c f q p = 0 := by omega
    have e2 : sB c f q p = 0 := by omega
    exact ⟨1, 0, ⟨by omega, by omega, by omega, by rw [e1, e2]; rfl⟩, fun h => by omega⟩
def dd (c : Ppl) (f : List Int) (q p α β : Int) (i : Nat) : Int := α * lo c f q p i + β * up c f q p i
def pot (c : Ppl) (f : List Int) (q p α β : Int) (i : Nat) : Int := zs (dd c f q p α β) (i + 1)
theorem zs_dd (α β : Int) (k : Nat) : zs (dd c f q p α β) k = α * zs (lo c f q p) k + β * zs (up c f q p) k := by
  induction k with
  | zero => show (0 : Int) = α * 0 + β * 0; simp
  | succ k ih =>
    show zs (dd c f q p α β) k + dd c f q p α β k = α * (zs (lo c f q p) k + lo c f q p k) + β * (zs (up c f q p) k + up c f q p k)
    rw [ih, Int.mul_add, Int.mul_add]
    unfold dd
    omega
variable {α β : Int}
theorem pot_pr (h : OkCF c f) (w : Wt c f q p α β) {i : Nat} (hi : i < c.length) : pot c f q p α β i - pot c f q p α β (pr c.length i) = dd c f q p α β i := by
  cases i with
  | zero =>
    rw [pr_zero h.n0]
    unfold pot
    rw [show c.length - 1 + 1 = c.length by have := h.n0; omega]
    have z : zs (dd c f q p α β) c.length = 0 := by
      rw [zs_dd, zs_lo, zs_up]
      have e := w.eq
      unfold sA sB at e
      have e2 : α * (p * (PB c c.length : Nat) - q * (PG c f c.length : Nat)) = - (α * (q * (PG c f c.length : Nat) - p * (PB c c.length : Nat))) := by
        rw [← Int.mul_neg]
        congr 1
        omega
      rw [e2, e]
      omega
    rw [z]
    show 0 + dd c f q p α β 0 - 0 = _
    omega
  | succ i =>
    rw [pr_succ hi]
    unfold pot
    show zs (dd c f q p α β) (i + 1) + dd c f q p α β (i + 1) - zs (dd c f q p α β) (i + 1) = _
    omega
def ee (c : Ppl) (q p : Int) (i : Nat) : Int := q * (Hd c i : Nat) - p * ((Cy c i : Nat) + (Bk c i : Nat))
theorem ee_eq (h : OkCF c f) {i : Nat} (hi : i < c.length) : up c f q p i - lo c f q p i = ee c q p i := by
  unfold up lo ee
  rw [← h.fh hi, Int.natCast_add, Int.mul_add, Int.mul_add]
  omega
theorem ee_nn (S : Slope c f q p) {i : Nat} (hi : i < c.length) : 0 ≤ ee c q p i := by
  have := S.two i hi
  unfold ee
  omega
theorem red_f (h : OkCF c f) {i : Nat} (hi : i < c.length) : (α + β) * up c f q p i - dd c f q p α β i = α * ee c q p i := by
  rw [← ee_eq h hi]
  unfold dd
  generalize up c f q p i = u
  generalize lo c f q p i = l
  grind
theorem red_b (h : OkCF c f) {i : Nat} (hi : i < c.length) : dd c f q p α β i - (α + β) * lo c f q p i = β * ee c q p i := by
  rw [← ee_eq h hi]
  unfold dd
  generalize up c f q p i = u
  generalize lo c f q p i = l
  grind
theorem mul_nn {a b : Int} (ha : 0 ≤ a) (hb : 0 ≤ b) : 0 ≤ a * b := Int.mul_nonneg ha hb
theorem pot_le (h : OkCF c f) (S : Slope c f q p) (w : Wt c f q p α β) {i : Nat} (hi : i < c.length) : pot c f q p α β i ≤ (α + β) * (q * (PF f c.length : Nat)) ∧ -((α + β) * (q * (PG c f c.length : Nat))) ≤ pot c f q p α β i := by
  have s0 := w.s0
  have key : ∀ k, k ≤ c.length → zs (dd c f q p α β) k ≤ (α + β) * (q * (PF f k : Nat)) ∧ -((α + β) * (q * (PG c f k : Nat))) ≤ zs (dd c f q p α β) k := by
    intro k
    induction k with
    | zero =>
      intro _
      show (0 : Int) ≤ (α + β) * (q * ((0 : Nat) : Int)) ∧ -((α + β) * (q * ((0 : Nat) : Int))) ≤ 0
      simp
    | succ k ih =>
      intro hk
      obtain ⟨i1, i2⟩ := ih (by omega)
      have hk' : k < c.length := by omega
      have r1 := red_f (q := q) (p := p) (α := α) (β := β) h hk'
      have r2 := red_b (q := q) (p := p) (α := α) (β := β) h hk'
      have n1 := mul_nn w.a0 (ee_nn S hk')
      have n2 := mul_nn w.b0 (ee_nn S hk')
      have u1 : (α + β) * up c f q p k ≤ (α + β) * (q * (Fl f k : Nat)) := by
        refine Int.mul_le_mul_of_nonneg_left ?_ (by omega)
        have := mul_nn (a := p) (b := ((Cy c k : Nat) : Int)) (by have := S.p0; omega) (by omega)
        unfold up
        omega
      have u2 : -((α + β) * (q * (Gl c f k : Nat))) ≤ (α + β) * lo c f q p k := by
        rw [← Int.mul_neg]
        refine Int.mul_le_mul_of_nonneg_left ?_ (by omega)
        have := mul_nn (a := p) (b := ((Bk c k : Nat) : Int)) (by have := S.p0; omega) (by omega)
        unfold lo
        omega
      have f1 : (α + β) * (q * (PF f (k + 1) : Nat)) = (α + β) * (q * (PF f k : Nat)) + (α + β) * (q * (Fl f k : Nat)) := by
        show (α + β) * (q * ((PF f k + Fl f k : Nat) : Int)) = _
        rw [Int.natCast_add, Int.mul_add, Int.mul_add]
      have f2 : (α + β) * (q * (PG c f (k + 1) : Nat)) = (α + β) * (q * (PG c f k : Nat)) + (α + β) * (q * (Gl c f k : Nat)) := by
        show (α + β) * (q * ((PG c f k + Gl c f k : Nat) : Int)) = _
        rw [Int.natCast_add, Int.mul_add, Int.mul_add]
      show zs (dd c f q p α β) k + dd c f q p α β k ≤ _ ∧ _ ≤ zs (dd c f q p α β) k + dd c f q p α β k
      rw [f1, f2]
      omega
  obtain ⟨k1, k2⟩ := key (i + 1) (by omega)
  have m1 : (α + β) * (q * (PF f (i + 1) : Nat)) ≤ (α + β) * (q * (PF f c.length : Nat)) := Int.mul_le_mul_of_nonneg_left (Int.mul_le_mul_of_nonneg_left (by have := PF_mono f (show i + 1 ≤ c.length by omega); omega) (by have := S.q0; omega)) (by omega)
  have m2 : (α + β) * (q * (PG c f (i + 1) : Nat)) ≤ (α + β) * (q * (PG c f c.length : Nat)) := Int.mul_le_mul_of_nonneg_left (Int.mul_le_mul_of_nonneg_left (by have := PG_mono c f (show i + 1 ≤ c.length by omega); omega) (by have := S.q0; omega)) (by omega)
  unfold pot
  omega
/-- the number of handings on above the slope -/
def Mv (c : Ppl) (f : List Int) (q p α β : Int) (i t : Nat) : Int := (α + β) * (q * (N c f i t : Nat) - p * (t : Int)) - pot c f q p α β i
theorem M_self {i t : Nat} (e : N c f i (t + 1) = N c f i t + 1) : Mv c f q p α β i (t + 1) = Mv c f q p α β i t + (α + β) * (q - p) := by
  unfold Mv
  rw [e, Int.natCast_add, Int.natCast_add]
  generalize ((N c f i t : Nat) : Int) = x
  generalize (t : Int) = y
  generalize pot c f q p α β i = z
  show (α + β) * (q * (x + 1) - p * (y + 1)) - z = (α + β) * (q * x - p * y) - z + (α + β) * (q - p)
  grind
theorem M_fwd (h : OkCF c f) (w : Wt c f q p α β) {i t u : Nat} (hi : i < c.length) (e : N c f i t = Fl f i + N c f (pr c.length i) u) (ht : t = u + Cy c i) : Mv c f q p α β i t = Mv c f q p α β (pr c.length i) u + α * ee c q p i := by
  have r := red_f (q := q) (p := p) (α := α) (β := β) h hi
  have pp := pot_pr h w hi
  unfold Mv
  unfold up at r
  rw [e, ht, Int.natCast_add, Int.natCast_add]
  generalize ((N c f (pr c.length i) u : Nat) : Int) = x at *
  generalize pot c f q p α β i = z at *
  generalize pot c f q p α β (pr c.length i) = z' at *
  generalize dd c f q p α β i = d at *
  generalize ee c q p i = e at *
  generalize ((Fl f i : Nat) : Int) = F at *
  generalize ((Cy c i : Nat) : Int) = C at *
  generalize (u : Int) = y at *
  grind
theorem M_bwd (h : OkCF c f) (w : Wt c f q p α β) {i t u : Nat} (hi : i < c.length) (e : N c f (pr c.length i) t = Gl c f i + N c f i u) (ht : t = u + Bk c i) : Mv c f q p α β (pr c.length i) t = Mv c f q p α β i u + β * ee c q p i := by
  have r := red_b (q := q) (p := p) (α := α) (β := β) h hi
  have pp := pot_pr h w hi
  unfold Mv
  unfold lo at r
  rw [e, ht, Int.natCast_add, Int.natCast_add]
  generalize ((N c f i u : Nat) : Int) = x at *
  generalize pot c f q p α β i = z at *
  generalize pot c f q p α β (pr c.length i) = z' at *
  generalize dd c f q p α β i = d at *
  generalize ee c q p i = e at *
  generalize ((Gl c f i : Nat) : Int) = F at *
  generalize ((Bk c i : Nat) : Int) = C at *
  generalize (u : Int) = y at *
  grind
/-- M never falls below -/
theorem M_low (h : OkCF c f) (S : Slope c f q p) (w : Wt c f q p α β) : ∀ t i, i < c.length → -((α + β) * (q * (PF f c.length : Nat))) ≤ Mv c f q p α β i t := by
  have s0 := w.s0
  intro t
  induction t using Nat.strongRecOn with
  | _ t ih =>
    intro i hi
    cases t with
    | zero =>
      have := (pot_le h S w hi).1
      unfold Mv
      have e : N c f i 0 = 0 := rfl
      rw [e]
      show _ ≤ (α + β) * (q * 0 - p * 0) - _
      rw [Int.mul_zero, Int.mul_zero, Int.sub_self, Int.mul_zero]
      omega
    | succ t =>
      have hp := pr_lt (n := c.length) (i := i) h.n0
      have hs := su_lt (n := c.length) (i := i) h.n0
      rcases N_eq h hi t with e | e | e
      · rw [M_self e]
        have := ih t (by omega) i hi
        have := mul_nn (a := α + β) (b := q - p) (by omega) (by have := S.one; omega)
        omega
      · by_cases g : Cy c i ≤ t + 1
        · rw [M_fwd h w hi e (by omega)]
          have := ih (t + 1 - Cy c i) (by have := (h.c1 hi).1; omega) _ hp
          have := mul_nn w.a0 (ee_nn S hi)
          omega
        · have e0 : t + 1 - Cy c i = 0 := by omega
          rw [e0] at e
          have e1 : N c f (pr c.length i) 0 = 0 := rfl
          rw [e1] at e
          have b1 := (pot_le h S w hp).1
          have r := red_f (q := q) (p := p) (α := α) (β := β) h hi
          have pp := pot_pr h w hi
          have n1 := mul_nn w.a0 (ee_nn S hi)
          have l1 : (α + β) * up c f q p i ≤ (α + β) * (q * (N c f i (t + 1) : Nat) - p * ((t + 1 : Nat) : Int)) := by
            refine Int.mul_le_mul_of_nonneg_left ?_ (by omega)
            unfold up
            rw [e, Nat.add_zero]
            have := Int.mul_le_mul_of_nonneg_left (show ((t + 1 : Nat) : Int) ≤ (Cy c i : Nat) by omega) (show 0 ≤ p by have := S.p0; omega)
            omega
          unfold Mv
          omega
      · by_cases g : Bk c (su c.length i) ≤ t + 1
        · have e' : N c f (pr c.length (su c.length i)) (t + 1) = Gl c f (su c.length i) + N c f (su c.length i) (t + 1 - Bk c (su c.length i)) := by rw [pr_su hi]; exact e
          have := M_bwd (q := q) (p := p) h w hs e' (by omega)
          rw [pr_su hi] at this
          rw [this]
          have := ih (t + 1 - Bk c (su c.length i)) (by have := (h.b1 hs).1; omega) _ hs
          have := mul_nn w.b0 (ee_nn S hs)
          omega
        · have e0 : t + 1 - Bk c (su c.length i) = 0 := by omega
          rw [e0] at e
          have e1 : N c f (su c.length i) 0 = 0 := rfl
          rw [e1] at e
          have b1 := (pot_le h S w hs).1
          have r := red_b (q := q) (p := p) (α := α) (β := β) h hs
          have pp := pot_pr h w hs
          rw [pr_su hi] at pp
          have n1 := mul_nn w.b0 (ee_nn S hs)
          have l1 : -((α + β) * lo c f q p (su c.length i)) ≤ (α + β) * (q * (N c f i (t + 1) : Nat) - p * ((t + 1 : Nat) : Int)) := by
            rw [← Int.mul_neg]
            refine Int.mul_le_mul_of_nonneg_left ?_ (by omega)
            unfold lo
            rw [e, Nat.add_zero]
            have := Int.mul_le_mul_of_nonneg_left (show ((t + 1 : Nat) : Int) ≤ (Bk c (su c.length i) : Nat) by omega) (show 0 ≤ p by have := S.p0; omega)
            omega
          unfold Mv
          omega
/-- the slope is a lower bound -/
theorem N_low (h : OkCF c f) (S : Slope c f q p) {i : Nat} (hi : i < c.length) (t : Nat) : p * (t : Int) ≤ q * (N c f i t : Nat) + q * (PF f c.length : Nat) + q * (PG c f c.length : Nat) := by
  obtain ⟨α, β, w, _⟩ := wt_ex S
  have a := M_low h S w t i hi
  have b := (pot_le h S w hi).2
  have s0 := w.s0
  unfold Mv at a
  have k : 0 ≤ (α + β) * (q * (N c f i t : Nat) - p * (t : Int) + q * (PF f c.length : Nat) + q * (PG c f c.length : Nat)) := by
    rw [Int.mul_add, Int.mul_add]
    omega
  have := Int.nonneg_of_mul_nonneg_right k (by omega)
  omega
end
end Hr
namespace Hr
open Pd
/-! all comes again -/
theorem sm_le {g g' : Nat → Nat} : ∀ {m : Nat}, (∀ j, j < m → g j ≤ g' j) → sm g m ≤ sm g' m
  | 0, _ => Nat.le_refl _
  | m + 1, h => Nat.add_le_add (sm_le fun j hj => h j (by omega)) (h m (by omega))
theorem sm_lt {g g' : Nat → Nat} : ∀ {m : Nat}, (∀ j, j < m → g j ≤ g' j) → (∃ j, j < m ∧ g j < g' j) → sm g m < sm g' m
  | 0, _, ⟨j, hj, _⟩ => absurd hj (Nat.not_lt_zero _)
  | m + 1, h, ⟨j, hj, hl⟩ => by
    show sm g m + g m < sm g' m + g' m
    by_cases e : j = m
    · subst e
      have := sm_le (g := g) (g' := g') (m := j) fun k hk => h k (by omega)
      omega
    · have := sm_lt (g := g) (g' := g') (m := m) (fun k hk => h k (by omega)) ⟨j, by omega, hl⟩
      have := h m (by omega)
      omega
theorem sm_bound {g : Nat → Nat} {Z : Nat} : ∀ {m : Nat}, (∀ j, j < m → g j ≤ Z) → sm g m ≤ m * Z
  | 0, _ => Nat.zero_le _
  | m + 1, h => by
    have := sm_bound (g := g) (Z := Z) (m := m) fun j hj => h j (by omega)
    have := h m (by omega)
    show sm g m + g m ≤ _
    rw [Nat.add_mul, Nat.one_mul]
    omega
/-- some rising numbers below a bound stand still at once, sometime -/
theorem still {m Z : Nat} {g : Nat → Nat → Nat} (up : ∀ j k, j < m → g j k ≤ g j (k + 1)) (bd : ∀ j k, j < m → g j k ≤ Z) : ∃ k, k ≤ m * Z ∧ ∀ j, j < m → g j (k + 1) = g j k := by
  apply Classical.byContradiction
  intro no
  have mv : ∀ k, k ≤ m * Z → ∃ j, j < m ∧ g j k < g j (k + 1) := fun k hk => by
    apply Classical.byContradiction
    intro no2
    refine no ⟨k, hk, fun j hj => ?_⟩
    have := up j k hj
    have : ¬ g j k < g j (k + 1) := fun z => no2 ⟨j, hj, z⟩
    omega
  have gr : ∀ k, k ≤ m * Z + 1 → k ≤ sm (fun j => g j k) m := by
    intro k
    induction k with
    | zero => intro _; exact Nat.zero_le _
    | succ k ih =>
      intro hk
      have := ih (by omega)
      have := sm_lt (g := fun j => g j k) (g' := fun j => g j (k + 1)) (m := m) (fun j hj => up j k hj) (mv k (by omega))
      omega
  have a := gr (m * Z + 1) (Nat.le_refl _)
  have b := sm_bound (g := fun j => g j (m * Z + 1)) (Z := Z) (m := m) fun j hj => bd j _ hj
  omega
section
variable {c : Ppl} {f : List Int}
/-- what was so for nine beats stands so again -/
theorem stand_eq (h : OkCF c f) (h9 : ∀ i, i < c.length → Cy c i ≤ 9 ∧ Bk c i ≤ 9) {τ Q P : Nat} (ht : 8 ≤ τ) (e : ∀ i, i < c.length → ∀ x, τ ≤ x + 8 → x ≤ τ → N c f i (x + Q) = N c f i x + P) : runL c f (τ + Q) = runL c f τ := by
  rw [(run_ok h (τ + Q)).1, (run_ok h τ).1]
  refine List.map_congr_left fun i hi => ?_
  have hi' := List.mem_range.mp hi
  have hp := pr_lt (n := c.length) (i := i) h.n0
  have qq : ∀ a b k d, a < c.length → b < c.length → 1 ≤ d → d ≤ 9 → queue (fire c f a) (fire c f b) k d (τ + Q) = queue (fire c f a) (fire c f b) k d τ := fun a b k d ha hb d1 d9 => by
    unfold queue
    have e1 : cnt (fire c f a) (τ + Q + 1 - d) = cnt (fire c f a) (τ + 1 - d) + P := by
      rw [show τ + Q + 1 - d = τ + 1 - d + Q by omega]
      exact e a ha _ (by omega) (by omega)
    have e2 : cnt (fire c f b) (τ + Q) = cnt (fire c f b) τ + P := e b hb τ (by omega) (by omega)
    rw [e1, e2, show k + (cnt (fire c f a) (τ + 1 - d) + P) - (cnt (fire c f b) τ + P) = k + cnt (fire c f a) (τ + 1 - d) - cnt (fire c f b) τ by omega]
    congr 1
    unfold pend
    refine fm_congr fun r hr => ?_
    have hr' := List.mem_range.mp hr
    have fe : fire c f a (τ + Q + (r + 1) - d) = fire c f a (τ + (r + 1) - d) := by
      rw [show τ + Q + (r + 1) - d = τ + (r + 1) - d + Q by omega]
      have x1 := e a ha (τ + (r + 1) - d) (by omega) (by omega)
      have x2 := e a ha (τ + (r + 1) - d + 1) (by omega) (by omega)
      rw [show τ + (r + 1) - d + 1 + Q = τ + (r + 1) - d + Q + 1 by omega] at x2
      have y1 : N c f a (τ + (r + 1) - d + Q + 1) = N c f a (τ + (r + 1) - d + Q) + if fire c f a (τ + (r + 1) - d + Q) = true then 1 else 0 := rfl
      have y2 : N c f a (τ + (r + 1) - d + 1) = N c f a (τ + (r + 1) - d) + if fire c f a (τ + (r + 1) - d) = true then 1 else 0 := rfl
      cases z1 : fire c f a (τ + (r + 1) - d + Q) <;> cases z2 : fire c f a (τ + (r + 1) - d) <;> rw [z1] at y1 <;> rw [z2] at y2 <;> simp at y1 y2 <;> first | rfl | omega
    rw [fe]
    by_cases z : fire c f a (τ + (r + 1) - d) = true
    · rw [if_pos ⟨by omega, z⟩, if_pos ⟨by omega, z⟩]
    · rw [if_neg fun y => z y.2, if_neg fun y => z y.2]
  obtain ⟨n1, n2⟩ := h9 i hi'
  unfold shape
  rw [qq _ _ _ _ hp hi' (h.c1 hi').1 n1, qq _ _ _ _ hi' hp (h.b1 hi').1 n2]
variable {q p : Int}
theorem N_high (h : OkCF c f) (S : Slope c f q p) {P Q j : Nat} (hj : j < c.length) (hr : p * (Q : Int) = q * (P : Int)) (cr : ∀ u, N c f j u ≤ P + N c f j (u - Q)) (hQ : 1 ≤ Q) {i : Nat} (hi : i < c.length) (t : Nat) : q * (N c f i t : Nat) ≤ p * (t : Int) + q * (P : Int) + q * (PF f c.length : Nat) := by
  have q0 := S.q0
  have p0 := S.p0
  have key : ∀ t, q * (N c f j t : Nat) ≤ p * (t : Int) + q * (P : Int) := by
    intro t
    induction t using Nat.strongRecOn with
    | _ t ih =>
      have a := cr t
      by_cases g : t ≤ Q
      · have e : t - Q = 0 := by omega
        rw [e] at a
        have e0 : N c f j 0 = 0 := rfl
        rw [e0] at a
        have := Int.mul_le_mul_of_nonneg_left (show ((N c f j t : Nat) : Int) ≤ (P : Int) by omega) (show 0 ≤ q by omega)
        have := mul_nn (a := p) (b := (t : Int)) (by omega) (by omega)
        omega
      · have b := ih (t - Q) (by omega)
        have := Int.mul_le_mul_of_nonneg_left (show ((N c f j t : Nat) : Int) ≤ (P : Int) + (N c f j (t - Q) : Nat) by omega) (show 0 ≤ q by omega)
        rw [Int.mul_add] at this
        rw [show ((t - Q : Nat) : Int) = (t : Int) - Q by omega, Int.mul_sub] at b
        omega
  have a := near h hi hj t
  have := Int.mul_le_mul_of_nonneg_left (show ((N c f i t : Nat) : Int) ≤ (PF f c.length : Nat) + (N c f j t : Nat) by omega) (show 0 ≤ q by omega)
  rw [Int.mul_add] at this
  have := key t
  omega
/-- where nobody gains more than the slope from T on, all comes again -/
theorem again_from (h : OkCF c f) (S : Slope c f q p) {P Q j T : Nat} (hj : j < c.length) (hr : p * (Q : Int) = q * (P : Int)) (cr : ∀ u, N c f j u ≤ P + N c f j (u - Q)) (hQ : 1 ≤ Q) (le : ∀ t, T ≤ t → ∀ i, i < c.length → N c f i (t + Q) ≤ N c f i t + P) :
    ∃ k, k ≤ (c.length * 9) * (P + 2 * PF f c.length + PG c f c.length) ∧ ∀ i, i < c.length → ∀ r, r < 9 → N c f i (T + k * Q + r + Q) = N c f i (T + k * Q + r) + P := by
  have q0 := S.q0
  have n0 := h.n0
  obtain ⟨k, hk, e⟩ := still (m := c.length * 9) (Z := P + 2 * PF f c.length + PG c f c.length) (g := fun j k => N c f (j / 9) (T + j % 9) + k * P - N c f (j / 9) (T + k * Q + j % 9))
    (fun j k hj => by
      have := le (T + k * Q + j % 9) (by omega) (j / 9) (by omega)
      have e : T + (k + 1) * Q + j % 9 = T + k * Q + j % 9 + Q := by rw [Nat.add_mul, Nat.one_mul]; omega
      rw [e, Nat.add_mul, Nat.one_mul]
      omega)
    (fun j k hj => by
      have hi : j / 9 < c.length := by omega
      have a := N_high h S (by assumption) hr cr hQ hi (T + j % 9)
      have b := N_low h S hi (T + k * Q + j % 9)
      have pk : p * ((T + k * Q + j % 9 : Nat) : Int) = p * ((T + j % 9 : Nat) : Int) + q * ((k * P : Nat) : Int) := by
        have e1 : ((T + k * Q + j % 9 : Nat) : Int) = ((T + j % 9 : Nat) : Int) + (k : Int) * (Q : Int) := by
          rw [← Int.natCast_mul]
          omega
        rw [e1, Int.mul_add, Int.natCast_mul, ← Int.mul_assoc, Int.mul_comm p (k : Int), Int.mul_assoc, hr, ← Int.mul_assoc, Int.mul_comm (k : Int) q, Int.mul_assoc]
      rw [pk] at b
      generalize N c f (j / 9) (T + j % 9) = x at *
      generalize N c f (j / 9) (T + k * Q + j % 9) = y at *
      generalize k * P = z at *
      generalize PF f c.length = F at *
      generalize PG c f c.length = G at *
      have : q * ((x : Int) + z) ≤ q * ((y : Int) + P + 2 * F + G) := by
        rw [Int.mul_add, Int.mul_add, Int.mul_add, Int.mul_add]
        have e3 : q * (2 * (F : Int)) = q * F + q * F := by grind
        rw [e3]
        omega
      have := Int.le_of_mul_le_mul_left this q0
      show x + z - y ≤ _
      omega)
  refine ⟨k, hk, fun i hi r hr9 => ?_⟩
  have e1 := e (i * 9 + r) (by omega)
  have d1 : (i * 9 + r) / 9 = i := by omega
  have d2 : (i * 9 + r) % 9 = r := by omega
  rw [d1, d2] at e1
  have e2 : T + (k + 1) * Q + r = T + k * Q + r + Q := by rw [Nat.add_mul, Nat.one_mul]; omega
  rw [e2, Nat.add_mul, Nat.one_mul] at e1
  have l1 := le (T + k * Q + r) (by omega) i hi
  -- nothing was cut
  have mon : ∀ k, N c f i (T + k * Q + r) ≤ N c f i (T + r) + k * P := by
    intro k
    induction k with
    | zero => simp
    | succ k ih =>
      have := le (T + k * Q + r) (by omega) i hi
      rw [show T + (k + 1) * Q + r = T + k * Q + r + Q by rw [Nat.add_mul, Nat.one_mul]; omega, Nat.add_mul, Nat.one_mul]
      omega
  have m1 := mon k
  have m2 := mon (k + 1)
  rw [e2, Nat.add_mul, Nat.one_mul] at m2
  omega
end
end Hr
namespace Hr
open Pd
/-! the slowest round of waiting -/
theorem ratio_trans {qa pa qb pb qd pd : Nat} (hb : 0 < qb) (h1 : pa * qb ≤ pb * qa) (h2 : pb * qd ≤ pd * qb) : pa * qd ≤ pd * qa := by
  have a := Nat.mul_le_mul_right qd h1
  have b := Nat.mul_le_mul_right qa h2
  have e1 : pb * qa * qd = pb * qd * qa := by rw [Nat.mul_assoc, Nat.mul_comm qa qd, ← Nat.mul_assoc]
  have e2 : pa * qb * qd = pa * qd * qb := by rw [Nat.mul_assoc, Nat.mul_comm qb qd, ← Nat.mul_assoc]
  have e3 : pd * qb * qa = pd * qa * qb := by rw [Nat.mul_assoc, Nat.mul_comm qb qa, ← Nat.mul_assoc]
  rw [e1, e2] at a
  rw [e3] at b
  exact Nat.le_of_mul_le_mul_right (Nat.le_trans a b) hb
theorem least_ratio (qf pf : Nat → Nat) : ∀ m, 0 < m → (∀ a, a < m → 0 < qf a) → ∃ a, a < m ∧ ∀ b, b < m → pf a * qf b ≤ pf b * qf a
  | 0, h, _ => absurd h (Nat.lt_irrefl _)
  | 1, _, _ => ⟨0, Nat.one_pos, fun b hb => by
    have e : b = 0 := by omega
    rw [e]
    exact Nat.le_refl _⟩
  | m + 2, _, hq => by
    obtain ⟨a, ha, l⟩ := least_ratio qf pf (m + 1) (by omega) fun a ha => hq a (by omega)
    by_cases g : pf a * qf (m + 1) ≤ pf (m + 1) * qf a
    · refine ⟨a, by omega, fun b hb => ?_⟩
      by_cases e : b = m + 1
      · subst e; exact g
      · exact l b (by omega)
    · refine ⟨m + 1, by omega, fun b hb => ?_⟩
      by_cases e : b = m + 1
      · subst e; exact Nat.le_refl _
      · exact ratio_trans (hq a (by omega)) (by omega) (l b (by omega))
section
variable {c : Ppl} {f : List Int} {q p : Int}
theorem pos_sm {g : Nat → Nat} {n : Nat} (h0 : 0 < n) (h : ∀ i, i < n → 1 ≤ g i) : 0 < sm g n := by
  cases n with
  | zero => omega
  | succ n => have := h n (by omega); show 0 < sm g n + g n; omega
/-- how many hands -/
theorem sm_add (h : OkCF c f) : ∀ k, k ≤ c.length → PF f k + PG c f k = sm (Hd c) k
  | 0, _ => rfl
  | k + 1, hk => by
    have := sm_add h k (by omega)
    have := h.fh (i := k) (by omega)
    show PF f k + Fl f k + (PG c f k + Gl c f k) = sm (Hd c) k + Hd c k
    omega
/-- two and the rest -/
theorem pair_rep (h : OkCF c f) {i : Nat} {x : Nat} (two : ∀ u, N c f x u ≤ Hd c i + N c f x (u - (Cy c i + Bk c i))) : ∀ m u, N c f x u ≤ m * Hd c i + N c f x (u - m * (Cy c i + Bk c i))
  | 0, u => by simp
  | m + 1, u => by
    have a := pair_rep h two m u
    have b := two (u - m * (Cy c i + Bk c i))
    rw [show u - m * (Cy c i + Bk c i) - (Cy c i + Bk c i) = u - (m + 1) * (Cy c i + Bk c i) by rw [Nat.add_mul, Nat.one_mul]; omega] at b
    rw [Nat.add_mul, Nat.one_mul]
    omega
/-- where a pair is slowest, its own gains nothing in Q beats -/
theorem pair_crit (h : OkCF c f) (S : Slope c f q p) {Q i : Nat} (hi : i < c.length) (hH : Hd c i ≤ 3) (hz : ee c q p i = 0) (hQ : p * (Q : Int) = q * ((6 : Nat) : Int)) : (∀ u, N c f i u ≤ 6 + N c f i (u - Q)) ∧ ∀ u, N c f (pr c.length i) u ≤ 6 + N c f (pr c.length i) (u - Q) := by
  have p0 := S.p0
  have q0 := S.q0
  unfold ee at hz
  have hp : 1 ≤ Hd c i := by
    by_cases g : Hd c i = 0
    · rw [g] at hz
      have := h.c1 hi
      have := Int.mul_pos p0 (show (0 : Int) < (Cy c i : Nat) + (Bk c i : Nat) by omega)
      simp at hz
      omega
    · omega
  obtain ⟨m, hm⟩ : ∃ m, m * Hd c i = 6 := by
    have : Hd c i = 1 ∨ Hd c i = 2 ∨ Hd c i = 3 := by omega
    rcases this with e | e | e <;> rw [e]
    · exact ⟨6, rfl⟩
    · exact ⟨3, rfl⟩
    · exact ⟨2, rfl⟩
  have hQ2 : Q = m * (Cy c i + Bk c i) := by
    have e : p * (Q : Int) = p * ((m * (Cy c i + Bk c i) : Nat) : Int) := by
      rw [hQ, ← hm]
      rw [Int.natCast_mul, Int.natCast_mul, Int.natCast_add]
      have : q * ((Hd c i : Nat) : Int) = p * ((Cy c i : Nat) + (Bk c i : Nat)) := by omega
      rw [← Int.mul_assoc, Int.mul_comm q (m : Int), Int.mul_assoc, this, ← Int.mul_assoc, Int.mul_comm (m : Int) p, Int.mul_assoc]
    have := Int.eq_of_mul_eq_mul_left (by omega) e
    omega
  constructor
  · intro u
    have := pair_rep h (fun u => two_l h hi u) m u
    rw [hm, ← hQ2] at this
    exact this
  · intro u
    have := pair_rep h (fun u => two_r h hi u) m u
    rw [hm, ← hQ2] at this
    exact this
variable {α β : Int}
/-- a gain goes back to an earlier one, further below -/
theorem desc (h : OkCF c f) (S : Slope c f q p) (w : Wt c f q p α β) (hα : 1 ≤ α) (hβ : 1 ≤ β) (hqp : p < q) (h9 : ∀ i, i < c.length → Cy c i ≤ 9 ∧ Bk c i ≤ 9) (hH : ∀ i, i < c.length → Hd c i ≤ 3) {Q : Nat} (hQ : p * (Q : Int) = q * ((6 : Nat) : Int)) {i t : Nat} (hi : i < c.length) (ht : 9 ≤ t)
    (D : N c f i t + 6 < N c f i (t + Q)) : ∃ j u, j < c.length ∧ t ≤ u + 9 ∧ N c f j u + 6 < N c f j (u + Q) ∧ Mv c f q p α β j u + 1 ≤ Mv c f q p α β i t := by
  have s0 := w.s0
  obtain ⟨t, rfl⟩ : ∃ k, t = k + 1 := ⟨t - 1, by omega⟩
  have hp := pr_lt (n := c.length) (i := i) h.n0
  have hs := su_lt (n := c.length) (i := i) h.n0
  have mulp : ∀ {a e : Int}, 1 ≤ a → 1 ≤ e → 1 ≤ a * e := fun {a e} ha he => by
    have := Int.mul_le_mul ha he (by omega) (by omega)
    simpa using this
  rcases N_eq h hi t with e | e | e
  · refine ⟨i, t, hi, by omega, ?_, ?_⟩
    · have := one_l (c := c) (f := f) i (t + 1 + Q)
      rw [show t + 1 + Q - 1 = t + Q by omega] at this
      omega
    · rw [M_self e]
      have := mulp (a := α + β) (e := q - p) (by omega) (by omega)
      omega
  · have c9 := (h9 i hi).1
    have e0 : 1 ≤ ee c q p i := by
      by_cases z : ee c q p i = 0
      · have := (pair_crit h S hi (hH i hi) z hQ).1 (t + 1 + Q)
        rw [show t + 1 + Q - Q = t + 1 by omega] at this
        omega
      · have := ee_nn S hi
        omega
    refine ⟨pr c.length i, t + 1 - Cy c i, hp, by omega, ?_, ?_⟩
    · have := N_fwd h hi (t + 1 + Q)
      rw [show t + 1 + Q - Cy c i = t + 1 - Cy c i + Q by omega] at this
      omega
    · rw [M_fwd h w hi e (by omega)]
      have := mulp hα e0
      omega
  · have b9 := (h9 _ hs).2
    have e0 : 1 ≤ ee c q p (su c.length i) := by
      by_cases z : ee c q p (su c.length i) = 0
      · have := (pair_crit h S hs (hH _ hs) z hQ).2 (t + 1 + Q)
        rw [pr_su hi, show t + 1 + Q - Q = t + 1 by omega] at this
        omega
      · have := ee_nn S hs
        omega
    refine ⟨su c.length i, t + 1 - Bk c (su c.length i), hs, by omega, ?_, ?_⟩
    · have := N_bwd' h hi (t + 1 + Q)
      rw [show t + 1 + Q - Bk c (su c.length i) = t + 1 - Bk c (su c.length i) + Q by omega] at this
      omega
    · have e' : N c f (pr c.length (su c.length i)) (t + 1) = Gl c f (su c.length i) + N c f (su c.length i) (t + 1 - Bk c (su c.length i)) := by rw [pr_su hi]; exact e
      have mm := M_bwd (q := q) (p := p) h w hs e' (by omega)
      rw [pr_su hi] at mm
      rw [mm]
      have := mulp hβ e0
      omega
theorem desc_all (h : OkCF c f) (S : Slope c f q p) (w : Wt c f q p α β) (hα : 1 ≤ α) (hβ : 1 ≤ β) (hqp : p < q) (h9 : ∀ i, i < c.length → Cy c i ≤ 9 ∧ Bk c i ≤ 9) (hH : ∀ i, i < c.length → Hd c i ≤ 3) {Q : Nat} (hQ : p * (Q : Int) = q * ((6 : Nat) : Int)) : ∀ (k : Nat) {i t : Nat}, i < c.length → 9 * k ≤ t →
    N c f i t + 6 < N c f i (t + Q) → ∃ j u, j < c.length ∧ Mv c f q p α β j u + k ≤ Mv c f q p α β i t
  | 0, i, t, hi, _, _ => ⟨i, t, hi, by omega⟩
  | k + 1, i, t, hi, ht, D => by
    obtain ⟨j, u, hj, hu, D', m⟩ := desc h S w hα hβ hqp h9 hH hQ hi (by omega) D
    obtain ⟨j', u', hj', m'⟩ := desc_all h S w hα hβ hqp h9 hH hQ k hj (by omega) D'
    exact ⟨j', u', hj', by omega⟩
/-- from a beat on nobody gains -/
theorem no_gain (h : OkCF c f) (S : Slope c f q p) (hA : 0 < sA c f q p) (hB : 0 < sB c f q p) (hqp : p < q) (h9 : ∀ i, i < c.length → Cy c i ≤ 9 ∧ Bk c i ≤ 9) (hH : ∀ i, i < c.length → Hd c i ≤ 3) {Q i0 : Nat} (hQ : p * (Q : Int) = q * ((6 : Nat) : Int)) (hQ1 : 1 ≤ Q) (hi0 : i0 < c.length) (hz : ee c q p i0 = 0)
    {K : Nat} (hK : (sA c f q p + sB c f q p) * (q * (6 + 2 * (PF f c.length : Nat) + (PG c f c.length : Nat))) ≤ (K : Int)) : ∀ t, 9 * (K + 1) ≤ t → ∀ i, i < c.length → N c f i (t + Q) ≤ N c f i t + 6 := by
  intro t ht i hi
  obtain ⟨α, β, w, wp⟩ := wt_ex S
  obtain ⟨rfl, rfl⟩ := wp hA hB
  by_cases D : N c f i t + 6 < N c f i (t + Q)
  · exfalso
    obtain ⟨j, u, hj, m⟩ := desc_all h S w (by omega) (by omega) hqp h9 hH hQ (K + 1) hi ht D
    have lowj := M_low h S w u j hj
    have high := N_high h S hi0 hQ (pair_crit h S hi0 (hH _ hi0) hz hQ).1 hQ1 hi t
    have pl := (pot_le h S w hi).2
    have s0 := w.s0
    unfold Mv at m lowj
    generalize sA c f q p + sB c f q p = s at *
    have up1 : s * (q * (N c f i t : Nat) - p * (t : Int)) ≤ s * (q * ((6 : Nat) : Int) + q * (PF f c.length : Nat)) := Int.mul_le_mul_of_nonneg_left (by omega) (by omega)
    have e1 : s * (q * (6 + 2 * (PF f c.length : Nat) + (PG c f c.length : Nat))) = s * (q * ((6 : Nat) : Int) + q * (PF f c.length : Nat)) + s * (q * (PF f c.length : Nat)) + s * (q * (PG c f c.length : Nat)) := by
      generalize ((PF f c.length : Nat) : Int) = F
      generalize ((PG c f c.length : Nat) : Int) = G
      show s * (q * (6 + 2 * F + G)) = s * (q * 6 + q * F) + s * (q * F) + s * (q * G)
      grind
    omega
  · omega
end
end Hr
namespace Hr
open Pd
/-- a circle of the usual bounds -/
structure Sm (c : Ppl) : Prop where
  n12 : c.length ≤ 12
  c9 : ∀ i, i < c.length → Cy c i ≤ 9 ∧ Bk c i ≤ 9
  h3 : ∀ i, i < c.length → Hd c i ≤ 3
section
variable {c : Ppl} {f : List Int}
theorem sm_le_mul {g : Nat → Nat} {Z m : Nat} (h : ∀ j, j < m → g j ≤ Z) : sm g m ≤ m * Z := sm_bound h
def qf (c : Ppl) (a : Nat) : Nat := if a = 0 then 1 else if a = 1 then PC c c.length else if a = 2 then PB c c.length else Cy c (a - 3) + Bk c (a - 3)
def pf (c : Ppl) (f : List Int) (a : Nat) : Nat := if a = 0 then 1 else if a = 1 then PF f c.length else if a = 2 then PG c f c.length else Hd c (a - 3)
/-- the slope of a circle: of one of its rounds -/
structure SlopeOf (c : Ppl) (f : List Int) (q p : Nat) : Prop where
  S : Slope c f q p
  one : ∃ a, a < c.length + 3 ∧ q = qf c a ∧ p = pf c f a
/-- T: from there on nobody gains more than P in Q beats -/
structure Gain (c : Ppl) (f : List Int) (q p j P Q T : Nat) : Prop where
  hj : j < c.length
  eq : (p : Int) * (Q : Int) = (q : Int) * (P : Int)
  cr : ∀ u, N c f j u ≤ P + N c f j (u - Q)
  q1 : 1 ≤ Q
  pb : P ≤ 36
  qb : Q ≤ 108
  le : ∀ t, T ≤ t → ∀ i, i < c.length → N c f i (t + Q) ≤ N c f i t + P
theorem bounds (h : OkCF c f) (k : Sm c) : PF f c.length + PG c f c.length ≤ 36 ∧ PC c c.length ≤ 108 ∧ PB c c.length ≤ 108 ∧ 1 ≤ PC c c.length ∧ 1 ≤ PB c c.length := by
  have n12 := k.n12
  have a := sm_add h c.length (Nat.le_refl _)
  have b := sm_le_mul (g := Hd c) (Z := 3) (m := c.length) k.h3
  have d := sm_le_mul (g := Cy c) (Z := 9) (m := c.length) fun i hi => (k.c9 i hi).1
  have e := sm_le_mul (g := Bk c) (Z := 9) (m := c.length) fun i hi => (k.c9 i hi).2
  have d1 := pos_sm (g := Cy c) h.n0 fun i hi => (h.c1 hi).1
  have e1 := pos_sm (g := Bk c) h.n0 fun i hi => (h.b1 hi).1
  refine ⟨by omega, ?_, ?_, d1, e1⟩
  · show sm (Cy c) c.length ≤ 108; omega
  · show sm (Bk c) c.length ≤ 108; omega
theorem slope_ex (h : OkCF c f) (k : Sm c) (hH1 : ∀ i, i < c.length → 1 ≤ Hd c i) (hF : 0 < PF f c.length) (hG : 0 < PG c f c.length) : ∃ q p, SlopeOf c f q p ∧ ∃ j P Q, Gain c f q p j P Q 8188137 := by
  have n0 := h.n0
  obtain ⟨bH, bC, bB, bC1, bB1⟩ := bounds h k
  have q0 : ∀ a, a < c.length + 3 → 0 < qf c a := fun a ha => by
    unfold qf
    split
    · exact Nat.one_pos
    · split
      · omega
      · split
        · omega
        · have := (h.c1 (i := a - 3) (by omega)).1
          omega
  have p0 : ∀ a, a < c.length + 3 → 0 < pf c f a := fun a ha => by
    unfold pf
    split
    · exact Nat.one_pos
    · split
      · omega
      · split
        · omega
        · exact hH1 _ (by omega)
  obtain ⟨a, ha, l⟩ := least_ratio (qf c) (pf c f) (c.length + 3) (by omega) q0
  have l' : ∀ b, b < c.length + 3 → ((pf c f a : Nat) : Int) * ((qf c b : Nat) : Int) ≤ ((qf c a : Nat) : Int) * ((pf c f b : Nat) : Int) := fun b hb => by
    have := l b hb
    rw [Nat.mul_comm (pf c f b)] at this
    rw [← Int.natCast_mul, ← Int.natCast_mul]
    omega
  have S : Slope c f (qf c a) (pf c f a) := by
    refine ⟨by have := q0 a ha; omega, by have := p0 a ha; omega, ?_, fun i hi => ?_, ?_, ?_⟩
    · have := l' 0 (by omega)
      have e1 : qf c 0 = 1 := rfl
      have e2 : pf c f 0 = 1 := rfl
      rw [e1, e2] at this
      simpa using this
    · have := l' (i + 3) (by omega)
      have e1 : qf c (i + 3) = Cy c i + Bk c i := by
        unfold qf
        rw [if_neg (by omega), if_neg (by omega), if_neg (by omega)]
        rfl
      have e2 : pf c f (i + 3) = Hd c i := by
        unfold pf
        rw [if_neg (by omega), if_neg (by omega), if_neg (by omega)]
        rfl
      rw [e1, e2, Int.natCast_add] at this
      exact this
    · exact l' 1 (by omega)
    · exact l' 2 (by omega)
  refine ⟨qf c a, pf c f a, ⟨S, a, ha, rfl, rfl⟩, ?_⟩
  have all : ∀ {P Q : Nat}, (∀ i, i < c.length → ∀ u, N c f i u ≤ P + N c f i (u - Q)) → ∀ t, 8188137 ≤ t → ∀ i, i < c.length → N c f i (t + Q) ≤ N c f i t + P := fun {P Q} cr t _ i hi => by
    have := cr i hi (t + Q)
    rw [Nat.add_sub_cancel] at this
    omega
  by_cases g1 : pf c f a * PC c c.length = qf c a * PF f c.length
  · refine ⟨0, PF f c.length, PC c c.length, n0, ?_, fun u => fwd_loop h n0 u, bC1, by omega, bC, all fun i hi u => fwd_loop h hi u⟩
    rw [← Int.natCast_mul, ← Int.natCast_mul, g1]
  by_cases g2 : pf c f a * PB c c.length = qf c a * PG c f c.length
  · refine ⟨0, PG c f c.length, PB c c.length, n0, ?_, fun u => bwd_loop h n0 u, bB1, by omega, bB, all fun i hi u => bwd_loop h hi u⟩
    rw [← Int.natCast_mul, ← Int.natCast_mul, g2]
  by_cases g3 : pf c f a = qf c a
  · refine ⟨0, 1, 1, n0, by rw [g3], fun u => one_l _ u, by omega, by omega, by omega, all fun i hi u => one_l _ u⟩
  have sA0 : 0 < sA c f (qf c a) (pf c f a) := by
    have := S.fw
    unfold sA
    rw [← Int.natCast_mul, ← Int.natCast_mul] at this ⊢
    omega
  have sB0 : 0 < sB c f (qf c a) (pf c f a) := by
    have := S.bw
    unfold sB
    rw [← Int.natCast_mul, ← Int.natCast_mul] at this ⊢
    omega
  have hlt : ((pf c f a : Nat) : Int) < ((qf c a : Nat) : Int) := by
    have := S.one
    omega
  -- a pair is the slowest
  obtain ⟨i0, hi0, eq, ep⟩ : ∃ i, i < c.length ∧ qf c a = Cy c i + Bk c i ∧ pf c f a = Hd c i := by
    have a0 : a ≠ 0 := fun z => by subst z; exact g3 rfl
    have a1 : a ≠ 1 := fun z => by subst z; exact g1 (Nat.mul_comm _ _)
    have a2 : a ≠ 2 := fun z => by subst z; exact g2 (Nat.mul_comm _ _)
    refine ⟨a - 3, by omega, ?_, ?_⟩
    · unfold qf
      rw [if_neg a0, if_neg a1, if_neg a2]
    · unfold pf
      rw [if_neg a0, if_neg a1, if_neg a2]
  have hz : ee c (qf c a) (pf c f a) i0 = 0 := by
    unfold ee
    rw [eq, ep, Int.natCast_add, Int.mul_comm]
    omega
  obtain ⟨m, hm⟩ : ∃ m, m * Hd c i0 = 6 := by
    have h1 := hH1 i0 hi0
    have h2 := k.h3 i0 hi0
    have : Hd c i0 = 1 ∨ Hd c i0 = 2 ∨ Hd c i0 = 3 := by omega
    rcases this with e | e | e <;> rw [e]
    · exact ⟨6, rfl⟩
    · exact ⟨3, rfl⟩
    · exact ⟨2, rfl⟩
  have m6 : m ≤ 6 := by
    have h1 := hH1 i0 hi0
    have := Nat.mul_le_mul_left m h1
    omega
  have m1 : 1 ≤ m := by
    by_cases z : m = 0
    · subst z; omega
    · omega
  obtain ⟨c9, b9⟩ := k.c9 i0 hi0
  have c1 := (h.c1 hi0).1
  have hQ : ((pf c f a : Nat) : Int) * ((m * (Cy c i0 + Bk c i0) : Nat) : Int) = ((qf c a : Nat) : Int) * ((6 : Nat) : Int) := by
    rw [← Int.natCast_mul, ← Int.natCast_mul, eq, ep, ← hm]
    congr 1
    rw [← Nat.mul_assoc, Nat.mul_comm (Hd c i0) m, Nat.mul_comm]
  have Q1 : 1 ≤ m * (Cy c i0 + Bk c i0) := by
    have := Nat.mul_le_mul m1 (show 1 ≤ Cy c i0 + Bk c i0 by omega)
    omega
  have Qb : m * (Cy c i0 + Bk c i0) ≤ 108 := by
    have := Nat.mul_le_mul m6 (show Cy c i0 + Bk c i0 ≤ 18 by omega)
    omega
  refine ⟨i0, 6, m * (Cy c i0 + Bk c i0), hi0, hQ, (pair_crit h S hi0 (k.h3 _ hi0) hz hQ).1, Q1, by omega, Qb, ?_⟩
  have hK : (sA c f (qf c a) (pf c f a) + sB c f (qf c a) (pf c f a)) * (((qf c a : Nat) : Int) * (6 + 2 * (PF f c.length : Nat) + (PG c f c.length : Nat))) ≤ ((909792 : Nat) : Int) := by
    have q18 : qf c a ≤ 18 := by omega
    have s1 : sA c f (qf c a) (pf c f a) + sB c f (qf c a) (pf c f a) ≤ 648 := by
      have u1 := mul_nn (a := ((pf c f a : Nat) : Int)) (b := ((PC c c.length : Nat) : Int)) (by omega) (by omega)
      have u2 := mul_nn (a := ((pf c f a : Nat) : Int)) (b := ((PB c c.length : Nat) : Int)) (by omega) (by omega)
      have u3 : qf c a * (PF f c.length + PG c f c.length) ≤ 18 * 36 := Nat.mul_le_mul q18 bH
      rw [Nat.mul_add] at u3
      unfold sA sB
      rw [← Int.natCast_mul] at u1 u2
      rw [← Int.natCast_mul, ← Int.natCast_mul, ← Int.natCast_mul, ← Int.natCast_mul]
      omega
    have s2 : ((qf c a : Nat) : Int) * (6 + 2 * (PF f c.length : Nat) + (PG c f c.length : Nat)) ≤ 1404 := by
      have : qf c a * (6 + 2 * PF f c.length + PG c f c.length) ≤ 18 * 78 := Nat.mul_le_mul q18 (by omega)
      have e : ((qf c a : Nat) : Int) * (6 + 2 * (PF f c.length : Nat) + (PG c f c.length : Nat)) = ((qf c a * (6 + 2 * PF f c.length + PG c f c.length) : Nat) : Int) := by
        rw [Int.natCast_mul]
        congr 1
      rw [e]
      omega
    have s3 := mul_nn (a := ((qf c a : Nat) : Int)) (b := 6 + 2 * ((PF f c.length : Nat) : Int) + (PG c f c.length : Nat)) (by omega) (by omega)
    have := Int.mul_le_mul s1 s2 s3 (by omega)
    omega
  have ng := no_gain h S sA0 sB0 hlt k.c9 k.h3 hQ Q1 hi0 hz (K := 909792) hK
  exact fun t ht i hi => ng t (by omega) i hi
/-- nobody moves without a bucket, or without a free hand -/
theorem none_moves (h : OkCF c f) (z : PF f c.length = 0 ∨ PG c f c.length = 0) : ∀ t i, i < c.length → N c f i t = 0 := by
  have zero : ∀ {g : Nat → Nat} {n : Nat}, sm g n = 0 → ∀ i, i < n → g i = 0 := fun {g n} e i hi => by
    induction n with
    | zero => omega
    | succ n ih =>
      have e' : sm g n + g n = 0 := e
      by_cases q : i = n
      · subst q; omega
      · exact ih (by omega) (by omega)
  intro t
  induction t using Nat.strongRecOn with
  | _ t ih =>
    intro i hi
    cases t with
    | zero => rfl
    | succ t =>
      have hp := pr_lt (n := c.length) (i := i) h.n0
      have hs := su_lt (n := c.length) (i := i) h.n0
      rcases z with z | z
      · have a := N_fwd h hi (t + 1)
        rw [zero z i hi, ih (t + 1 - Cy c i) (by have := (h.c1 hi).1; omega) _ hp] at a
        omega
      · have a := N_bwd' h hi (t + 1)
        rw [zero z _ hs, ih (t + 1 - Bk c (su c.length i)) (by have := (h.b1 hs).1; omega) _ hs] at a
        omega
theorem comes_again (h : OkCF c f) (k : Sm c) (hH1 : ∀ i, i < c.length → 1 ≤ Hd c i) : ∃ τ Q, 1 ≤ Q ∧ τ + Q ≤ 10000000 ∧ runL c f (τ + Q) = runL c f τ := by
  have n12 := k.n12
  by_cases g : 0 < PF f c.length ∧ 0 < PG c f c.length
  · obtain ⟨q, p, so, j, P, Q, G⟩ := slope_ex h k hH1 g.1 g.2
    obtain ⟨bH, _⟩ := bounds h k
    obtain ⟨m, hm, e⟩ := again_from h so.S G.hj G.eq G.cr G.q1 G.le
    have q1 := G.q1
    have qb := G.qb
    have pb := G.pb
    have m1 : m ≤ 11664 := by
      have : c.length * 9 * (P + 2 * PF f c.length + PG c f c.length) ≤ 108 * 108 := Nat.mul_le_mul (by omega) (by omega)
      omega
    have m2 : m * Q ≤ 11664 * 108 := Nat.mul_le_mul m1 qb
    refine ⟨8188137 + m * Q + 8, Q, q1, by omega, ?_⟩
    refine stand_eq h k.c9 (P := P) (by omega) fun i hi x h1 h2 => ?_
    have := e i hi (x - (8188137 + m * Q)) (by omega)
    rw [show 8188137 + m * Q + (x - (8188137 + m * Q)) = x by omega] at this
    exact this
  · have z := none_moves h (by omega)
    refine ⟨8, 1, by omega, by omega, stand_eq h k.c9 (P := 0) (by omega) fun i hi x _ _ => ?_⟩
    rw [z _ i hi, z _ i hi]
end
end Hr
namespace Hr
open Pd
/-! periods -/
theorem arch {x y C : Int} (h : ∀ m : Nat, (m : Int) * x ≤ (m : Int) * y + C) : x ≤ y := by
  by_cases g : x ≤ y
  · exact g
  · exfalso
    have h0 := h 0
    have := h (C.toNat + 1)
    have e : ((C.toNat + 1 : Nat) : Int) * x = ((C.toNat + 1 : Nat) : Int) * y + ((C.toNat + 1 : Nat) : Int) * (x - y) := by rw [Int.mul_sub]; omega
    have l := Int.mul_le_mul_of_nonneg_left (show 1 ≤ x - y by omega) (show (0 : Int) ≤ ((C.toNat + 1 : Nat) : Int) by omega)
    simp at h0
    omega
section
variable {c : Ppl} {f : List Int}
theorem run_shift {a b : Nat} (e : runL c f a = runL c f b) : ∀ t, runL c f (a + t) = runL c f (b + t)
  | 0 => e
  | t + 1 => by
    show stepL c (runL c f (a + t)) = stepL c (runL c f (b + t))
    rw [run_shift e t]
theorem fire_shift {a b : Nat} (e : runL c f a = runL c f b) (i t : Nat) : fire c f i (a + t) = fire c f i (b + t) := by
  unfold fire
  rw [run_shift e t]
/-- the handings on from a standing to the same standing -/
theorem N_shift {a b : Nat} (e : runL c f a = runL c f b) (i : Nat) : ∀ t, N c f i (a + t) + N c f i b = N c f i (b + t) + N c f i a
  | 0 => Nat.add_comm _ _
  | t + 1 => by
    have := N_shift e i t
    have y1 : N c f i (a + (t + 1)) = N c f i (a + t) + if fire c f i (a + t) = true then 1 else 0 := rfl
    have y2 : N c f i (b + (t + 1)) = N c f i (b + t) + if fire c f i (b + t) = true then 1 else 0 := rfl
    rw [y1, y2, fire_shift e i t]
    omega
theorem N_per {a d : Nat} (e : runL c f a = runL c f (a + d)) (i : Nat) : ∀ m : Nat, N c f i (a + m * d) = N c f i a + m * (N c f i (a + d) - N c f i a)
  | 0 => by simp
  | m + 1 => by
    have ih := N_per e i m
    have s := N_shift e i (m * d)
    have mo := N_mono (c := c) (f := f) i (show a ≤ a + d by omega)
    rw [show a + (m + 1) * d = a + d + m * d by rw [Nat.add_mul, Nat.one_mul]; omega, Nat.add_mul, Nat.one_mul]
    omega
/-- all hand on as often -/
theorem as_often (h : OkCF c f) {a d : Nat} (e : runL c f a = runL c f (a + d)) {i j : Nat} (hi : i < c.length) (hj : j < c.length) : N c f i (a + d) - N c f i a = N c f j (a + d) - N c f j a := by
  have key : ∀ {i j : Nat}, i < c.length → j < c.length → N c f i (a + d) - N c f i a ≤ N c f j (a + d) - N c f j a := fun {i j} hi hj => by
    have := arch (x := ((N c f i (a + d) - N c f i a : Nat) : Int)) (y := ((N c f j (a + d) - N c f j a : Nat) : Int)) (C := (PF f c.length : Nat) + (N c f j a : Nat)) fun m => by
      have n := near h hi hj (a + m * d)
      rw [N_per e i m, N_per e j m] at n
      rw [← Int.natCast_mul, ← Int.natCast_mul]
      omega
    omega
  have := key hi hj
  have := key hj hi
  omega
/-- the beats of a period by its handings on are the slope -/
theorem per_slope (h : OkCF c f) {q p j P Q T : Nat} (so : SlopeOf c f q p) (G : Gain c f q p j P Q T) {a d : Nat} (e : runL c f a = runL c f (a + d)) {i : Nat} (hi : i < c.length) : p * d = q * (N c f i (a + d) - N c f i a) := by
  have q0 := so.S.q0
  have lo := arch (x := (p : Int) * (d : Int)) (y := (q : Int) * ((N c f i (a + d) - N c f i a : Nat) : Int)) (C := (q : Int) * (N c f i a : Nat) + (q : Int) * (PF f c.length : Nat) + (q : Int) * (PG c f c.length : Nat)) fun m => by
    have n := N_low h so.S hi (a + m * d)
    rw [N_per e i m] at n
    rw [Int.natCast_add, Int.natCast_add, Int.mul_add, Int.mul_add, Int.natCast_mul, Int.natCast_mul] at n
    have pa := mul_nn (a := (p : Int)) (b := (a : Int)) (by omega) (by omega)
    rw [← Int.mul_assoc, ← Int.mul_assoc, Int.mul_comm (m : Int) (p : Int), Int.mul_comm (m : Int) (q : Int), Int.mul_assoc, Int.mul_assoc]
    omega
  have hi' := arch (x := (q : Int) * ((N c f i (a + d) - N c f i a : Nat) : Int)) (y := (p : Int) * (d : Int)) (C := (p : Int) * (a : Int) + (q : Int) * (P : Int) + (q : Int) * (PF f c.length : Nat)) fun m => by
    have n := N_high h so.S G.hj G.eq G.cr G.q1 hi (a + m * d)
    rw [N_per e i m] at n
    rw [Int.natCast_add, Int.natCast_add, Int.mul_add, Int.mul_add, Int.natCast_mul, Int.natCast_mul] at n
    have pa := mul_nn (a := (q : Int)) (b := ((N c f i a : Nat) : Int)) (by omega) (by omega)
    rw [← Int.mul_assoc, ← Int.mul_assoc, Int.mul_comm (m : Int) (p : Int), Int.mul_comm (m : Int) (q : Int), Int.mul_assoc, Int.mul_assoc]
    omega
  have : (p : Int) * (d : Int) = (q : Int) * ((N c f i (a + d) - N c f i a : Nat) : Int) := by omega
  rw [← Int.natCast_mul, ← Int.natCast_mul] at this
  omega
/-- till a standing comes again: the number of standings, and the place of the one that comes again -/
theorem walk_ex (h : OkCF c f) (k : Sm c) (hH1 : ∀ i, i < c.length → 1 ≤ Hd c i) : ∃ m l, l < m ∧ m ≤ 10000000 ∧ runL c f m = runL c f l ∧ ∀ a b, a < b → b < m → runL c f a ≠ runL c f b := by
  obtain ⟨τ, Q, q1, bd, e⟩ := comes_again h k hH1
  have key : ∀ t, (∃ m l, l < m ∧ m ≤ t ∧ runL c f m = runL c f l ∧ ∀ a b, a < b → b < m → runL c f a ≠ runL c f b) ∨ ∀ a b, a < b → b ≤ t → runL c f a ≠ runL c f b := by
    intro t
    induction t with
    | zero => exact .inr fun a b ha hb => by omega
    | succ t ih =>
      rcases ih with ⟨m, l, h1, h2, h3⟩ | no
      · exact .inl ⟨m, l, h1, by omega, h3⟩
      · by_cases g : ∃ l, l < t + 1 ∧ runL c f (t + 1) = runL c f l
        · obtain ⟨l, h1, h2⟩ := g
          exact .inl ⟨t + 1, l, h1, Nat.le_refl _, h2, fun a b ha hb => no a b ha (by omega)⟩
        · refine .inr fun a b ha hb z => ?_
          by_cases q : b = t + 1
          · subst q
            exact g ⟨a, ha, z.symm⟩
          · exact no a b ha (by omega) z
  rcases key (τ + Q) with ⟨m, l, h1, h2, h3⟩ | no
  · exact ⟨m, l, h1, by omega, h3⟩
  · exact absurd e.symm (no τ (τ + Q) (by omega) (Nat.le_refl _))
end
end Hr
namespace Hr
open Pd
/-! rows of the beats at which things are ready -/
def rowT (inn : Nat → Bool) (k c t : Nat) : List Int := List.replicate k 0 ++ (tl inn t).map fun u : Nat => (u : Int) + c
def arow (inn out : Nat → Bool) (k c t : Nat) : List Int := (rowT inn k c t).drop (cnt out t)
theorem rowT_succ (inn : Nat → Bool) (k c t : Nat) : rowT inn k c (t + 1) = rowT inn k c t ++ if inn t = true then [(t : Int) + c] else [] := by
  unfold rowT
  rw [tl_succ, List.map_append, List.append_assoc]
  congr 2
  by_cases h : inn t = true <;> simp [h]
theorem rowT_len (inn : Nat → Bool) (k c t : Nat) : (rowT inn k c t).length = k + cnt inn t := by
  unfold rowT
  rw [List.length_append, List.length_replicate, List.length_map, tl_len]
theorem tl_sorted (p : Nat → Bool) (T : Nat) : (tl p T).Pairwise (· < ·) := by
  unfold tl
  exact List.Pairwise.filter _ List.pairwise_lt_range
theorem rowT_sorted (inn : Nat → Bool) (k c t : Nat) : (rowT inn k c t).Pairwise (· ≤ ·) := by
  unfold rowT
  refine List.pairwise_append.mpr ⟨List.pairwise_replicate.mpr (.inr (by omega)), ?_, fun x hx y hy => ?_⟩
  · rw [List.pairwise_map]
    exact (tl_sorted inn t).imp fun h => by omega
  · rw [(List.mem_replicate.mp hx).2]
    obtain ⟨u, _, rfl⟩ := List.mem_map.mp hy
    omega
theorem arow_sorted (inn out : Nat → Bool) (k c t : Nat) : (arow inn out k c t).Pairwise (· ≤ ·) := (rowT_sorted inn k c t).sublist (List.drop_sublist _ _)
theorem arow_step (inn out : Nat → Bool) (k c t : Nat) (hle : cnt out t ≤ k + cnt inn t) (ho : out t = true → cnt out t < k + cnt inn t) :
    arow inn out k c (t + 1) = (if out t = true then (arow inn out k c t).drop 1 else arow inn out k c t) ++ if inn t = true then [(t : Int) + c] else [] := by
  unfold arow
  rw [rowT_succ]
  have len := rowT_len inn k c t
  cases e : out t with
  | true =>
    have := ho e
    rw [cnt_true e, if_pos rfl, List.drop_drop, List.drop_append, show cnt out t + 1 - (rowT inn k c t).length = 0 by omega, List.drop_zero]
  | false =>
    rw [cnt_false e, if_neg Bool.false_ne_true, List.drop_append, show cnt out t - (rowT inn k c t).length = 0 by omega, List.drop_zero]
def pos (x : Int) : Int := if x > 0 then x else 0
theorem pos_dec (x : Int) (t : Nat) : pos (x - ((t + 1 : Nat) : Int)) = dec1 (pos (x - (t : Int))) := by
  unfold pos dec1
  split <;> split <;> split <;> omega
/-- by a beat, a row is a queue -/
theorem arow_queue (inn out : Nat → Bool) (k c : Nat) (hc : 1 ≤ c) (hle : ∀ t, cnt out t ≤ k + cnt inn (t + 1 - c)) (ho : ∀ t, out t = true → cnt out t < k + cnt inn (t + 1 - c)) : ∀ t, (arow inn out k c t).map (fun x => pos (x - (t : Int))) = queue inn out k c t
  | 0 => by
    rw [queue_zero inn out k c hc]
    unfold arow rowT
    show ((List.replicate k (0 : Int) ++ []).drop 0).map _ = _
    rw [List.append_nil, List.drop_zero, List.map_replicate]
    rfl
  | t + 1 => by
    have ih := arow_queue inn out k c hc hle ho t
    have mono := cnt_mono inn (show t + 1 - c ≤ t by omega)
    have st := (queue_step inn out k c t hc (hle t) (ho t)).1
    have srt := queue_sorted inn out k c (t + 1)
    rw [arow_step inn out k c t (by have := hle t; omega) (fun z => by have := ho t z; omega)]
    rw [← st]
    unfold laterL
    rw [← ih]
    have key : (((if out t = true then (arow inn out k c t).drop 1 else arow inn out k c t) ++ if inn t = true then [(t : Int) + c] else []).map fun x => pos (x - ((t + 1 : Nat) : Int))) =
        ((if out t = true then ((arow inn out k c t).map fun x => pos (x - (t : Int))).drop 1 else (arow inn out k c t).map fun x => pos (x - (t : Int))).map dec1 ++ if (0 : Int) < (if inn t = true then (c : Int) else 0) then [(if inn t = true then (c : Int) else 0) - 1] else []) := by
      rw [List.map_append]
      congr 1
      · have e : ∀ l : List Int, l.map (fun x => pos (x - ((t + 1 : Nat) : Int))) = (l.map fun x => pos (x - (t : Int))).map dec1 := fun l => by
          rw [List.map_map]
          exact List.map_congr_left fun x _ => pos_dec x t
        rw [e]
        congr 1
        split
        · rw [List.map_drop]
        · rfl
      · by_cases g : inn t = true
        · rw [if_pos g, if_pos g, if_pos (by omega)]
          show [pos ((t : Int) + c - ((t + 1 : Nat) : Int))] = [(c : Int) - 1]
          unfold pos
          congr 1
          split <;> omega
        · rw [if_neg g, if_neg g, if_neg (by omega)]
          rfl
    rw [← key]
    refine (sortI_of ?_).symm
    rw [List.pairwise_map]
    have so := arow_sorted inn out k c (t + 1)
    rw [arow_step inn out k c t (by have := hle t; omega) (fun z => by have := ho t z; omega)] at so
    refine so.imp fun {a b} h => ?_
    unfold pos
    split <;> split <;> omega
section
variable {c : Ppl} {f : List Int}
/-- when the buckets, and the free hands, of a person are ready -/
def hrow (c : Ppl) (f : List Int) (t i : Nat) : List Int := arow (fire c f (pr c.length i)) (fire c f i) (Fl f i) (Cy c i) t
def grow (c : Ppl) (f : List Int) (t i : Nat) : List Int := arow (fire c f i) (fire c f (pr c.length i)) (Gl c f i) (Bk c i) t
theorem fire_l (h : OkCF c f) {i : Nat} (hi : i < c.length) (t : Nat) (e : fire c f i t = true) : N c f i t < Fl f i + N c f (pr c.length i) (t + 1 - Cy c i) := by
  rw [fire_may h hi] at e
  exact (may_l e).1
theorem fire_r (h : OkCF c f) {i : Nat} (hi : i < c.length) (t : Nat) (e : fire c f (pr c.length i) t = true) : N c f (pr c.length i) t < Gl c f i + N c f i (t + 1 - Bk c i) := by
  rw [fire_may h (pr_lt h.n0)] at e
  have := (may_l e).2
  rw [su_pr hi] at this
  exact this
theorem hrow_shape (h : OkCF c f) {i : Nat} (hi : i < c.length) (t : Nat) : (hrow c f t i).map (fun x => pos (x - (t : Int))) = (shape c f t i).1 :=
  arow_queue _ _ _ _ (h.c1 hi).1 (fun t => (N_le h hi t).1) (fun t e => fire_l h hi t e) t
theorem grow_shape (h : OkCF c f) {i : Nat} (hi : i < c.length) (t : Nat) : (grow c f t i).map (fun x => pos (x - (t : Int))) = (shape c f t i).2 :=
  arow_queue _ _ _ _ (h.b1 hi).1 (fun t => (N_le h hi t).2) (fun t e => fire_r h hi t e) t
theorem hrow_step (h : OkCF c f) {i : Nat} (hi : i < c.length) (t : Nat) : hrow c f (t + 1) i = (if fire c f i t = true then (hrow c f t i).drop 1 else hrow c f t i) ++ if fire c f (pr c.length i) t = true then [(t : Int) + (Cy c i : Nat)] else [] := by
  have m := N_mono (c := c) (f := f) (pr c.length i) (show t + 1 - Cy c i ≤ t by have := (h.c1 hi).1; omega)
  exact arow_step _ _ _ _ _ (Nat.le_trans (N_le h hi t).1 (Nat.add_le_add_left m _)) fun e => Nat.lt_of_lt_of_le (fire_l h hi t e) (Nat.add_le_add_left m _)
theorem grow_step (h : OkCF c f) {i : Nat} (hi : i < c.length) (t : Nat) : grow c f (t + 1) i = (if fire c f (pr c.length i) t = true then (grow c f t i).drop 1 else grow c f t i) ++ if fire c f i t = true then [(t : Int) + (Bk c i : Nat)] else [] := by
  have m := N_mono (c := c) (f := f) i (show t + 1 - Bk c i ≤ t by have := (h.b1 hi).1; omega)
  exact arow_step _ _ _ _ _ (Nat.le_trans (N_le h hi t).2 (Nat.add_le_add_left m _)) fun e => Nat.lt_of_lt_of_le (fire_r h hi t e) (Nat.add_le_add_left m _)
/-- something is ready at t -/
theorem ready_rdy {l : List Int} (hs : l.Pairwise (· ≤ ·)) (t : Nat) : (l.filter fun x => decide (x ≤ (t : Int))).isEmpty = !rdy (l.map fun x => pos (x - (t : Int))) := by
  cases l with
  | nil => rfl
  | cons a l =>
    have hp := (List.pairwise_cons.mp hs).1
    show _ = !decide (pos (a - (t : Int)) = 0)
    by_cases g : a ≤ (t : Int)
    · rw [List.filter_cons, if_pos (decide_eq_true g), decide_eq_true (by unfold pos; rw [if_neg (by omega)])]
      rfl
    · have e : (l.filter fun x => decide (x ≤ (t : Int))) = [] := by
        rw [List.filter_eq_nil_iff]
        intro x hx
        have := hp x hx
        rw [decide_eq_false (by omega)]
        exact Bool.false_ne_true
      rw [List.filter_cons, if_neg (by rw [decide_eq_false g]; exact Bool.false_ne_true), e, decide_eq_false (by unfold pos; rw [if_pos (by omega)]; omega)]
      rfl
theorem hrow_zero (h : OkCF c f) (i : Nat) : hrow c f 0 i = List.replicate (Fl f i) 0 := by
  unfold hrow arow rowT
  show (List.replicate _ (0 : Int) ++ []).drop 0 = _
  rw [List.append_nil, List.drop_zero]
theorem grow_zero (h : OkCF c f) (i : Nat) : grow c f 0 i = List.replicate (Gl c f i) 0 := by
  unfold grow arow rowT
  show (List.replicate _ (0 : Int) ++ []).drop 0 = _
  rw [List.append_nil, List.drop_zero]
theorem hrow_len (h : OkCF c f) {i : Nat} (hi : i < c.length) (t : Nat) : (hrow c f t i).length = (shape c f t i).1.length := by rw [← hrow_shape h hi, List.length_map]
theorem grow_len (h : OkCF c f) {i : Nat} (hi : i < c.length) (t : Nat) : (grow c f t i).length = (shape c f t i).2.length := by rw [← grow_shape h hi, List.length_map]
theorem at_run (h : OkCF c f) {i : Nat} (hi : i < c.length) (t : Nat) : at' (runL c f t) i = shape c f t i := by rw [(run_ok h t).1, at_map hi]
theorem givers_fire (h : OkCF c f) (t : Nat) : giversL (runL c f t) = (List.range c.length).filter fun i => fire c f i t := by
  unfold giversL
  rw [len_run]
  refine List.filter_congr fun i hi => ?_
  have hi' := List.mem_range.mp hi
  have hs := su_lt (n := c.length) (i := i) h.n0
  rw [at_run h hi', at_run h hs]
  unfold shape
  rw [queue_rdy, queue_rdy, pr_su hi', fire_may h hi']
  rfl
end
end Hr
namespace Hr
open Pd
/-- a small circle -/
structure Sm3 (c : Ppl) : Prop where
  n3 : c.length ≤ 3
  c4 : ∀ i, i < c.length → Cy c i ≤ 4 ∧ Bk c i ≤ 4
  h2 : ∀ i, i < c.length → Hd c i ≤ 2
section
variable {c : Ppl} {f : List Int}
theorem Sm3.sm (k : Sm3 c) : Sm c := ⟨by have := k.n3; omega, fun i hi => by have := k.c4 i hi; omega, fun i hi => by have := k.h2 i hi; omega⟩
/-- T: from there on nobody gains more than P in Q beats -/
structure Gain3 (c : Ppl) (f : List Int) (q p j P Q T : Nat) : Prop where
  hj : j < c.length
  eq : (p : Int) * (Q : Int) = (q : Int) * (P : Int)
  cr : ∀ u, N c f j u ≤ P + N c f j (u - Q)
  q1 : 1 ≤ Q
  pb : P ≤ 6
  qb : Q ≤ 48
  le : ∀ t, T ≤ t → ∀ i, i < c.length → N c f i (t + Q) ≤ N c f i t + P
theorem bounds3 (h : OkCF c f) (k : Sm3 c) : PF f c.length + PG c f c.length ≤ 6 ∧ PC c c.length ≤ 12 ∧ PB c c.length ≤ 12 ∧ 1 ≤ PC c c.length ∧ 1 ≤ PB c c.length := by
  have n3 := k.n3
  have a := sm_add h c.length (Nat.le_refl _)
  have b := sm_le_mul (g := Hd c) (Z := 2) (m := c.length) k.h2
  have d := sm_le_mul (g := Cy c) (Z := 4) (m := c.length) fun i hi => (k.c4 i hi).1
  have e := sm_le_mul (g := Bk c) (Z := 4) (m := c.length) fun i hi => (k.c4 i hi).2
  have d1 := pos_sm (g := Cy c) h.n0 fun i hi => (h.c1 hi).1
  have e1 := pos_sm (g := Bk c) h.n0 fun i hi => (h.b1 hi).1
  refine ⟨by omega, ?_, ?_, d1, e1⟩
  · show sm (Cy c) c.length ≤ 12; omega
  · show sm (Bk c) c.length ≤ 12; omega
theorem slope_ex3 (h : OkCF c f) (k : Sm3 c) (hH1 : ∀ i, i < c.length → 1 ≤ Hd c i) (hF : 0 < PF f c.length) (hG : 0 < PG c f c.length) : ∃ q p, SlopeOf c f q p ∧ ∃ j P Q, Gain3 c f q p j P Q 62217 := by
  have n0 := h.n0
  obtain ⟨bH, bC, bB, bC1, bB1⟩ := bounds3 h k
  have q0 : ∀ a, a < c.length + 3 → 0 < qf c a := fun a ha => by
    unfold qf
    split
    · exact Nat.one_pos
    · split
      · omega
      · split
        · omega
        · have := (h.c1 (i := a - 3) (by omega)).1
          omega
  have p0 : ∀ a, a < c.length + 3 → 0 < pf c f a := fun a ha => by
    unfold pf
    split
    · exact Nat.one_pos
    · split
      · omega
      · split
        · omega
        · exact hH1 _ (by omega)
  obtain ⟨a, ha, l⟩ := least_ratio (qf c) (pf c f) (c.length + 3) (by omega) q0
  have l' : ∀ b, b < c.length + 3 → ((pf c f a : Nat) : Int) * ((qf c b : Nat) : Int) ≤ ((qf c a : Nat) : Int) * ((pf c f b : Nat) : Int) := fun b hb => by
    have := l b hb
    rw [Nat.mul_comm (pf c f b)] at this
    rw [← Int.natCast_mul, ← Int.natCast_mul]
    omega
  have S : Slope c f (qf c a) (pf c f a) := by
    refine ⟨by have := q0 a ha; omega, by have := p0 a ha; omega, ?_, fun i hi => ?_, ?_, ?_⟩
    · have := l' 0 (by omega)
      have e1 : qf c 0 = 1 := rfl
      have e2 : pf c f 0 = 1 := rfl
      rw [e1, e2] at this
      simpa using this
    · have := l' (i + 3) (by omega)
      have e1 : qf c (i + 3) = Cy c i + Bk c i := by
        unfold qf
        rw [if_neg (by omega), if_neg (by omega), if_neg (by omega)]
        rfl
      have e2 : pf c f (i + 3) = Hd c i := by
        unfold pf
        rw [if_neg (by omega), if_neg (by omega), if_neg (by omega)]
        rfl
      rw [e1, e2, Int.natCast_add] at this
      exact this
    · exact l' 1 (by omega)
    · exact l' 2 (by omega)
  refine ⟨qf c a, pf c f a, ⟨S, a, ha, rfl, rfl⟩, ?_⟩
  have all : ∀ {P Q : Nat}, (∀ i, i < c.length → ∀ u, N c f i u ≤ P + N c f i (u - Q)) → ∀ t, 62217 ≤ t → ∀ i, i < c.length → N c f i (t + Q) ≤ N c f i t + P := fun {P Q} cr t _ i hi => by
    have := cr i hi (t + Q)
    rw [Nat.add_sub_cancel] at this
    omega
  by_cases g1 : pf c f a * PC c c.length = qf c a * PF f c.length
  · refine ⟨0, PF f c.length, PC c c.length, n0, ?_, fun u => fwd_loop h n0 u, bC1, by omega, by omega, all fun i hi u => fwd_loop h hi u⟩
    rw [← Int.natCast_mul, ← Int.natCast_mul, g1]
  by_cases g2 : pf c f a * PB c c.length = qf c a * PG c f c.length
  · refine ⟨0, PG c f c.length, PB c c.length, n0, ?_, fun u => bwd_loop h n0 u, bB1, by omega, by omega, all fun i hi u => bwd_loop h hi u⟩
    rw [← Int.natCast_mul, ← Int.natCast_mul, g2]
  by_cases g3 : pf c f a = qf c a
  · refine ⟨0, 1, 1, n0, by rw [g3], fun u => one_l _ u, by omega, by omega, by omega, all fun i hi u => one_l _ u⟩
  have sA0 : 0 < sA c f (qf c a) (pf c f a) := by
    have := S.fw
    unfold sA
    rw [← Int.natCast_mul, ← Int.natCast_mul] at this ⊢
    omega
  have sB0 : 0 < sB c f (qf c a) (pf c f a) := by
    have := S.bw
    unfold sB
    rw [← Int.natCast_mul, ← Int.natCast_mul] at this ⊢
    omega
  have hlt : ((pf c f a : Nat) : Int) < ((qf c a : Nat) : Int) := by
    have := S.one
    omega
  -- a pair is the slowest
  obtain ⟨i0, hi0, eq, ep⟩ : ∃ i, i < c.length ∧ qf c a = Cy c i + Bk c i ∧ pf c f a = Hd c i := by
    have a0 : a ≠ 0 := fun z => by subst z; exact g3 rfl
    have a1 : a ≠ 1 := fun z => by subst z; exact g1 (Nat.mul_comm _ _)
    have a2 : a ≠ 2 := fun z => by subst z; exact g2 (Nat.mul_comm _ _)
    refine ⟨a - 3, by omega, ?_, ?_⟩
    · unfold qf
      rw [if_neg a0, if_neg a1, if_neg a2]
    · unfold pf
      rw [if_neg a0, if_neg a1, if_neg a2]
  have hz : ee c (qf c a) (pf c f a) i0 = 0 := by
    unfold ee
    rw [eq, ep, Int.natCast_add, Int.mul_comm]
    omega
  obtain ⟨m, hm⟩ : ∃ m, m * Hd c i0 = 6 := by
    have h1 := hH1 i0 hi0
    have h2 := k.sm.h3 i0 hi0
    have : Hd c i0 = 1 ∨ Hd c i0 = 2 ∨ Hd c i0 = 3 := by omega
    rcases this with e | e | e <;> rw [e]
    · exact ⟨6, rfl⟩
    · exact ⟨3, rfl⟩
    · exact ⟨2, rfl⟩
  have m6 : m ≤ 6 := by
    have h1 := hH1 i0 hi0
    have := Nat.mul_le_mul_left m h1
    omega
  have m1 : 1 ≤ m := by
    by_cases z : m = 0
    · subst z; omega
    · omega
  obtain ⟨c9, b9⟩ := k.c4 i0 hi0
  have c1 := (h.c1 hi0).1
  have hQ : ((pf c f a : Nat) : Int) * ((m * (Cy c i0 + Bk c i0) : Nat) : Int) = ((qf c a : Nat) : Int) * ((6 : Nat) : Int) := by
    rw [← Int.natCast_mul, ← Int.natCast_mul, eq, ep, ← hm]
    congr 1
    rw [← Nat.mul_assoc, Nat.mul_comm (Hd c i0) m, Nat.mul_comm]
  have Q1 : 1 ≤ m * (Cy c i0 + Bk c i0) := by
    have := Nat.mul_le_mul m1 (show 1 ≤ Cy c i0 + Bk c i0 by omega)
    omega
  have Qb : m * (Cy c i0 + Bk c i0) ≤ 48 := by
    have := Nat.mul_le_mul m6 (show Cy c i0 + Bk c i0 ≤ 8 by omega)
    omega
  refine ⟨i0, 6, m * (Cy c i0 + Bk c i0), hi0, hQ, (pair_crit h S hi0 (k.sm.h3 _ hi0) hz hQ).1, Q1, by omega, Qb, ?_⟩
  have hK : (sA c f (qf c a) (pf c f a) + sB c f (qf c a) (pf c f a)) * (((qf c a : Nat) : Int) * (6 + 2 * (PF f c.length : Nat) + (PG c f c.length : Nat))) ≤ ((6912 : Nat) : Int) := by
    have q18 : qf c a ≤ 8 := by omega
    have s1 : sA c f (qf c a) (pf c f a) + sB c f (qf c a) (pf c f a) ≤ 48 := by
      have u1 := mul_nn (a := ((pf c f a : Nat) : Int)) (b := ((PC c c.length : Nat) : Int)) (by omega) (by omega)
      have u2 := mul_nn (a := ((pf c f a : Nat) : Int)) (b := ((PB c c.length : Nat) : Int)) (by omega) (by omega)
      have u3 : qf c a * (PF f c.length + PG c f c.length) ≤ 8 * 6 := Nat.mul_le_mul q18 bH
      rw [Nat.mul_add] at u3
      unfold sA sB
      rw [← Int.natCast_mul] at u1 u2
      rw [← Int.natCast_mul, ← Int.natCast_mul, ← Int.natCast_mul, ← Int.natCast_mul]
      omega
    have s2 : ((qf c a : Nat) : Int) * (6 + 2 * (PF f c.length : Nat) + (PG c f c.length : Nat)) ≤ 144 := by
      have : qf c a * (6 + 2 * PF f c.length + PG c f c.length) ≤ 8 * 18 := Nat.mul_le_mul q18 (by omega)
      have e : ((qf c a : Nat) : Int) * (6 + 2 * (PF f c.length : Nat) + (PG c f c.length : Nat)) = ((qf c a * (6 + 2 * PF f c.length + PG c f c.length) : Nat) : Int) := by
        rw [Int.natCast_mul]
        congr 1
      rw [e]
      omega
    have s3 := mul_nn (a := ((qf c a : Nat) : Int)) (b := 6 + 2 * ((PF f c.length : Nat) : Int) + (PG c f c.length : Nat)) (by omega) (by omega)
    have := Int.mul_le_mul s1 s2 s3 (by omega)
    omega
  have ng := no_gain h S sA0 sB0 hlt k.sm.c9 k.sm.h3 hQ Q1 hi0 hz (K := 6912) hK
  exact fun t ht i hi => ng t (by omega) i hi
theorem comes_again3 (h : OkCF c f) (k : Sm3 c) (hH1 : ∀ i, i < c.length → 1 ≤ Hd c i) : ∃ τ Q, 1 ≤ Q ∧ τ + Q ≤ 100000 ∧ runL c f (τ + Q) = runL c f τ := by
  have n3 := k.n3
  by_cases g : 0 < PF f c.length ∧ 0 < PG c f c.length
  · obtain ⟨q, p, so, j, P, Q, G⟩ := slope_ex3 h k hH1 g.1 g.2
    obtain ⟨bH, _⟩ := bounds3 h k
    obtain ⟨m, hm, e⟩ := again_from h so.S G.hj G.eq G.cr G.q1 G.le
    have q1 := G.q1
    have qb := G.qb
    have pb := G.pb
    have m1 : m ≤ 486 := by
      have : c.length * 9 * (P + 2 * PF f c.length + PG c f c.length) ≤ 27 * 18 := Nat.mul_le_mul (by omega) (by omega)
      omega
    have m2 : m * Q ≤ 486 * 48 := Nat.mul_le_mul m1 qb
    refine ⟨62217 + m * Q + 8, Q, q1, by omega, ?_⟩
    refine stand_eq h k.sm.c9 (P := P) (by omega) fun i hi x h1 h2 => ?_
    have := e i hi (x - (62217 + m * Q)) (by omega)
    rw [show 62217 + m * Q + (x - (62217 + m * Q)) = x by omega] at this
    exact this
  · have z := none_moves h (by omega)
    refine ⟨8, 1, by omega, by omega, stand_eq h k.sm.c9 (P := 0) (by omega) fun i hi x _ _ => ?_⟩
    rw [z _ i hi, z _ i hi]
theorem walk_ex3 (h : OkCF c f) (k : Sm3 c) (hH1 : ∀ i, i < c.length → 1 ≤ Hd c i) : ∃ m l, l < m ∧ m ≤ 100000 ∧ runL c f m = runL c f l ∧ ∀ a b, a < b → b < m → runL c f a ≠ runL c f b := by
  obtain ⟨τ, Q, q1, bd, e⟩ := comes_again3 h k hH1
  have key : ∀ t, (∃ m l, l < m ∧ m ≤ t ∧ runL c f m = runL c f l ∧ ∀ a b, a < b → b < m → runL c f a ≠ runL c f b) ∨ ∀ a b, a < b → b ≤ t → runL c f a ≠ runL c f b := by
    intro t
    induction t with
    | zero => exact .inr fun a b ha hb => by omega
    | succ t ih =>
      rcases ih with ⟨m, l, h1, h2, h3⟩ | no
      · exact .inl ⟨m, l, h1, by omega, h3⟩
      · by_cases g : ∃ l, l < t + 1 ∧ runL c f (t + 1) = runL c f l
        · obtain ⟨l, h1, h2⟩ := g
          exact .inl ⟨t + 1, l, h1, Nat.le_refl _, h2, fun a b ha hb => no a b ha (by omega)⟩
        · refine .inr fun a b ha hb z => ?_
          by_cases q : b = t + 1
          · subst q
            exact g ⟨a, ha, z.symm⟩
          · exact no a b ha (by omega) z
  rcases key (τ + Q) with ⟨m, l, h1, h2, h3⟩ | no
  · exact ⟨m, l, h1, by omega, h3⟩
  · exact absurd e.symm (no τ (τ + Q) (by omega) (Nat.le_refl _))
end
end Hr
namespace Hr
open Pd
/-! ### leads of standings -/
def itL (c : Ppl) (s : Stg) : Nat → Stg
  | 0 => s
  | n + 1 => stepL c (itL c s n)
def Per (c : Ppl) (s : Stg) : Prop := ∃ p, 0 < p ∧ itL c s p = s
def Ld (c : Ppl) (s : Stg) (n : Nat) : Prop := Per c (itL c s n) ∧ ∀ k, k < n → ¬ Per c (itL c s k)
theorem Ld.uniq {c : Ppl} {s : Stg} {n m : Nat} (a : Ld c s n) (b : Ld c s m) : n = m := by
  by_cases h : n < m
  · exact absurd a.1 (b.2 n h)
  · by_cases g : m < n
    · exact absurd b.1 (a.2 m g)
    · omega
theorem it_run (c : Ppl) (f : List Int) (u : Nat) : ∀ k, itL c (runL c f u) k = runL c f (u + k)
  | 0 => rfl
  | k + 1 => by
    show stepL c (itL c (runL c f u) k) = stepL c (runL c f (u + k))
    rw [it_run c f u k]
theorem per_run {c : Ppl} {f : List Int} {u : Nat} : Per c (runL c f u) ↔ ∃ p, 0 < p ∧ runL c f (u + p) = runL c f u := by
  unfold Per
  refine ⟨fun ⟨p, h, e⟩ => ⟨p, h, by rw [← it_run]; exact e⟩, fun ⟨p, h, e⟩ => ⟨p, h, by rw [it_run]; exact e⟩⟩
theorem per_many {c : Ppl} {f : List Int} {u p : Nat} (e : runL c f (u + p) = runL c f u) : ∀ k, runL c f (u + k * p) = runL c f u
  | 0 => by rw [Nat.zero_mul]; rfl
  | k + 1 => by
    have a := run_shift e (k * p)
    rw [show u + (k + 1) * p = u + p + k * p by rw [Nat.succ_mul]; omega, a, per_many e k]
theorem per_after {c : Ppl} {f : List Int} {m l u : Nat} (hl : l < m) (e : runL c f m = runL c f l) (hu : l ≤ u) : Per c (runL c f u) := by
  refine per_run.mpr ⟨m - l, by omega, ?_⟩
  have := run_shift e (u - l)
  rwa [show m + (u - l) = u + (m - l) by omega, show l + (u - l) = u by omega] at this
theorem per_before {c : Ppl} {f : List Int} {m l u : Nat} (hl : l < m) (e : runL c f m = runL c f l) (dis : ∀ a b, a < b → b < m → runL c f a ≠ runL c f b) (hu : u < l) : ¬ Per c (runL c f u) := by
  intro z
  obtain ⟨p, p0, ep⟩ := per_run.mp z
  have k := per_many ep m
  have big : l ≤ u + m * p := by have := Nat.mul_le_mul_left m p0; omega
  -- runL (u + m p) lies on the circle
  have e' : runL c f (l + (m - l)) = runL c f l := by rwa [show l + (m - l) = m by omega]
  have q := per_many e' ((u + m * p - l) / (m - l))
  have sh := run_shift q ((u + m * p - l) % (m - l))
  have dm := Nat.div_add_mod (u + m * p - l) (m - l)
  have lt := Nat.mod_lt (u + m * p - l) (show 0 < m - l by omega)
  rw [Nat.mul_comm] at dm
  rw [show l + (u + m * p - l) / (m - l) * (m - l) + (u + m * p - l) % (m - l) = u + m * p by omega, k] at sh
  exact dis u (l + (u + m * p - l) % (m - l)) (by omega) (by omega) sh
/-- the first coming again is one -/
theorem again_uniq {c : Ppl} {f : List Int} {m l m' l' : Nat} (hl : l < m) (e : runL c f m = runL c f l) (dis : ∀ a b, a < b → b < m → runL c f a ≠ runL c f b)
    (hl' : l' < m') (e' : runL c f m' = runL c f l') (dis' : ∀ a b, a < b → b < m' → runL c f a ≠ runL c f b) : m = m' ∧ l = l' := by
  have hm : m = m' := by
    by_cases g : m < m'
    · exact absurd e.symm (dis' l m hl g)
    · by_cases g' : m' < m
      · exact absurd e'.symm (dis l' m' hl' g')
      · omega
  subst hm
  refine ⟨rfl, ?_⟩
  have q : runL c f l = runL c f l' := e.symm.trans e'
  by_cases g : l < l'
  · exact absurd q (dis l l' g hl')
  · by_cases g' : l' < l
    · exact absurd q.symm (dis l' l g' hl)
    · omega
theorem ld_run {c : Ppl} {f : List Int} {m l u : Nat} (hl : l < m) (e : runL c f m = runL c f l) (dis : ∀ a b, a < b → b < m → runL c f a ≠ runL c f b) : Ld c (runL c f u) (l - u) := by
  refine ⟨?_, fun k hk => ?_⟩
  · rw [it_run]
    exact per_after hl e (by omega)
  · rw [it_run]
    exact per_before hl e dis (by omega)
/-- back from a standing whose lead is known -/
theorem ld_back {c : Ppl} {f : List Int} {j n : Nat} (h : Ld c (runL c f j) n) (no : ∀ u, u < j → ¬ Per c (runL c f u)) {u : Nat} (hu : u ≤ j) : Ld c (runL c f u) (n + (j - u)) := by
  refine ⟨?_, fun k hk => ?_⟩
  · have := h.1
    rw [it_run] at this ⊢
    rwa [show u + (n + (j - u)) = j + n by omega]
  · rw [it_run]
    by_cases g : u + k < j
    · exact no _ g
    · have := h.2 (u + k - j) (by omega)
      rwa [it_run, show j + (u + k - j) = u + k by omega] at this
theorem closed_run {c : Ppl} {f : List Int} {H : Stg → Prop} (cl : ∀ s, H s → H (stepL c s)) {j : Nat} (hj : H (runL c f j)) : ∀ k, H (runL c f (j + k))
  | 0 => hj
  | k + 1 => cl _ (closed_run cl hj k)
theorem not_per {c : Ppl} {f : List Int} {H : Stg → Prop} (cl : ∀ s, H s → H (stepL c s)) {j : Nat} (hj : H (runL c f j)) (no : ∀ u, u < j → ¬ H (runL c f u)) : ∀ u, u < j → ¬ Per c (runL c f u) := by
  intro u hu z
  obtain ⟨p, p0, e⟩ := per_run.mp z
  have k := per_many e j
  have big : j ≤ u + j * p := by have := Nat.mul_le_mul_left j p0; omega
  have r := closed_run cl hj (u + j * p - j)
  rw [show j + (u + j * p - j) = u + j * p by omega, k] at r
  exact no u hu r
end Hr
namespace Lw
noncomputable section
open PySem PySem.Spec PyProof.Rows L2 Pd
abbrev prg : Program := PySem.Challenge.pw_handedround_k21_leads_and_periods
def top (i : Nat) : Stmt := prg.main.body.getD i (.Pass ⟨0, 0, 0, 0⟩)
def sfs : List Sf := [.blt "all", .blt "bool", .blt "enumerate", .blt "int", .blt "isinstance", .blt "len", .blt "list", .blt "max", .blt "min", .blt "range", .blt "sorted", .blt "sum", .blt "tuple", .blt "zip", .int "MOST_PEOPLE" 12, .int "MOST_FILLINGS" 300, .int "MOST_NUMBER" 1000000000000000000000000000000, .val "HandError", .exc "InvalidCircle", .val "InvalidPlan", .exc "InvalidFilling", .val "InvalidIndex", .exc "InvalidNumber", .val "InvalidSeen", .val "NotReady", .val "NothingToUndo", .val "TooMany", .val "InvalidText"]
def G0 : List (Str × GD) := sfs.map fun s => (s.name, s.gd)
abbrev dfn (x : Str) (st : Stmt) : He.DefD := ⟨(x, none), x, x, defArgs st, defBody st, defScope st, [], []⟩
def goodX : List Str := ["InvalidCircle", "InvalidFilling", "InvalidNumber"]
def allX : List Str := ["InvalidCircle", "InvalidPlan", "InvalidFilling", "InvalidIndex", "InvalidNumber", "InvalidSeen", "NotReady", "NothingToUndo", "TooMany", "InvalidText"]
def isx (x y : Str) : Option Bool := isxT goodX allX x y
abbrev s_is_within : Stmt := top 15
abbrev N_is_within : List Str := ["value", "low", "high"]
theorem sc_is_within : FnScope N_is_within ["value", "low", "high"] (defScope s_is_within) := ⟨rfl, rfl, rfl, by decide +kernel, rfl, by decide +kernel, by decide +kernel⟩
def d_is_within : DS := sSeq (sRet (dAnd (dBlt oIsi (aCons (dVar 0) (aCons (dC (.ty "int")) aNil))) (dAnd (dNot (dBlt oIsi (aCons (dVar 0) (aCons (dC (.ty "bool")) aNil)))) (dCh oLe oLe (dVar 1) (dVar 0) (dVar 2))))) (sNil)
def f_is_within : List D → Mem → Res D := fnOf 3 d_is_within
theorem k_is_within : (cp 60).Ss ⟨N_is_within, defScope s_is_within, fun _ => true, false, 0, 0, 0, "", fun _ _ => none, G0⟩ (defBody s_is_within) = d_is_within := by kernel_rfl
def G1 : List (Str × GD) := ("is_within", .fn 3 f_is_within) :: G0
abbrev s_is_right_person : Stmt := top 16
abbrev N_is_right_person : List Str := ["value"]
theorem sc_is_right_person : FnScope N_is_right_person ["value"] (defScope s_is_right_person) := ⟨rfl, rfl, rfl, by decide +kernel, rfl, by decide +kernel, by decide +kernel⟩
def d_is_right_person : DS := sSeq (sIf (tOr (tNot (tV (dBlt oIsi (aCons (dVar 0) (aCons (dC (.ty "tuple")) aNil))))) (tV (dBin oNe (dBlt oLen (aCons (dVar 0) aNil)) (dC (.int 3))))) (sSeq (sRet (dC (.bl false))) (sNil)) (sNil)) (sSeq (sRet (dAnd (dCall f_is_within 3 (aCons (dBin oIx (dVar 0) (dC (.int 0))) (aCons (dC (.int 1)) (aCons (dC (.int 9)) aNil)))) (dAnd (dCall f_is_within 3 (aCons (dBin oIx (dVar 0) (dC (.int 1))) (aCons (dC (.int 1)) (aCons (dC (.int 9)) aNil)))) (dCall f_is_within 3 (aCons (dBin oIx (dVar 0) (dC (.int 2))) (aCons (dC (.int 1)) (aCons (dC (.int 3)) aNil))))))) (sNil))
def f_is_right_person : List D → Mem → Res D := fnOf 1 d_is_right_person
theorem k_is_right_person : (cp 60).Ss ⟨N_is_right_person, defScope s_is_right_person, fun _ => true, false, 1, 0, 0, "", fun _ _ => none, G1⟩ (defBody s_is_right_person) = d_is_right_person := by kernel_rfl
def G2 : List (Str × GD) := ("is_right_person", .fn 1 f_is_right_person) :: G1
abbrev s_are_people : Stmt := top 17
abbrev N_are_people : List Str := ["value", "low", "high", "person"]
theorem sc_are_people : FnScope N_are_people ["value", "low", "high"] (defScope s_are_people) := ⟨rfl, rfl, rfl, by decide +kernel, rfl, by decide +kernel, by decide +kernel⟩
def d_are_people : DS := sSeq (sIf (tOr (tNot (tV (dBlt oIsi (aCons (dVar 0) (aCons (dC (.ty "tuple")) aNil))))) (tNot (tV (dCh oLe oLe (dVar 1) (dBlt oLen (aCons (dVar 0) aNil)) (dVar 2))))) (sSeq (sRet (dC (.bl false))) (sNil)) (sNil)) (sSeq (sRet (dBlt oAll (aCons (dLc [3] (dSeqSrc (dVar 0)) (gNm 3) (tTrue) (dCall f_is_right_person 1 (aCons (dVar 3) aNil))) aNil))) (sNil))
def f_are_people : List D → Mem → Res D := fnOf 4 d_are_people
theorem k_are_people : (cp 60).Ss ⟨N_are_people, defScope s_are_people, fun _ => true, false, 2, 0, 0, "", fun _ _ => none, G2⟩ (defBody s_are_people) = d_are_people := by kernel_rfl
def G3 : List (Str × GD) := ("are_people", .fn 3 f_are_people) :: G2
abbrev s_is_right_circle : Stmt := top 18
abbrev N_is_right_circle : List Str := ["value"]
theorem sc_is_right_circle : FnScope N_is_right_circle ["value"] (defScope s_is_right_circle) := ⟨rfl, rfl, rfl, by decide +kernel, rfl, by decide +kernel, by decide +kernel⟩
def d_is_right_circle : DS := sSeq (sRet (dCall f_are_people 3 (aCons (dVar 0) (aCons (dC (.int 2)) (aCons (dC (.int 12)) aNil))))) (sNil)
def f_is_right_circle : List D → Mem → Res D := fnOf 1 d_is_right_circle
theorem k_is_right_circle : (cp 60).Ss ⟨N_is_right_circle, defScope s_is_right_circle, fun _ => true, false, 3, 0, 0, "", fun _ _ => none, G3⟩ (defBody s_is_right_circle) = d_is_right_circle := by kernel_rfl
def G4 : List (Str × GD) := ("is_right_circle", .fn 1 f_is_right_circle) :: G3
abbrev s_is_right_filling : Stmt := top 19
abbrev N_is_right_filling : List Str := ["circle", "value", "held", "person"]
theorem sc_is_right_filling : FnScope N_is_right_filling ["circle", "value"] (defScope s_is_right_filling) := ⟨rfl, rfl, rfl, by decide +kernel, rfl, by decide +kernel, by decide +kernel⟩
def d_is_right_filling : DS := sSeq (sIf (tOr (tNot (tV (dBlt oIsi (aCons (dVar 1) (aCons (dC (.ty "tuple")) aNil))))) (tV (dBin oNe (dBlt oLen (aCons (dVar 1) aNil)) (dBlt oLen (aCons (dVar 0) aNil))))) (sSeq (sRet (dC (.bl false))) (sNil)) (sNil)) (sSeq (sRet (dBlt oAll (aCons (dLc [2, 3] (dZip (aCons (dVar 1) (aCons (dVar 0) aNil))) (gTp 2 (gsCons (gNm 2) (gsCons (gNm 3) gsNil))) (tTrue) (dCall f_is_within 3 (aCons (dVar 2) (aCons (dC (.int 0)) (aCons (dBin oIx (dVar 3) (dC (.int 2))) aNil))))) aNil))) (sNil))
def f_is_right_filling : List D → Mem → Res D := fnOf 4 d_is_right_filling
theorem k_is_right_filling : (cp 60).Ss ⟨N_is_right_filling, defScope s_is_right_filling, fun _ => true, false, 4, 0, 0, "", fun _ _ => none, G4⟩ (defBody s_is_right_filling) = d_is_right_filling := by kernel_rfl
def G5 : List (Str × GD) := ("is_right_filling", .fn 2 f_is_right_filling) :: G4
abbrev s_need_circle : Stmt := top 20
abbrev N_need_circle : List Str := ["value"]
theorem sc_need_circle : FnScope N_need_circle ["value"] (defScope s_need_circle) := ⟨rfl, rfl, rfl, by decide +kernel, rfl, by decide +kernel, by decide +kernel⟩
def d_need_circle : DS := sSeq (sIf (tNot (tV (dCall f_is_right_circle 1 (aCons (dVar 0) aNil)))) (sSeq ((fun δ M => .exc ⟨"InvalidCircle", []⟩ δ M)) (sNil)) (sNil)) (sNil)
def f_need_circle : List D → Mem → Res D := fnOf 1 d_need_circle
theorem k_need_circle : (cp 60).Ss ⟨N_need_circle, defScope s_need_circle, fun _ => true, false, 5, 0, 0, "", fun _ _ => none, G5⟩ (defBody s_need_circle) = d_need_circle := by kernel_rfl
def G6 : List (Str × GD) := ("need_circle", .fn 1 f_need_circle) :: G5
abbrev s_need_filling : Stmt := top 21
abbrev N_need_filling : List Str := ["circle", "value"]
theorem sc_need_filling : FnScope N_need_filling ["circle", "value"] (defScope s_need_filling) := ⟨rfl, rfl, rfl, by decide +kernel, rfl, by decide +kernel, by decide +kernel⟩
def d_need_filling : DS := sSeq (sIf (tNot (tV (dCall f_is_right_filling 2 (aCons (dVar 0) (aCons (dVar 1) aNil))))) (sSeq ((fun δ M => .exc ⟨"InvalidFilling", []⟩ δ M)) (sNil)) (sNil)) (sNil)
def f_need_filling : List D → Mem → Res D := fnOf 2 d_need_filling
theorem k_need_filling : (cp 60).Ss ⟨N_need_filling, defScope s_need_filling, fun _ => true, false, 6, 0, 0, "", fun _ _ => none, G6⟩ (defBody s_need_filling) = d_need_filling := by kernel_rfl
def G7 : List (Str × GD) := ("need_filling", .fn 2 f_need_filling) :: G6
abbrev s_need_number : Stmt := top 22
abbrev N_need_number : List Str := ["value", "low", "high"]
theorem sc_need_number : FnScope N_need_number ["value", "low", "high"] (defScope s_need_number) := ⟨rfl, rfl, rfl, by decide +kernel, rfl, by decide +kernel, by decide +kernel⟩
def d_need_number : DS := sSeq (sIf (tNot (tV (dCall f_is_within 3 (aCons (dVar 0) (aCons (dVar 1) (aCons (dVar 2) aNil)))))) (sSeq ((fun δ M => .exc ⟨"InvalidNumber", []⟩ δ M)) (sNil)) (sNil)) (sNil)
def f_need_number : List D → Mem → Res D := fnOf 3 d_need_number
theorem k_need_number : (cp 60).Ss ⟨N_need_number, defScope s_need_number, fun _ => true, false, 7, 0, 0, "", fun _ _ => none, G7⟩ (defBody s_need_number) = d_need_number := by kernel_rfl
def G8 : List (Str × GD) := ("need_number", .fn 3 f_need_number) :: G7
abbrev s_first_standing : Stmt := top 24
abbrev N_first_standing : List Str := ["circle", "filling", "found", "person", "held"]
theorem sc_first_standing : FnScope N_first_standing ["circle", "filling"] (defScope s_first_standing) := ⟨rfl, rfl, rfl, by decide +kernel, rfl, by decide +kernel, by decide +kernel⟩
def d_first_standing : DS := sSeq (sAsg (dLst (aNil)) (gNm 2)) (sSeq (sFor (dZip (aCons (dVar 0) (aCons (dVar 1) aNil))) (gTp 2 (gsCons (gNm 3) (gsCons (gNm 4) gsNil))) (sSeq (sDrop (dMt isLst oApp (dVar 2) (aCons (dTup (aCons (dBin oMul (dTup (aCons (dC (.int 0)) aNil)) (dVar 4)) (aCons (dBin oMul (dTup (aCons (dC (.int 0)) aNil)) (dBin oSub (dBin oIx (dVar 3) (dC (.int 2))) (dVar 4))) aNil))) aNil))) (sNil))) (sSeq (sRet (dBlt oToTup (aCons (dVar 2) aNil))) (sNil)))
def f_first_standing : List D → Mem → Res D := fnOf 5 d_first_standing
theorem k_first_standing : (cp 60).Ss ⟨N_first_standing, defScope s_first_standing, fun _ => true, false, 8, 0, 0, "", fun _ _ => none, G8⟩ (defBody s_first_standing) = d_first_standing := by kernel_rfl
def G9 : List (Str × GD) := ("first_standing", .fn 2 f_first_standing) :: G8
abbrev s_givers_of : Stmt := top 25
abbrev N_givers_of : List Str := ["standing", "found", "index", "held", "free"]
theorem sc_givers_of : FnScope N_givers_of ["standing"] (defScope s_givers_of) := ⟨rfl, rfl, rfl, by decide +kernel, rfl, by decide +kernel, by decide +kernel⟩
def d_givers_of : DS := sSeq (sAsg (dLst (aNil)) (gNm 1)) (sSeq (sFor (dRng1 (aCons (dBlt oLen (aCons (dVar 0) aNil)) aNil)) (gNm 2) (sSeq (sPar [3, 4] (aCons (dBin oIx (dBin oIx (dVar 0) (dVar 2)) (dC (.int 0))) (aCons (dBin oIx (dBin oIx (dVar 0) (dBin oMod (dBin oAdd (dVar 2) (dC (.int 1))) (dBlt oLen (aCons (dVar 0) aNil)))) (dC (.int 1))) aNil))) (sSeq (sIf (tAnd (tV (dBin oEq (dSl (dVar 3) dNoP (dPart (dC (.int 1)))) (dTup (aCons (dC (.int 0)) aNil)))) (tV (dBin oEq (dSl (dVar 4) dNoP (dPart (dC (.int 1)))) (dTup (aCons (dC (.int 0)) aNil))))) (sSeq (sDrop (dMt isLst oApp (dVar 1) (aCons (dVar 2) aNil))) (sNil)) (sNil)) (sNil)))) (sSeq (sRet (dBlt oToTup (aCons (dVar 1) aNil))) (sNil)))
def f_givers_of : List D → Mem → Res D := fnOf 5 d_givers_of
theorem k_givers_of : (cp 60).Ss ⟨N_givers_of, defScope s_givers_of, fun _ => true, false, 9, 0, 0, "", fun _ _ => none, G9⟩ (defBody s_givers_of) = d_givers_of := by kernel_rfl
def G10 : List (Str × GD) := ("givers_of", .fn 1 f_givers_of) :: G9
abbrev s_later : Stmt := top 26
abbrev N_later : List Str := ["beats", "gone", "new", "left", "beat", "found"]
theorem sc_later : FnScope N_later ["beats", "gone", "new"] (defScope s_later) := ⟨rfl, rfl, rfl, by decide +kernel, rfl, by decide +kernel, by decide +kernel⟩
def d_later : DS := sSeq (sAsg (dIf (tV (dVar 1)) (dSl (dVar 0) (dPart (dC (.int 1))) dNoP) (dVar 0)) (gNm 3)) (sSeq (sAsg (dLc [4] (dSeqSrc (dVar 3)) (gNm 4) (tTrue) (dBlt oMax (aCons (dC (.int 0)) (aCons (dBin oSub (dVar 4) (dC (.int 1))) aNil)))) (gNm 5)) (sSeq (sRet (dBlt oToTup (aCons (dBlt oSorted (aCons (dBin oAdd (dVar 5) (dIf (tV (dBin oGt (dVar 2) (dC (.int 0)))) (dLst (aCons (dBin oSub (dVar 2) (dC (.int 1))) aNil)) (dLst (aNil)))) aNil)) aNil))) (sNil)))
def f_later : List D → Mem → Res D := fnOf 6 d_later
theorem k_later : (cp 60).Ss ⟨N_later, defScope s_later, fun _ => true, false, 10, 0, 0, "", fun _ _ => none, G10⟩ (defBody s_later) = d_later := by kernel_rfl
def G11 : List (Str × GD) := ("later", .fn 3 f_later) :: G10
abbrev s_stepped : Stmt := top 27
abbrev N_stepped : List Str := ["circle", "standing", "givers", "found", "index", "person", "gives", "takes", "held", "free"]
theorem sc_stepped : FnScope N_stepped ["circle", "standing"] (defScope s_stepped) := ⟨rfl, rfl, rfl, by decide +kernel, rfl, by decide +kernel, by decide +kernel⟩
def d_stepped : DS := sSeq (sAsg (dCall f_givers_of 1 (aCons (dVar 1) aNil)) (gNm 2)) (sSeq (sAsg (dLst (aNil)) (gNm 3)) (sSeq (sFor (dEnumL (aCons (dVar 0) aNil)) (gTp 2 (gsCons (gNm 4) (gsCons (gNm 5) gsNil))) (sSeq (sPar [6, 7] (aCons (dBin oIn (dVar 4) (dVar 2)) (aCons (dBin oIn (dBin oMod (dBin oSub (dVar 4) (dC (.int 1))) (dBlt oLen (aCons (dVar 0) aNil))) (dVar 2)) aNil))) (sSeq (sAsg (dCall f_later 3 (aCons (dBin oIx (dBin oIx (dVar 1) (dVar 4)) (dC (.int 0))) (aCons (dVar 6) (aCons (dIf (tV (dVar 7)) (dBin oIx (dVar 5) (dC (.int 0))) (dC (.int 0))) aNil)))) (gNm 8)) (sSeq (sAsg (dCall f_later 3 (aCons (dBin oIx (dBin oIx (dVar 1) (dVar 4)) (dC (.int 1))) (aCons (dVar 7) (aCons (dIf (tV (dVar 6)) (dBin oIx (dVar 5) (dC (.int 1))) (dC (.int 0))) aNil)))) (gNm 9)) (sSeq (sDrop (dMt isLst oApp (dVar 3) (aCons (dTup (aCons (dVar 8) (aCons (dVar 9) aNil))) aNil))) (sNil)))))) (sSeq (sRet (dTup (aCons (dBlt oToTup (aCons (dVar 3) aNil)) (aCons (dVar 2) aNil)))) (sNil))))
def f_stepped : List D → Mem → Res D := fnOf 10 d_stepped
theorem k_stepped : (cp 60).Ss ⟨N_stepped, defScope s_stepped, fun _ => true, false, 11, 0, 0, "", fun _ _ => none, G11⟩ (defBody s_stepped) = d_stepped := by kernel_rfl
def G12 : List (Str × GD) := ("stepped", .fn 2 f_stepped) :: G11
abbrev s_walked : Stmt := top 28
abbrev N_walked : List Str := ["circle", "filling", "standing", "standings", "givers", "known", "some", "lead"]
theorem sc_walked : FnScope N_walked ["circle", "filling"] (defScope s_walked) := ⟨rfl, rfl, rfl, by decide +kernel, rfl, by decide +kernel, by decide +kernel⟩
def d_walked : DS := sSeq (sAsg (dCall f_first_standing 2 (aCons (dVar 0) (aCons (dVar 1) aNil))) (gNm 2)) (sSeq (sPar [3, 4, 5] (aCons (dLst (aNil)) (aCons (dLst (aNil)) (aCons (dDct) aNil)))) (sSeq (sWh (tV (dBin oNin (dVar 2) (dVar 5))) (sSeq (sAsg (dBlt oLen (aCons (dVar 3) aNil)) (gSb (dVar 5) (dVar 2))) (sSeq (sDrop (dMt isLst oApp (dVar 3) (aCons (dVar 2) aNil))) (sSeq (sAsg (dCall f_stepped 2 (aCons (dVar 0) (aCons (dVar 2) aNil))) (gTp 2 (gsCons (gNm 2) (gsCons (gNm 6) gsNil)))) (sSeq (sDrop (dMt isLst oApp (dVar 4) (aCons (dVar 6) aNil))) (sNil)))))) (sSeq (sAsg (dBin oIx (dVar 5) (dVar 2)) (gNm 7)) (sSeq (sRet (dTup (aCons (dVar 3) (aCons (dVar 4) (aCons (dVar 7) (aCons (dBin oSub (dBlt oLen (aCons (dVar 3) aNil)) (dVar 7)) aNil)))))) (sNil)))))
def f_walked : List D → Mem → Res D := fnOf 8 d_walked
theorem k_walked : (cp 60).Ss ⟨N_walked, defScope s_walked, fun _ => true, false, 12, 0, 0, "", fun _ _ => none, G12⟩ (defBody s_walked) = d_walked := by kernel_rfl
def G13 : List (Str × GD) := ("walked", .fn 2 f_walked) :: G12
abbrev s_times_of : Stmt := top 29
abbrev N_times_of : List Str := ["givers", "index", "some"]
theorem sc_times_of : FnScope N_times_of ["givers", "index"] (defScope s_times_of) := ⟨rfl, rfl, rfl, by decide +kernel, rfl, by decide +kernel, by decide +kernel⟩
def d_times_of : DS := sSeq (sRet (dBlt oLen (aCons (dLc [2] (dSeqSrc (dVar 0)) (gNm 2) (tV (dBin oIn (dVar 1) (dVar 2))) (dVar 2)) aNil))) (sNil)
def f_times_of : List D → Mem → Res D := fnOf 3 d_times_of
theorem k_times_of : (cp 60).Ss ⟨N_times_of, defScope s_times_of, fun _ => true, false, 13, 0, 0, "", fun _ _ => none, G13⟩ (defBody s_times_of) = d_times_of := by kernel_rfl
def G14 : List (Str × GD) := ("times_of", .fn 2 f_times_of) :: G13
abbrev s_fillings_of : Stmt := top 32
abbrev N_fillings_of : List Str := ["circle", "buckets", "found", "person", "longer", "filling", "held"]
theorem sc_fillings_of : FnScope N_fillings_of ["circle", "buckets"] (defScope s_fillings_of) := ⟨rfl, rfl, rfl, by decide +kernel, rfl, by decide +kernel, by decide +kernel⟩
def d_fillings_of : DS := sSeq (sAsg (dLst (aCons (dTup (aNil)) aNil)) (gNm 2)) (sSeq (sFor (dSeqSrc (dVar 0)) (gNm 3) (sSeq (sAsg (dLst (aNil)) (gNm 4)) (sSeq (sFor (dSeqSrc (dVar 2)) (gNm 5) (sSeq (sAsg (dBin oAdd (dVar 4) (dLc [6] (dRng1 (aCons (dBin oAdd (dBin oIx (dVar 3) (dC (.int 2))) (dC (.int 1))) aNil)) (gNm 6) (tTrue) (dBin oAdd (dVar 5) (dTup (aCons (dVar 6) aNil))))) (gNm 4)) (sNil))) (sSeq (sAsg (dVar 4) (gNm 2)) (sNil))))) (sSeq (sRet (dLc [5] (dSeqSrc (dVar 2)) (gNm 5) (tV (dBin oEq (dBlt oSum (aCons (dVar 5) aNil)) (dVar 1))) (dVar 5))) (sNil)))
def f_fillings_of : List D → Mem → Res D := fnOf 7 d_fillings_of
theorem k_fillings_of : (cp 60).Ss ⟨N_fillings_of, defScope s_fillings_of, fun _ => true, false, 14, 0, 0, "", fun _ _ => none, G14⟩ (defBody s_fillings_of) = d_fillings_of := by kernel_rfl
def G15 : List (Str × GD) := ("fillings_of", .fn 2 f_fillings_of) :: G14
abbrev s_lead_from : Stmt := top 33
abbrev N_lead_from : List Str := ["circle", "standing", "leads", "line", "known", "lead", "here"]
theorem sc_lead_from : FnScope N_lead_from ["circle", "standing", "leads"] (defScope s_lead_from) := ⟨rfl, rfl, rfl, by decide +kernel, rfl, by decide +kernel, by decide +kernel⟩
def d_lead_from : DS := sSeq (sPar [3, 4] (aCons (dLst (aNil)) (aCons (dDct) aNil))) (sSeq (sWh (tAnd (tV (dBin oNin (dVar 1) (dVar 4))) (tV (dBin oNin (dVar 1) (dVar 2)))) (sSeq (sAsg (dBlt oLen (aCons (dVar 3) aNil)) (gSb (dVar 4) (dVar 1))) (sSeq (sDrop (dMt isLst oApp (dVar 3) (aCons (dVar 1) aNil))) (sSeq (sAsg (dBin oIx (dCall f_stepped 2 (aCons (dVar 0) (aCons (dVar 1) aNil))) (dC (.int 0))) (gNm 1)) (sNil))))) (sSeq (sAsg (dMt isDct oGet (dVar 2) (aCons (dVar 1) (aCons (dC (.int 0)) aNil))) (gNm 5)) (sSeq (sIf (tV (dBin oIn (dVar 1) (dVar 4))) (sSeq (sFor (dSeqSrc (dSl (dVar 3) (dPart (dBin oIx (dVar 4) (dVar 1))) dNoP)) (gNm 6) (sSeq (sAsg (dC (.int 0)) (gSb (dVar 2) (dVar 6))) (sNil))) (sSeq (sAsg (dSl (dVar 3) dNoP (dPart (dBin oIx (dVar 4) (dVar 1)))) (gNm 3)) (sNil))) (sNil)) (sSeq (sFor (dSeqSrc (dBin oRv (dVar 3) (dUn oNeg (dC (.int 1))))) (gNm 6) (sSeq (sAsg (dBin oAdd (dVar 5) (dC (.int 1))) (gNm 5)) (sSeq (sAsg (dVar 5) (gSb (dVar 2) (dVar 6))) (sNil)))) (sSeq (sRet (dVar 5)) (sNil))))))
def f_lead_from : List D → Mem → Res D := fnOf 7 d_lead_from
theorem k_lead_from : (cp 60).Ss ⟨N_lead_from, defScope s_lead_from, fun _ => true, false, 15, 0, 0, "", fun _ _ => none, G15⟩ (defBody s_lead_from) = d_lead_from := by kernel_rfl
def G16 : List (Str × GD) := ("lead_from", .fn 3 f_lead_from) :: G15
abbrev s_count_fillings : Stmt := top 34
abbrev N_count_fillings : List Str := ["circle", "found", "person"]
theorem sc_count_fillings : FnScope N_count_fillings ["circle"] (defScope s_count_fillings) := ⟨rfl, rfl, rfl, by decide +kernel, rfl, by decide +kernel, by decide +kernel⟩
def d_count_fillings : DS := sSeq (sAsg (dC (.int 1)) (gNm 1)) (sSeq (sFor (dSeqSrc (dVar 0)) (gNm 2) (sSeq (sAsg (dBin oMul (dVar 1) (dBin oAdd (dBin oIx (dVar 2) (dC (.int 2))) (dC (.int 1)))) (gNm 1)) (sNil))) (sSeq (sRet (dVar 1)) (sNil)))
def f_count_fillings : List D → Mem → Res D := fnOf 3 d_count_fillings
theorem k_count_fillings : (cp 60).Ss ⟨N_count_fillings, defScope s_count_fillings, fun _ => true, false, 16, 0, 0, "", fun _ _ => none, G16⟩ (defBody s_count_fillings) = d_count_fillings := by kernel_rfl
def G17 : List (Str × GD) := ("count_fillings", .fn 1 f_count_fillings) :: G16
abbrev s_round_of : Stmt := top 35
abbrev N_round_of : List Str := ["circle", "filling", "standings", "givers", "lead", "period"]
theorem sc_round_of : FnScope N_round_of ["circle", "filling"] (defScope s_round_of) := ⟨rfl, rfl, rfl, by decide +kernel, rfl, by decide +kernel, by decide +kernel⟩
def d_round_of : DS := sSeq (sDrop (dCall f_need_circle 1 (aCons (dVar 0) aNil))) (sSeq (sDrop (dCall f_need_filling 2 (aCons (dVar 0) (aCons (dVar 1) aNil)))) (sSeq (sAsg (dCall f_walked 2 (aCons (dVar 0) (aCons (dVar 1) aNil))) (gTp 4 (gsCons (gNm 2) (gsCons (gNm 3) (gsCons (gNm 4) (gsCons (gNm 5) gsNil)))))) (sSeq (sRet (dTup (aCons (dVar 4) (aCons (dVar 5) (aCons (dCall f_times_of 2 (aCons (dSl (dVar 3) (dPart (dVar 4)) dNoP) (aCons (dC (.int 0)) aNil))) aNil))))) (sNil))))
def f_round_of : List D → Mem → Res D := fnOf 6 d_round_of
theorem k_round_of : (cp 60).Ss ⟨N_round_of, defScope s_round_of, fun _ => true, false, 17, 0, 0, "", fun _ _ => none, G17⟩ (defBody s_round_of) = d_round_of := by kernel_rfl
def G18 : List (Str × GD) := ("round_of", .fn 2 f_round_of) :: G17
abbrev s_longest_lead : Stmt := top 36
abbrev N_longest_lead : List Str := ["circle", "buckets", "found", "leads", "filling", "start", "lead"]
theorem sc_longest_lead : FnScope N_longest_lead ["circle", "buckets"] (defScope s_longest_lead) := ⟨rfl, rfl, rfl, by decide +kernel, rfl, by decide +kernel, by decide +kernel⟩
def d_longest_lead : DS := sSeq (sDrop (dCall f_need_circle 1 (aCons (dVar 0) aNil))) (sSeq (sIf (tV (dBin oGt (dCall f_count_fillings 1 (aCons (dVar 0) aNil)) (dC (.int 300)))) (sSeq ((fun δ M => .exc ⟨"InvalidCircle", []⟩ δ M)) (sNil)) (sNil)) (sSeq (sDrop (dCall f_need_number 3 (aCons (dVar 1) (aCons (dC (.int 0)) (aCons (dC (.int 1000000000000000000000000000000)) aNil))))) (sSeq (sPar [2, 3] (aCons (dC .non) (aCons (dDct) aNil))) (sSeq (sFor (dSeqSrc (dCall f_fillings_of 2 (aCons (dVar 0) (aCons (dVar 1) aNil)))) (gNm 4) (sSeq (sAsg (dCall f_first_standing 2 (aCons (dVar 0) (aCons (dVar 4) aNil))) (gNm 5)) (sSeq (sAsg (dIf (tV (dBin oIn (dVar 5) (dVar 3))) (dBin oIx (dVar 3) (dVar 5)) (dCall f_lead_from 3 (aCons (dVar 0) (aCons (dVar 5) (aCons (dVar 3) aNil))))) (gNm 6)) (sSeq (sIf (tOr (tV (dBin oIsN (dVar 2) (dC .non))) (tV (dBin oGt (dVar 6) (dBin oIx (dVar 2) (dC (.int 0)))))) (sSeq (sAsg (dTup (aCons (dVar 6) (aCons (dVar 4) aNil))) (gNm 2)) (sNil)) (sNil)) (sNil))))) (sSeq (sIf (tV (dBin oIsN (dVar 2) (dC .non))) (sSeq ((fun δ M => .exc ⟨"InvalidNumber", []⟩ δ M)) (sNil)) (sNil)) (sSeq (sRet (dVar 2)) (sNil)))))))
def f_longest_lead : List D → Mem → Res D := fnOf 7 d_longest_lead
theorem k_longest_lead : (cp 60).Ss ⟨N_longest_lead, defScope s_longest_lead, fun _ => true, false, 18, 0, 0, "", fun _ _ => none, G18⟩ (defBody s_longest_lead) = d_longest_lead := by kernel_rfl
def G19 : List (Str × GD) := ("longest_lead", .fn 2 f_longest_lead) :: G18
abbrev s__law_source : Stmt := top 38
abbrev N__law_source : List Str := ["_law_script", "_law_k", "_law_number", "_law_start"]
theorem sc__law_source : FnScope N__law_source ["_law_script", "_law_k"] (defScope s__law_source) := ⟨rfl, rfl, rfl, by decide +kernel, rfl, by decide +kernel, by decide +kernel⟩
def d__law_source : DS := sSeq (sAsg (dC (.int 0)) (gNm 2)) (sSeq (sIf (tV (dBin oGt (dBlt oLen (aCons (dVar 0) aNil)) (dVar 1))) (sSeq (sAsg (dBlt oToInt (aCons (dBin oIx (dVar 0) (dVar 1)) aNil)) (gNm 2)) (sNil)) (sNil)) (sSeq (sAsg (dBin oMod (dBin oAdd (dBin oAdd (dBin oMul (dVar 2) (dC (.int 16807))) (dBin oMul (dC (.int 60919)) (dVar 1))) (dC (.int 31))) (dC (.int 2147481173))) (gNm 3)) (sSeq (sAsg (dBin oAdd (dBin oAdd (dBin oMod (dBin oMul (dVar 3) (dVar 3)) (dC (.int 2147481151))) (dBin oMul (dC (.int 2)) (dVar 1))) (dC (.int 5))) (gNm 3)) (sSeq (sRet (dLst (aCons (dIf (tV (dBin oGe (dVar 2) (dBin oPow (dC (.int 10)) (dC (.int 18))))) (dVar 2) (dC (.int 0))) (aCons (dVar 3) aNil)))) (sNil)))))
def f__law_source : List D → Mem → Res D := fnOf 4 d__law_source
theorem k__law_source : (cp 60).Ss ⟨N__law_source, defScope s__law_source, fun _ => true, false, 19, 0, 0, "", fun _ _ => none, G19⟩ (defBody s__law_source) = d__law_source := by kernel_rfl
def G20 : List (Str × GD) := ("_law_source", .fn 2 f__law_source) :: G19
abbrev s__law_pick : Stmt := top 39
abbrev N__law_pick : List Str := ["_law_source_here", "_law_many", "_law_found"]
theorem sc__law_pick : FnScope N__law_pick ["_law_source_here", "_law_many"] (defScope s__law_pick) := ⟨rfl, rfl, rfl, by decide +kernel, rfl, by decide +kernel, by decide +kernel⟩
def d__law_pick : DS := sSeq (sIf (tV (dBin oGt (dBin oIx (dVar 0) (dC (.int 0))) (dC (.int 0)))) (sSeq (sAsg (dBin oMod (dBlt oToInt (aCons (dBin oIx (dVar 0) (dC (.int 0))) aNil)) (dVar 1)) (gNm 2)) (sSeq (sAsg (dBin oFdiv (dBlt oToInt (aCons (dBin oIx (dVar 0) (dC (.int 0))) aNil)) (dVar 1)) (gSb (dVar 0) (dC (.int 0)))) (sSeq (sRet (dVar 2)) (sNil)))) (sNil)) (sSeq (sAsg (dBin oMod (dBlt oToInt (aCons (dBin oAdd (dBin oMul (dBin oIx (dVar 0) (dC (.int 1))) (dC (.int 44497))) (dC (.int 9973))) aNil)) (dC (.int 2147483647))) (gSb (dVar 0) (dC (.int 1)))) (sSeq (sRet (dBin oMod (dBin oFdiv (dBin oMod (dBlt oToInt (aCons (dBin oMul (dBin oIx (dVar 0) (dC (.int 1))) (dBin oIx (dVar 0) (dC (.int 1)))) aNil)) (dC (.int 2147483399))) (dC (.int 11))) (dVar 1))) (sNil)))
def f__law_pick : List D → Mem → Res D := fnOf 3 d__law_pick
theorem k__law_pick : (cp 60).Ss ⟨N__law_pick, defScope s__law_pick, fun _ => true, false, 20, 0, 0, "", fun _ _ => none, G20⟩ (defBody s__law_pick) = d__law_pick := by kernel_rfl
def G21 : List (Str × GD) := ("_law_pick", .fn 2 f__law_pick) :: G20
abbrev s__law_chosen : Stmt := top 40
abbrev N__law_chosen : List Str := ["_law_source_here", "_law_things"]
theorem sc__law_chosen : FnScope N__law_chosen ["_law_source_here", "_law_things"] (defScope s__law_chosen) := ⟨rfl, rfl, rfl, by decide +kernel, rfl, by decide +kernel, by decide +kernel⟩
def d__law_chosen : DS := sSeq (sRet (dBin oIx (dVar 1) (dCall f__law_pick 2 (aCons (dVar 0) (aCons (dBlt oLen (aCons (dVar 1) aNil)) aNil))))) (sNil)
def f__law_chosen : List D → Mem → Res D := fnOf 2 d__law_chosen
theorem k__law_chosen : (cp 60).Ss ⟨N__law_chosen, defScope s__law_chosen, fun _ => true, false, 21, 0, 0, "", fun _ _ => none, G21⟩ (defBody s__law_chosen) = d__law_chosen := by kernel_rfl
def G22 : List (Str × GD) := ("_law_chosen", .fn 2 f__law_chosen) :: G21
abbrev s__law_error : Stmt := top 41
abbrev N__law_error : List Str := ["_law_e", "_law_some", "_law_word_so", "_law_good"]
theorem sc__law_error : FnScope N__law_error ["_law_e"] (defScope s__law_error) := ⟨rfl, rfl, rfl, by decide +kernel, rfl, by decide +kernel, by decide +kernel⟩
def d__law_error (e : Addr) (cn : Str) : DS := sSeq (sAsg (dLst (aCons (dTup (aCons (dC (.str "circle")) (aCons (dBlt (oIsiX e cn isx) (aCons (dVar 0) (aCons (dC (.gl "InvalidCircle")) aNil))) aNil))) (aCons (dTup (aCons (dC (.str "plan")) (aCons (dBlt (oIsiX e cn isx) (aCons (dVar 0) (aCons (dC (.gl "InvalidPlan")) aNil))) aNil))) aNil))) (gNm 1)) (sSeq (sAsg (dBin oAdd (dVar 1) (dLst (aCons (dTup (aCons (dC (.str "filling")) (aCons (dBlt (oIsiX e cn isx) (aCons (dVar 0) (aCons (dC (.gl "InvalidFilling")) aNil))) aNil))) (aCons (dTup (aCons (dC (.str "index")) (aCons (dBlt (oIsiX e cn isx) (aCons (dVar 0) (aCons (dC (.gl "InvalidIndex")) aNil))) aNil))) aNil)))) (gNm 1)) (sSeq (sAsg (dBin oAdd (dVar 1) (dLst (aCons (dTup (aCons (dC (.str "number")) (aCons (dBlt (oIsiX e cn isx) (aCons (dVar 0) (aCons (dC (.gl "InvalidNumber")) aNil))) aNil))) (aCons (dTup (aCons (dC (.str "seen")) (aCons (dBlt (oIsiX e cn isx) (aCons (dVar 0) (aCons (dC (.gl "InvalidSeen")) aNil))) aNil))) aNil)))) (gNm 1)) (sSeq (sAsg (dBin oAdd (dVar 1) (dLst (aCons (dTup (aCons (dC (.str "ready")) (aCons (dBlt (oIsiX e cn isx) (aCons (dVar 0) (aCons (dC (.gl "NotReady")) aNil))) aNil))) (aCons (dTup (aCons (dC (.str "undo")) (aCons (dBlt (oIsiX e cn isx) (aCons (dVar 0) (aCons (dC (.gl "NothingToUndo")) aNil))) aNil))) aNil)))) (gNm 1)) (sSeq (sAsg (dBin oAdd (dVar 1) (dLst (aCons (dTup (aCons (dC (.str "many")) (aCons (dBlt (oIsiX e cn isx) (aCons (dVar 0) (aCons (dC (.gl "TooMany")) aNil))) aNil))) (aCons (dTup (aCons (dC (.str "text")) (aCons (dBlt (oIsiX e cn isx) (aCons (dVar 0) (aCons (dC (.gl "InvalidText")) aNil))) aNil))) aNil)))) (gNm 1)) (sSeq (sRet (dMt isStr oJoin (dC (.str " ")) (aCons (dLc [2, 3] (dLive (dVar 1)) (gTpT 2 (gsCons (gNm 2) (gsCons (gNm 3) gsNil))) (tV (dVar 3)) (dVar 2)) aNil))) (sNil))))))
theorem k__law_error : ∀ e cn, (cp 60).Ss ⟨N__law_error, defScope s__law_error, fun _ => true, true, 22, 0, e, cn, isx, G22⟩ (defBody s__law_error) = d__law_error e cn := fun e cn => by kernel_rfl
abbrev s__law_refused : Stmt := top 42
abbrev N__law_refused : List Str := ["_law_call", "_law_e"]
theorem sc__law_refused : FnScope N__law_refused ["_law_call"] (defScope s__law_refused) := ⟨rfl, rfl, rfl, by decide +kernel, rfl, by decide +kernel, by decide +kernel⟩
def F_refused : Res D → Mem → Res D := refF "" (kind goodX)
def G23 : List (Str × GD) := ("_law_refused", .hof F_refused) :: G22
abbrev s__law_by_two : Stmt := top 43
abbrev N__law_by_two : List Str := ["_law_call", "_law_one", "_law_other"]
theorem sc__law_by_two : FnScope N__law_by_two ["_law_call", "_law_one", "_law_other"] (defScope s__law_by_two) := ⟨rfl, rfl, rfl, by decide +kernel, rfl, by decide +kernel, by decide +kernel⟩
def d__law_by_two : DS := sSeq (sRet (dHof F_refused (dCallV (fnsOf G23) 0 (aCons (dVar 1) (aCons (dVar 2) aNil))))) (sNil)
def f__law_by_two : List D → Mem → Res D := fnOf 3 d__law_by_two
theorem k__law_by_two : (cp 60).Ss ⟨N__law_by_two, defScope s__law_by_two, fun _ => true, false, 23, 2, 0, "", fun _ _ => none, G23⟩ (defBody s__law_by_two) = d__law_by_two := by kernel_rfl
def G24 : List (Str × GD) := ("_law_by_two", .fn 3 f__law_by_two) :: G23
abbrev s__law_drawn_person : Stmt := top 44
abbrev N__law_drawn_person : List Str := ["_law_source_here", "_law_most", "_law_wide", "_law_carry", "_law_back"]
theorem sc__law_drawn_person : FnScope N__law_drawn_person ["_law_source_here", "_law_most"] (defScope s__law_drawn_person) := ⟨rfl, rfl, rfl, by decide +kernel, rfl, by decide +kernel, by decide +kernel⟩
def d__law_drawn_person : DS := sSeq (sAsg (dCall f__law_chosen 2 (aCons (dVar 0) (aCons (dLst (aCons (dC (.int 2)) (aCons (dC (.int 3)) (aCons (dVar 1) aNil)))) aNil))) (gNm 2)) (sSeq (sPar [3, 4] (aCons (dBin oAdd (dC (.int 1)) (dCall f__law_pick 2 (aCons (dVar 0) (aCons (dVar 2) aNil)))) (aCons (dBin oAdd (dC (.int 1)) (dCall f__law_pick 2 (aCons (dVar 0) (aCons (dVar 2) aNil)))) aNil))) (sSeq (sRet (dTup (aCons (dVar 3) (aCons (dVar 4) (aCons (dCall f__law_chosen 2 (aCons (dVar 0) (aCons (dLst (aCons (dC (.int 1)) (aCons (dC (.int 1)) (aCons (dC (.int 2)) (aCons (dC (.int 3)) aNil))))) aNil))) aNil))))) (sNil)))
def f__law_drawn_person : List D → Mem → Res D := fnOf 5 d__law_drawn_person
theorem k__law_drawn_person : (cp 60).Ss ⟨N__law_drawn_person, defScope s__law_drawn_person, fun _ => true, false, 26, 0, 0, "", fun _ _ => none, G24⟩ (defBody s__law_drawn_person) = d__law_drawn_person := by kernel_rfl
def G25 : List (Str × GD) := ("_law_drawn_person", .fn 2 f__law_drawn_person) :: G24
abbrev s__law_drawn_circle : Stmt := top 45
abbrev N__law_drawn_circle : List Str := ["_law_source_here", "_law_many", "_law_most", "_law_size", "_law_found", "_law_one", "_law_alike_so", "_law_turn"]
theorem sc__law_drawn_circle : FnScope N__law_drawn_circle ["_law_source_here", "_law_many", "_law_most"] (defScope s__law_drawn_circle) := ⟨rfl, rfl, rfl, by decide +kernel, rfl, by decide +kernel, by decide +kernel⟩
def d__law_drawn_circle : DS := sSeq (sPar [3, 4] (aCons (dBin oAdd (dC (.int 2)) (dCall f__law_pick 2 (aCons (dVar 0) (aCons (dBin oSub (dVar 1) (dC (.int 1))) aNil)))) (aCons (dTup (aNil)) aNil))) (sSeq (sAsg (dCall f__law_drawn_person 2 (aCons (dVar 0) (aCons (dVar 2) aNil))) (gNm 5)) (sSeq (sAsg (dBin oEq (dCall f__law_pick 2 (aCons (dVar 0) (aCons (dC (.int 4)) aNil))) (dC (.int 0))) (gNm 6)) (sSeq (sFor (dRng1 (aCons (dVar 3) aNil)) (gNm 7) (sSeq (sAsg (dBin oAdd (dVar 4) (dTup (aCons (dIf (tV (dVar 6)) (dVar 5) (dCall f__law_drawn_person 2 (aCons (dVar 0) (aCons (dVar 2) aNil)))) aNil))) (gNm 4)) (sNil))) (sSeq (sRet (dVar 4)) (sNil)))))
def f__law_drawn_circle : List D → Mem → Res D := fnOf 8 d__law_drawn_circle
theorem k__law_drawn_circle : (cp 60).Ss ⟨N__law_drawn_circle, defScope s__law_drawn_circle, fun _ => true, false, 27, 0, 0, "", fun _ _ => none, G25⟩ (defBody s__law_drawn_circle) = d__law_drawn_circle := by kernel_rfl
def G26 : List (Str × GD) := ("_law_drawn_circle", .fn 3 f__law_drawn_circle) :: G25
abbrev s__law_drawn_filling : Stmt := top 46
abbrev N__law_drawn_filling : List Str := ["_law_source_here", "_law_circle", "_law_person"]
theorem sc__law_drawn_filling : FnScope N__law_drawn_filling ["_law_source_here", "_law_circle"] (defScope s__law_drawn_filling) := ⟨rfl, rfl, rfl, by decide +kernel, rfl, by decide +kernel, by decide +kernel⟩
def d__law_drawn_filling : DS := sSeq (sRet (dBlt oToTup (aCons (dLc [2] (dSeqSrc (dVar 1)) (gNm 2) (tTrue) (dCall f__law_pick 2 (aCons (dVar 0) (aCons (dBin oAdd (dBin oIx (dVar 2) (dC (.int 2))) (dC (.int 1))) aNil)))) aNil))) (sNil)
def f__law_drawn_filling : List D → Mem → Res D := fnOf 3 d__law_drawn_filling
theorem k__law_drawn_filling : (cp 60).Ss ⟨N__law_drawn_filling, defScope s__law_drawn_filling, fun _ => true, false, 28, 0, 0, "", fun _ _ => none, G26⟩ (defBody s__law_drawn_filling) = d__law_drawn_filling := by kernel_rfl
def G27 : List (Str × GD) := ("_law_drawn_filling", .fn 2 f__law_drawn_filling) :: G26
abbrev s__law_all_hands : Stmt := top 47
abbrev N__law_all_hands : List Str := ["_law_people", "_law_person"]
theorem sc__law_all_hands : FnScope N__law_all_hands ["_law_people"] (defScope s__law_all_hands) := ⟨rfl, rfl, rfl, by decide +kernel, rfl, by decide +kernel, by decide +kernel⟩
def d__law_all_hands : DS := sSeq (sRet (dBlt oSum (aCons (dLc [1] (dSeqSrc (dVar 0)) (gNm 1) (tTrue) (dBin oIx (dVar 1) (dC (.int 2)))) aNil))) (sNil)
def f__law_all_hands : List D → Mem → Res D := fnOf 2 d__law_all_hands
theorem k__law_all_hands : (cp 60).Ss ⟨N__law_all_hands, defScope s__law_all_hands, fun _ => true, false, 29, 0, 0, "", fun _ _ => none, G27⟩ (defBody s__law_all_hands) = d__law_all_hands := by kernel_rfl
def G28 : List (Str × GD) := ("_law_all_hands", .fn 1 f__law_all_hands) :: G27
abbrev s__law_begun : Stmt := top 48
abbrev N__law_begun : List Str := ["_law_circle", "_law_filling", "_law_found", "_law_person", "_law_many"]
theorem sc__law_begun : FnScope N__law_begun ["_law_circle", "_law_filling"] (defScope s__law_begun) := ⟨rfl, rfl, rfl, by decide +kernel, rfl, by decide +kernel, by decide +kernel⟩
def d__law_begun : DS := sSeq (sAsg (dLst (aNil)) (gNm 2)) (sSeq (sFor (dZip (aCons (dVar 0) (aCons (dVar 1) aNil))) (gTp 2 (gsCons (gNm 3) (gsCons (gNm 4) gsNil))) (sSeq (sDrop (dMt isLst oApp (dVar 2) (aCons (dLst (aCons (dBin oMul (dLst (aCons (dC (.int 0)) aNil)) (dVar 4)) (aCons (dBin oMul (dLst (aCons (dC (.int 0)) aNil)) (dBin oSub (dBin oIx (dVar 3) (dC (.int 2))) (dVar 4))) aNil))) aNil))) (sNil))) (sSeq (sRet (dVar 2)) (sNil)))
def f__law_begun : List D → Mem → Res D := fnOf 5 d__law_begun
theorem k__law_begun : (cp 60).Ss ⟨N__law_begun, defScope s__law_begun, fun _ => true, false, 30, 0, 0, "", fun _ _ => none, G28⟩ (defBody s__law_begun) = d__law_begun := by kernel_rfl
def G29 : List (Str × GD) := ("_law_begun", .fn 2 f__law_begun) :: G28
abbrev s__law_one_beat : Stmt := top 49
abbrev N__law_one_beat : List Str := ["_law_circle", "_law_now", "_law_time", "_law_size", "_law_givers", "_law_index", "_law_beat", "_law_ready", "_law_hand", "_law_pair", "_law_then", "_law_there"]
theorem sc__law_one_beat : FnScope N__law_one_beat ["_law_circle", "_law_now", "_law_time"] (defScope s__law_one_beat) := ⟨rfl, rfl, rfl, by decide +kernel, rfl, by decide +kernel, by decide +kernel⟩
def d__law_one_beat : DS := sSeq (sPar [3, 4] (aCons (dBlt oLen (aCons (dVar 0) aNil)) (aCons (dLst (aNil)) aNil))) (sSeq (sFor (dRng1 (aCons (dVar 3) aNil)) (gNm 5) (sSeq (sAsg (dLc [6] (dSeqSrc (dBin oIx (dBin oIx (dVar 1) (dVar 5)) (dC (.int 0)))) (gNm 6) (tV (dBin oLe (dVar 6) (dVar 2))) (dVar 6)) (gNm 7)) (sSeq (sAsg (dLc [6] (dSeqSrc (dBin oIx (dBin oIx (dVar 1) (dBin oMod (dBin oAdd (dVar 5) (dC (.int 1))) (dVar 3))) (dC (.int 1)))) (gNm 6) (tV (dBin oLe (dVar 6) (dVar 2))) (dVar 6)) (gNm 8)) (sSeq (sIf (tAnd (tV (dBin oNe (dVar 7) (dLst (aNil)))) (tV (dBin oNe (dVar 8) (dLst (aNil))))) (sSeq (sDrop (dMt isLst oApp (dVar 4) (aCons (dVar 5) aNil))) (sNil)) (sNil)) (sNil))))) (sSeq (sAsg (dLc [9] (dSeqSrc (dVar 1)) (gNm 9) (tTrue) (dLst (aCons (dBlt oToLst (aCons (dBin oIx (dVar 9) (dC (.int 0))) aNil)) (aCons (dBlt oToLst (aCons (dBin oIx (dVar 9) (dC (.int 1))) aNil)) aNil)))) (gNm 10)) (sSeq (sFor (dSeqSrc (dVar 4)) (gNm 5) (sSeq (sAsg (dBin oMod (dBin oAdd (dVar 5) (dC (.int 1))) (dVar 3)) (gNm 11)) (sSeq (sDrop (dMt isLst oRem (dBin oIx (dBin oIx (dVar 10) (dVar 5)) (dC (.int 0))) (aCons (dBlt oMin (aCons (dLc [6] (dSeqSrc (dBin oIx (dBin oIx (dVar 10) (dVar 5)) (dC (.int 0)))) (gNm 6) (tTrue) (dBlt oToInt (aCons (dVar 6) aNil))) aNil)) aNil))) (sSeq (sDrop (dMt isLst oRem (dBin oIx (dBin oIx (dVar 10) (dVar 11)) (dC (.int 1))) (aCons (dBlt oMin (aCons (dLc [6] (dSeqSrc (dBin oIx (dBin oIx (dVar 10) (dVar 11)) (dC (.int 1)))) (gNm 6) (tTrue) (dBlt oToInt (aCons (dVar 6) aNil))) aNil)) aNil))) (sNil))))) (sSeq (sFor (dSeqSrc (dVar 4)) (gNm 5) (sSeq (sAsg (dBin oMod (dBin oAdd (dVar 5) (dC (.int 1))) (dVar 3)) (gNm 11)) (sSeq (sDrop (dMt isLst oApp (dBin oIx (dBin oIx (dVar 10) (dVar 5)) (dC (.int 1))) (aCons (dBin oAdd (dVar 2) (dBin oIx (dBin oIx (dVar 0) (dVar 5)) (dC (.int 1)))) aNil))) (sSeq (sDrop (dMt isLst oApp (dBin oIx (dBin oIx (dVar 10) (dVar 11)) (dC (.int 0))) (aCons (dBin oAdd (dVar 2) (dBin oIx (dBin oIx (dVar 0) (dVar 11)) (dC (.int 0)))) aNil))) (sNil))))) (sSeq (sRet (dTup (aCons (dVar 10) (aCons (dBlt oToTup (aCons (dVar 4) aNil)) aNil)))) (sNil))))))
def f__law_one_beat : List D → Mem → Res D := fnOf 12 d__law_one_beat
theorem k__law_one_beat : (cp 60).Ss ⟨N__law_one_beat, defScope s__law_one_beat, fun _ => true, false, 31, 0, 0, "", fun _ _ => none, G29⟩ (defBody s__law_one_beat) = d__law_one_beat := by kernel_rfl
def G30 : List (Str × GD) := ("_law_one_beat", .fn 3 f__law_one_beat) :: G29
abbrev s__law_shape : Stmt := top 50
abbrev N__law_shape : List Str := ["_law_now", "_law_time", "_law_found", "_law_held", "_law_free", "_law_beat", "_law_some"]
theorem sc__law_shape : FnScope N__law_shape ["_law_now", "_law_time"] (defScope s__law_shape) := ⟨rfl, rfl, rfl, by decide +kernel, rfl, by decide +kernel, by decide +kernel⟩
def d__law_shape : DS := sSeq (sAsg (dLst (aNil)) (gNm 2)) (sSeq (sFor (dSeqSrc (dVar 0)) (gTp 2 (gsCons (gNm 3) (gsCons (gNm 4) gsNil))) (sSeq (sAsg (dBlt oToTup (aCons (dBlt oSorted (aCons (dLc [5] (dSeqSrc (dVar 3)) (gNm 5) (tTrue) (dBlt oMax (aCons (dC (.int 0)) (aCons (dBin oSub (dVar 5) (dVar 1)) aNil)))) aNil)) aNil)) (gNm 6)) (sSeq (sDrop (dMt isLst oApp (dVar 2) (aCons (dTup (aCons (dVar 6) (aCons (dBlt oToTup (aCons (dBlt oSorted (aCons (dLc [5] (dSeqSrc (dVar 4)) (gNm 5) (tTrue) (dBlt oMax (aCons (dC (.int 0)) (aCons (dBin oSub (dVar 5) (dVar 1)) aNil)))) aNil)) aNil)) aNil))) aNil))) (sNil)))) (sSeq (sRet (dBlt oToTup (aCons (dVar 2) aNil))) (sNil)))
def f__law_shape : List D → Mem → Res D := fnOf 7 d__law_shape
theorem k__law_shape : (cp 60).Ss ⟨N__law_shape, defScope s__law_shape, fun _ => true, false, 32, 0, 0, "", fun _ _ => none, G30⟩ (defBody s__law_shape) = d__law_shape := by kernel_rfl
def G31 : List (Str × GD) := ("_law_shape", .fn 2 f__law_shape) :: G30
abbrev s__law_till_again : Stmt := top 51
abbrev N__law_till_again : List Str := ["_law_circle", "_law_filling", "_law_now", "_law_time", "_law_shapes", "_law_found", "_law_met", "_law_givers", "_law_lead"]
theorem sc__law_till_again : FnScope N__law_till_again ["_law_circle", "_law_filling"] (defScope s__law_till_again) := ⟨rfl, rfl, rfl, by decide +kernel, rfl, by decide +kernel, by decide +kernel⟩
def d__law_till_again : DS := sSeq (sPar [2, 3] (aCons (dCall f__law_begun 2 (aCons (dVar 0) (aCons (dVar 1) aNil))) (aCons (dC (.int 0)) aNil))) (sSeq (sPar [4, 5, 6] (aCons (dLst (aNil)) (aCons (dLst (aNil)) (aCons (dDct) aNil)))) (sSeq (sWh (tV (dBin oNin (dCall f__law_shape 2 (aCons (dVar 2) (aCons (dVar 3) aNil))) (dVar 6))) (sSeq (sAsg (dVar 3) (gSb (dVar 6) (dCall f__law_shape 2 (aCons (dVar 2) (aCons (dVar 3) aNil))))) (sSeq (sDrop (dMt isLst oApp (dVar 4) (aCons (dCall f__law_shape 2 (aCons (dVar 2) (aCons (dVar 3) aNil))) aNil))) (sSeq (sAsg (dCall f__law_one_beat 3 (aCons (dVar 0) (aCons (dVar 2) (aCons (dVar 3) aNil)))) (gTp 2 (gsCons (gNm 2) (gsCons (gNm 7) gsNil)))) (sSeq (sDrop (dMt isLst oApp (dVar 5) (aCons (dVar 7) aNil))) (sSeq (sAsg (dBin oAdd (dVar 3) (dC (.int 1))) (gNm 3)) (sNil))))))) (sSeq (sAsg (dBin oIx (dVar 6) (dCall f__law_shape 2 (aCons (dVar 2) (aCons (dVar 3) aNil)))) (gNm 8)) (sSeq (sRet (dTup (aCons (dVar 4) (aCons (dVar 5) (aCons (dVar 8) (aCons (dBin oSub (dVar 3) (dVar 8)) aNil)))))) (sNil)))))
def f__law_till_again : List D → Mem → Res D := fnOf 9 d__law_till_again
theorem k__law_till_again : (cp 60).Ss ⟨N__law_till_again, defScope s__law_till_again, fun _ => true, false, 33, 0, 0, "", fun _ _ => none, G31⟩ (defBody s__law_till_again) = d__law_till_again := by kernel_rfl
def G32 : List (Str × GD) := ("_law_till_again", .fn 2 f__law_till_again) :: G31
abbrev s__law_all_fillings : Stmt := top 52
abbrev N__law_all_fillings : List Str := ["_law_circle", "_law_buckets", "_law_found", "_law_person", "_law_longer", "_law_filling", "_law_many"]
theorem sc__law_all_fillings : FnScope N__law_all_fillings ["_law_circle", "_law_buckets"] (defScope s__law_all_fillings) := ⟨rfl, rfl, rfl, by decide +kernel, rfl, by decide +kernel, by decide +kernel⟩
def d__law_all_fillings : DS := sSeq (sAsg (dLst (aCons (dTup (aNil)) aNil)) (gNm 2)) (sSeq (sFor (dSeqSrc (dVar 0)) (gNm 3) (sSeq (sAsg (dLst (aNil)) (gNm 4)) (sSeq (sFor (dSeqSrc (dVar 2)) (gNm 5) (sSeq (sAsg (dBin oAdd (dVar 4) (dLc [6] (dRng1 (aCons (dBin oAdd (dBin oIx (dVar 3) (dC (.int 2))) (dC (.int 1))) aNil)) (gNm 6) (tTrue) (dBin oAdd (dVar 5) (dTup (aCons (dVar 6) aNil))))) (gNm 4)) (sNil))) (sSeq (sAsg (dVar 4) (gNm 2)) (sNil))))) (sSeq (sRet (dLc [5] (dSeqSrc (dVar 2)) (gNm 5) (tV (dBin oEq (dBlt oSum (aCons (dVar 5) aNil)) (dVar 1))) (dVar 5))) (sNil)))
def f__law_all_fillings : List D → Mem → Res D := fnOf 7 d__law_all_fillings
theorem k__law_all_fillings : (cp 60).Ss ⟨N__law_all_fillings, defScope s__law_all_fillings, fun _ => true, false, 34, 0, 0, "", fun _ _ => none, G32⟩ (defBody s__law_all_fillings) = d__law_all_fillings := by kernel_rfl
def G33 : List (Str × GD) := ("_law_all_fillings", .fn 2 f__law_all_fillings) :: G32
abbrev s__law_longest : Stmt := top 53
abbrev N__law_longest : List Str := ["_law_circle", "_law_buckets", "_law_best", "_law_found", "_law_filling", "_law_lead"]
theorem sc__law_longest : FnScope N__law_longest ["_law_circle", "_law_buckets"] (defScope s__law_longest) := ⟨rfl, rfl, rfl, by decide +kernel, rfl, by decide +kernel, by decide +kernel⟩
def d__law_longest : DS := sSeq (sPar [2, 3] (aCons (dUn oNeg (dC (.int 1))) (aCons (dC .non) aNil))) (sSeq (sFor (dSeqSrc (dCall f__law_all_fillings 2 (aCons (dVar 0) (aCons (dVar 1) aNil)))) (gNm 4) (sSeq (sAsg (dBin oIx (dCall f__law_till_again 2 (aCons (dVar 0) (aCons (dVar 4) aNil))) (dC (.int 2))) (gNm 5)) (sSeq (sIf (tV (dBin oGt (dVar 5) (dVar 2))) (sSeq (sPar [2, 3] (aCons (dVar 5) (aCons (dVar 4) aNil))) (sNil)) (sNil)) (sNil)))) (sSeq (sRet (dTup (aCons (dVar 2) (aCons (dVar 3) aNil)))) (sNil)))
def f__law_longest : List D → Mem → Res D := fnOf 6 d__law_longest
theorem k__law_longest : (cp 60).Ss ⟨N__law_longest, defScope s__law_longest, fun _ => true, false, 35, 0, 0, "", fun _ _ => none, G33⟩ (defBody s__law_longest) = d__law_longest := by kernel_rfl
def G34 : List (Str × GD) := ("_law_longest", .fn 2 f__law_longest) :: G33
abbrev s_law : Stmt := top 54
abbrev N_law : List Str := ["_law_script", "_law_k", "_law_source_here", "_law_turn", "_law_circle", "_law_filling", "_law_shapes", "_law_givers", "_law_lead", "_law_period", "_law_some", "_law_due", "_law_person", "_law_small", "_law_buckets", "_law_odd", "_law_three"]
theorem sc_law : FnScope N_law ["_law_script"] (defScope s_law) := ⟨rfl, rfl, rfl, by decide +kernel, rfl, by decide +kernel, by decide +kernel⟩
def d_law : DS := sSeq (sFor (dRng1 (aCons (dBlt oMax (aCons (dC (.int 5)) (aCons (dBlt oMin (aCons (dC (.int 14)) (aCons (dBlt oLen (aCons (dVar 0) aNil)) aNil))) aNil))) aNil)) (gNm 1) (sSeq (sAsg (dCall f__law_source 2 (aCons (dVar 0) (aCons (dVar 1) aNil))) (gNm 2)) (sSeq (sFor (dRng1 (aCons (dC (.int 3)) aNil)) (gNm 3) (sSeq (sAsg (dCall f__law_drawn_circle 3 (aCons (dVar 2) (aCons (dC (.int 5)) (aCons (dC (.int 6)) aNil)))) (gNm 4)) (sSeq (sAsg (dCall f__law_drawn_filling 2 (aCons (dVar 2) (aCons (dVar 4) aNil))) (gNm 5)) (sSeq (sAsg (dCall f__law_till_again 2 (aCons (dVar 4) (aCons (dVar 5) aNil))) (gTp 4 (gsCons (gNm 6) (gsCons (gNm 7) (gsCons (gNm 8) (gsCons (gNm 9) gsNil)))))) (sSeq (sAsg (dTup (aCons (dVar 8) (aCons (dVar 9) (aCons (dBlt oLen (aCons (dLc [10] (dSeqSrc (dSl (dVar 7) (dPart (dVar 8)) dNoP)) (gNm 10) (tV (dBin oIn (dC (.int 0)) (dVar 10))) (dC (.int 1))) aNil)) aNil)))) (gNm 11)) (sSeq (sIf (tV (dBin oNe (dCall f_round_of 2 (aCons (dVar 4) (aCons (dVar 5) aNil))) (dVar 11))) (sSeq (sRet (dC (.bl false))) (sNil)) (sNil)) (sNil))))))) (sSeq (sAsg (dBlt oToTup (aCons (dLc [12] (dSeqSrc (dCall f__law_drawn_circle 3 (aCons (dVar 2) (aCons (dC (.int 3)) (aCons (dC (.int 4)) aNil))))) (gNm 12) (tTrue) (dBin oAdd (dSl (dVar 12) dNoP (dPart (dC (.int 2)))) (dTup (aCons (dBin oAdd (dC (.int 1)) (dBin oMod (dBin oIx (dVar 12) (dC (.int 2))) (dC (.int 2)))) aNil)))) aNil)) (gNm 13)) (sSeq (sAsg (dCall f__law_pick 2 (aCons (dVar 2) (aCons (dBin oAdd (dCall f__law_all_hands 1 (aCons (dVar 13) aNil)) (dC (.int 1))) aNil))) (gNm 14)) (sSeq (sIf (tV (dBin oNe (dCall f_longest_lead 2 (aCons (dVar 13) (aCons (dVar 14) aNil))) (dCall f__law_longest 2 (aCons (dVar 13) (aCons (dVar 14) aNil))))) (sSeq (sRet (dC (.bl false))) (sNil)) (sNil)) (sSeq (sFor (dSeqSrc (dLst (aCons (dUn oNeg (dC (.int 1))) (aCons (dBin oAdd (dCall f__law_all_hands 1 (aCons (dVar 13) aNil)) (dC (.int 1))) (aCons (dC (.bl true)) (aCons (dC .non) (aCons (dC (.str "0")) aNil))))))) (gNm 15) (sSeq (sIf (tV (dBin oNe (dCall f__law_by_two 3 (aCons (dC (.gl "longest_lead")) (aCons (dVar 13) (aCons (dVar 15) aNil)))) (dC (.str "number")))) (sSeq (sRet (dC (.bl false))) (sNil)) (sNil)) (sNil))) (sSeq (sFor (dSeqSrc (dLst (aCons (dC .non) (aCons (dSl (dVar 13) dNoP (dPart (dC (.int 1)))) (aCons (dBin oMul (dTup (aCons (dTup (aCons (dC (.int 1)) (aCons (dC (.int 1)) (aCons (dC (.int 3)) aNil)))) aNil)) (dC (.int 5))) aNil))))) (gNm 15) (sSeq (sIf (tV (dBin oNe (dCall f__law_by_two 3 (aCons (dC (.gl "longest_lead")) (aCons (dVar 15) (aCons (dC .non) aNil)))) (dC (.str "circle")))) (sSeq (sRet (dC (.bl false))) (sNil)) (sNil)) (sNil))) (sSeq (sIf (tOr (tV (dBin oNe (dCall f__law_by_two 3 (aCons (dC (.gl "round_of")) (aCons (dSl (dVar 4) dNoP (dPart (dC (.int 1)))) (aCons (dC .non) aNil)))) (dC (.str "circle")))) (tV (dBin oNe (dCall f__law_by_two 3 (aCons (dC (.gl "round_of")) (aCons (dVar 4) (aCons (dC .non) aNil)))) (dC (.str "filling"))))) (sSeq (sRet (dC (.bl false))) (sNil)) (sNil)) (sNil)))))))))) (sSeq (sAsg (dTup (aCons (dTup (aCons (dC (.int 2)) (aCons (dC (.int 1)) (aCons (dC (.int 1)) aNil)))) (aCons (dTup (aCons (dC (.int 1)) (aCons (dC (.int 1)) (aCons (dC (.int 1)) aNil)))) (aCons (dTup (aCons (dC (.int 3)) (aCons (dC (.int 1)) (aCons (dC (.int 1)) aNil)))) aNil)))) (gNm 16)) (sSeq (sRet (dAnd (dBin oEq (dCall f_longest_lead 2 (aCons (dVar 16) (aCons (dC (.int 2)) aNil))) (dTup (aCons (dC (.int 1)) (aCons (dTup (aCons (dC (.int 1)) (aCons (dC (.int 0)) (aCons (dC (.int 1)) aNil)))) aNil)))) (dBin oEq (dCall f_round_of 2 (aCons (dVar 16) (aCons (dTup (aCons (dC (.int 0)) (aCons (dC (.int 0)) (aCons (dC (.int 0)) aNil)))) aNil))) (dTup (aCons (dC (.int 0)) (aCons (dC (.int 1)) (aCons (dC (.int 0)) aNil))))))) (sNil)))
def f_law : List D → Mem → Res D := fnOf 17 d_law
theorem k_law : (cp 60).Ss ⟨N_law, defScope s_law, fun _ => true, false, 36, 0, 0, "", fun _ _ => none, G34⟩ (defBody s_law) = d_law := by kernel_rfl
def tf : List He.Defn := [("_law_by_two", none)]
def fnl : List He.DefD := [dfn "is_within" s_is_within, dfn "is_right_person" s_is_right_person, dfn "are_people" s_are_people, dfn "is_right_circle" s_is_right_circle, dfn "is_right_filling" s_is_right_filling, dfn "need_circle" s_need_circle, dfn "need_filling" s_need_filling, dfn "need_number" s_need_number, dfn "first_standing" s_first_standing, dfn "givers_of" s_givers_of, dfn "later" s_later, dfn "stepped" s_stepped, dfn "walked" s_walked, dfn "times_of" s_times_of, dfn "fillings_of" s_fillings_of, dfn "lead_from" s_lead_from, dfn "count_fillings" s_count_fillings, dfn "round_of" s_round_of, dfn "longest_lead" s_longest_lead, dfn "_law_source" s__law_source, dfn "_law_pick" s__law_pick, dfn "_law_chosen" s__law_chosen, dfn "_law_error" s__law_error, dfn "_law_refused" s__law_refused, dfn "_law_by_two" s__law_by_two, dfn "_law_drawn_person" s__law_drawn_person, dfn "_law_drawn_circle" s__law_drawn_circle, dfn "_law_drawn_filling" s__law_drawn_filling, dfn "_law_all_hands" s__law_all_hands, dfn "_law_begun" s__law_begun, dfn "_law_one_beat" s__law_one_beat, dfn "_law_shape" s__law_shape, dfn "_law_till_again" s__law_till_again, dfn "_law_all_fillings" s__law_all_fillings, dfn "_law_longest" s__law_longest, dfn "law" s_law]
def fa : List He.Fa := sfs.flatMap Sf.fa ++ [.glo "is_within", .glo "is_right_person", .glo "are_people", .glo "is_right_circle", .glo "is_right_filling", .glo "need_circle", .glo "need_filling", .glo "need_number", .glo "first_standing", .glo "givers_of", .glo "later", .glo "stepped", .glo "walked", .glo "times_of", .glo "fillings_of", .glo "lead_from", .glo "count_fillings", .glo "round_of", .glo "longest_lead", .glo "_law_source", .glo "_law_pick", .glo "_law_chosen", .glo "_law_error", .glo "_law_refused", .glo "_law_by_two", .glo "_law_drawn_person", .glo "_law_drawn_circle", .glo "_law_drawn_filling", .glo "_law_all_hands", .glo "_law_begun", .glo "_law_one_beat", .glo "_law_shape", .glo "_law_till_again", .glo "_law_all_fillings", .glo "_law_longest", .glo "law"]
def ex (K : PySem.W.Frag) : Bool := noLists K && (apartT tf K && (isxB K goodX allX && (exmB K goodX)))
theorem ex_lists {K : PySem.W.Frag} (h : ex K = true) : noLists K = true := (Bool.and_eq_true_iff.mp h).1
theorem ex_apart {K : PySem.W.Frag} (h : ex K = true) : apartT tf K = true := (Bool.and_eq_true_iff.mp (Bool.and_eq_true_iff.mp h).2).1
theorem ex_isx {K : PySem.W.Frag} (h : ex K = true) : isxB K goodX allX = true := (Bool.and_eq_true_iff.mp (Bool.and_eq_true_iff.mp (Bool.and_eq_true_iff.mp h).2).2).1
theorem ex_exm {K : PySem.W.Frag} (h : ex K = true) : exmB K goodX = true := (Bool.and_eq_true_iff.mp (Bool.and_eq_true_iff.mp (Bool.and_eq_true_iff.mp h).2).2).2
theorem mem_all : ∀ y ∈ allX, He.Fa.glo y ∈ fa := hasGlo_ok (by decide +kernel)
theorem mem_good : ∀ y ∈ goodX, He.Fa.glo y ∈ fa := hasGlo_ok (by decide +kernel)
end
end Lw
namespace Lw
open PySem Pd
theorem is_within_int (i lo hi : Int) (M : Mem) : f_is_within [.int i, .int lo, .int hi] M = .ok (.bl (decide (lo ≤ i) && decide (i ≤ hi))) M := by
  unfold f_is_within fnOf
  by_cases h1 : lo ≤ i <;> by_cases h2 : i ≤ hi <;> simp [d_is_within, h1, h2]
theorem is_within_no {d : D} {t : String} (lo hi : Int) (M : Mem) (ht : tyOf M d = some t) (h : t = "NoneType" ∨ t = "bool" ∨ t = "str" ∨ t = "tuple" ∨ t = "list") : f_is_within [d, .int lo, .int hi] M = .ok (.bl false) M := by
  unfold f_is_within fnOf
  rcases h with h | h | h | h | h <;> subst h <;> simp [d_is_within, oIsi, ht, isiT]
abbrev P3 := Int × Int × Int
def ep (p : P3) : D := .tup [.int p.1, .int p.2.1, .int p.2.2]
def ec (c : List P3) : D := .tup (c.map ep)
def okP (p : P3) : Prop := (1 ≤ p.1 ∧ p.1 ≤ 9) ∧ (1 ≤ p.2.1 ∧ p.2.1 ≤ 9) ∧ 1 ≤ p.2.2 ∧ p.2.2 ≤ 3
instance (p : P3) : Decidable (okP p) := by unfold okP; exact inferInstance
def okC (c : List P3) : Prop := (2 ≤ c.length ∧ c.length ≤ 12) ∧ ∀ p ∈ c, okP p
theorem below_ep (n : Nat) (p : P3) : belowD n (ep p) = true := rfl
theorem below_map {α : Type} {n : Nat} {f : α → D} (h : ∀ a, belowD n (f a) = true) (l : List α) : belowL n (l.map f) = true := by
  induction l with
  | nil => rfl
  | cons a l ih => rw [List.map_cons]; unfold belowL; rw [h a, ih]; rfl
theorem is_right_person_ep (p : P3) (M : Mem) : f_is_right_person [ep p] M = .ok (.bl (decide (okP p))) M := by
  unfold f_is_right_person fnOf
  by_cases h1 : 1 ≤ p.1 <;> by_cases h2 : p.1 ≤ 9 <;> by_cases h3 : 1 ≤ p.2.1 <;> by_cases h4 : p.2.1 ≤ 9 <;> by_cases h5 : 1 ≤ p.2.2 <;> by_cases h6 : p.2.2 ≤ 3 <;>
    simp [d_is_right_person, ep, is_within_int, okP, h1, h2, h3, h4, h5, h6]
theorem is_right_person_ok {p : P3} (h : okP p) (M : Mem) : f_is_right_person [ep p] M = .ok (.bl true) M := by
  rw [is_right_person_ep, decide_eq_true h]
@[simp] theorem gc_ec {M G : Mem} {c : List P3} : gcR M (.ok (ec c) (M ++ G)) = .ok (ec c) M := gc_val (below_map (fun _ => rfl) _)
@[simp] theorem gc_ec0 {M : Mem} {c : List P3} : gcR M (.ok (ec c) M) = .ok (ec c) M := gc_val0 (below_map (fun _ => rfl) _)
theorem need_number_ok {i lo hi : Int} (h1 : lo ≤ i) (h2 : i ≤ hi) (M : Mem) : f_need_number [.int i, .int lo, .int hi] M = .ok .non M := by
  unfold f_need_number fnOf
  simp [d_need_number, is_within_int, h1, h2]
theorem need_number_no {d : D} {lo hi : Int} (M : Mem) (h : f_is_within [d, .int lo, .int hi] M = .ok (.bl false) M) : f_need_number [d, .int lo, .int hi] M = .exc ⟨"InvalidNumber", []⟩ M := by
  unfold f_need_number fnOf
  simp [d_need_number, h]
def handsI (c : List P3) : Int := (c.map (·.2.2)).sum
def carriesI (c : List P3) : Int := (c.map (·.1)).sum
def backsI (c : List P3) : Int := (c.map (·.2.1)).sum
abbrev few (c : List P3) : Prop := c.length ≤ 100000
theorem few_sz {c : List P3} (h : few c) : c.length ≤ sizeLine := Nat.le_trans h (by decide)
/-- a comprehension over people -/
theorem lc1_ok {c : List P3} {i : Nat} {f : P3 → D} {te : EF D} {δ : DEnv} {M M1 : Mem} {src : EF Src} (hc : few c) (hs : src δ M = .ok (.items (c.map ep)) M1)
    (h : ∀ p ∈ c, ∀ acc, te ((wipeD δ [i]).set i (some (ep p))) (M1 ++ [MO.lst acc]) = .ok (f p) (M1 ++ [MO.lst acc])) :
    dLc [i] src (gNm i) tTrue te δ M = .ok (.ref M1.length) (M1 ++ [MO.lst (c.map f)]) := by
  rw [dLc_map (l := c.map ep) (M1 := M1) (fun d => match d with | .tup [.int x, .int y, .int z] => f (x, y, z) | _ => .non) hs (by simpa using few_sz hc) fun d hd acc => ?_]
  · simp [Function.comp_def, ep]
  · obtain ⟨p, hp, rfl⟩ := List.mem_map.mp hd
    exact ⟨_, rfl, by simpa [ep] using h p hp acc⟩
theorem lc3_ok {c : List P3} {i j k : Nat} {f : P3 → D} {te : EF D} {δ : DEnv} {M M1 : Mem} {src : EF Src} (hc : few c) (hs : src δ M = .ok (.items (c.map ep)) M1)
    (h : ∀ p ∈ c, ∀ acc, te ((((wipeD δ [i, j, k]).set i (some (.int p.1))).set j (some (.int p.2.1))).set k (some (.int p.2.2))) (M1 ++ [MO.lst acc]) = .ok (f p) (M1 ++ [MO.lst acc])) :
    dLc [i, j, k] src (gTp 3 (gsCons (gNm i) (gsCons (gNm j) (gsCons (gNm k) gsNil)))) tTrue te δ M = .ok (.ref M1.length) (M1 ++ [MO.lst (c.map f)]) := by
  rw [dLc_map (l := c.map ep) (M1 := M1) (fun d => match d with | .tup [.int x, .int y, .int z] => f (x, y, z) | _ => .non) hs (by simpa using few_sz hc) fun d hd acc => ?_]
  · simp [Function.comp_def, ep]
  · obtain ⟨p, hp, rfl⟩ := List.mem_map.mp hd
    exact ⟨_, rfl, by simpa [ep] using h p hp acc⟩
end Lw
namespace Lw
open PySem Pd Hr
/-! ### the readings of the beats -/
def eh (l : List Int) : D := .tup (l.map .int)
def epr (p : List Int × List Int) : D := .tup [eh p.1, eh p.2]
def es (s : Stg) : D := .tup (s.map epr)
def eg (g : List Nat) : D := .tup (g.map fun i : Nat => .int i)
theorem eg_eh (g : List Nat) : eg g = eh (g.map fun i : Nat => (i : Int)) := by unfold eg eh; rw [List.map_map]; rfl
theorem below_eh (n : Nat) (l : List Int) : belowD n (eh l) = true := below_map (fun _ => rfl) l
theorem below_eg (n : Nat) (g : List Nat) : belowD n (eg g) = true := below_map (fun _ => rfl) g
theorem below_epr (n : Nat) (p : List Int × List Int) : belowD n (epr p) = true := by
  show belowL n [eh p.1, eh p.2] = true
  exact belowL_all fun d hd => by
    simp only [List.mem_cons, List.not_mem_nil, or_false] at hd
    rcases hd with e | e <;> subst e <;> exact below_eh _ _
theorem below_es (n : Nat) (s : Stg) : belowD n (es s) = true := below_map (fun p => below_epr n p) s
theorem rep_zero (k : Nat) : (List.replicate k [D.int 0]).flatten = (List.replicate k (0 : Int)).map D.int := by
  induction k with
  | zero => rfl
  | succ k ih => rw [List.replicate_succ, List.replicate_succ, List.flatten_cons, ih]; rfl
theorem ec_get {c : List P3} {i : Nat} (h : i < c.length) : (c.map ep)[i]? = some (ep (who c i)) := by
  rw [List.getElem?_map, List.getElem?_eq_getElem h]
  unfold who
  rw [List.getD_eq_getElem?_getD, List.getElem?_eq_getElem h]
  rfl
theorem ef_get {f : List Int} {i : Nat} (h : i < f.length) : (f.map D.int)[i]? = some (.int (f.getD i 0)) := by
  rw [List.getElem?_map, List.getElem?_eq_getElem h, List.getD_eq_getElem?_getD, List.getElem?_eq_getElem h]
  rfl
theorem es_get {s : Stg} {i : Nat} (h : i < s.length) : (s.map epr)[i]? = some (epr (at' s i)) := by
  rw [List.getElem?_map, List.getElem?_eq_getElem h]
  unfold at'
  rw [List.getD_eq_getElem?_getD, List.getElem?_eq_getElem h]
  rfl
theorem ix_es {s : Stg} {i : Nat} (h : i < s.length) (M : Mem) : oIx (es s) (.int i) M = some (epr (at' s i), M) := by
  show oIx (.tup (s.map epr)) (.int i) M = _
  rw [oIx_tup, atI_nat (es_get h)]
  rfl
theorem ix_ec {c : List P3} {i : Nat} (h : i < c.length) (M : Mem) : oIx (ec c) (.int i) M = some (ep (who c i), M) := by
  show oIx (.tup (c.map ep)) (.int i) M = _
  rw [oIx_tup, atI_nat (ec_get h)]
  rfl
theorem su_mod {n i : Nat} : ((i : Int) + 1) % (n : Int) = ((su n i : Nat) : Int) := by
  unfold su
  rw [Int.natCast_emod]
  rfl
theorem pr_mod {n i : Nat} (h : 0 < n) : ((i : Int) - 1) % (n : Int) = ((pr n i : Nat) : Int) := by
  unfold pr
  rw [Int.natCast_emod, ← Int.add_emod_right, show ((i + n - 1 : Nat) : Int) = (i : Int) - 1 + n by omega]
theorem eq_rdy (l : List Int) (M : Mem) : oEq (.tup ((l.map D.int).take 1)) (.tup [.int 0]) M = some (.bl (rdy l), M) := by
  cases l with
  | nil =>
    show oEq (.tup []) (.tup [.int 0]) M = _
    rw [oEq_pln (n := 1) (m := 1) rfl rfl (by decide) (by decide), deq_ne (by simp)]
    rfl
  | cons x l =>
    show oEq (.tup [.int x]) (.tup [.int 0]) M = _
    rw [oEq_pln (n := 1) (m := 1) rfl rfl (by decide) (by decide)]
    by_cases e : x = 0
    · subst e
      rw [deq_refl]
      rfl
    · rw [deq_ne (by simp [e])]
      show _ = some (D.bl (decide (x = 0)), M)
      rw [decide_eq_false e]
theorem givers_of_ok {s : Stg} (h0 : 0 < s.length) (h1 : s.length ≤ 1000) (M : Mem) : f_givers_of [es s] M = .ok (eg (giversL s)) M := by
  have hz : sizeLine = 16777216 := sizeLine_val
  have len : ∀ M, oLen [es s] M = some (.int s.length, M) := fun M => by simp [es]
  have i0 : ∀ p M, oIx (epr p) (.int 0) M = some (eh p.1, M) := fun p M => by simp [epr]
  have i1 : ∀ p M, oIx (epr p) (.int 1) M = some (eh p.2, M) := fun p M => by simp [epr]
  have sl : ∀ l M, oSl (eh l) none (some 1) M = some (.tup ((l.map D.int).take 1), M) := fun l M => by
    show oSl (.tup _) none (some ((1 : Nat) : Int)) M = _
    rw [oSl_tup, cutD_to]
  unfold f_givers_of
  refine fn_of ?_
  unfold d_givers_of
  show WP ((sSeq _ _) [some (es s), none, none, none, none] M) _
  rw [e_sSeq]
  refine wp_next (s_asg (d := .ref M.length) (M1 := onL M [] []) (by simp [hz, onL])) ?_
  simp only [List.set, e_sSeq]
  refine wp_rng s.length (fun i δ M' => (∃ x2 x3 x4, δ = [some (es s), some (.ref M.length), x2, x3, x4]) ∧ M' = onL M (((List.range i).filter fun i => rdy (at' s i).1 && rdy (at' s (su s.length i)).2).map fun i : Nat => D.int i) []) ⟨_, dRng1_ok (j := s.length) (by simp [len]) (by omega), ⟨_, _, _, rfl⟩, rfl⟩ ?_ ?_
  · rintro i hi δ M' ⟨⟨x2, x3, x4, rfl⟩, rfl⟩
    have hs := su_lt (n := s.length) (i := i) h0
    have md : ∀ M, oMod (.int ((i : Int) + 1)) (.int s.length) M = some (.int ((su s.length i : Nat) : Int), M) := fun M => by rw [oMod_int (by omega), su_mod]
    have a1 := fun M => ix_es hi M
    have a2 := fun M => ix_es hs M
    have q1 := fun M => eq_rdy (at' s i).1 M
    have q2 := fun M => eq_rdy (at' s (su s.length i)).2 M
    generalize hA : ((List.range i).filter fun i => rdy (at' s i).1 && rdy (at' s (su s.length i)).2).map (fun i : Nat => D.int i) = A
    have lA : A.length ≤ i := by
      rw [← hA, List.length_map]
      exact Nat.le_trans (List.length_filter_le _ _) (by rw [List.length_range]; exact Nat.le_refl _)
    have nx : ((List.range (i + 1)).filter fun i => rdy (at' s i).1 && rdy (at' s (su s.length i)).2).map (fun i : Nat => D.int i) = A ++ (if (rdy (at' s i).1 && rdy (at' s (su s.length i)).2) = true then [D.int i] else []) := by
      rw [List.range_succ, List.filter_append, List.map_append, hA]
      congr 1
      by_cases g : (rdy (at' s i).1 && rdy (at' s (su s.length i)).2) = true <;> simp [g]
    have ap : ∀ d : D, oApp (.ref M.length) [d] (onL M A []) = some (.non, onL M (A ++ [d]) []) := fun d => oApp_onL (by omega)
    simp only [e_gNm, onG_some, List.set, e_sSeq]
    refine wp_next (δ := [some (es s), some (.ref M.length), some (.int i), some (eh (at' s i).1), some (eh (at' s (su s.length i)).2)]) (M := onL M A []) (by simp [len, md, a1, a2, i0, i1]) ?_
    cases g1 : rdy (at' s i).1 <;> cases g2 : rdy (at' s (su s.length i)).2 <;> rw [g1, g2] at nx <;> simp at nx <;> rw [g1] at q1 <;> rw [g2] at q2 <;> simp [sl, hz, q1, q2, isLst_onL, ap, nx]
  · rintro δ M' ⟨⟨x2, x3, x4, rfl⟩, rfl⟩
    have tt : ∀ A, oToTup [.ref M.length] (onL M A []) = some (.tup A, onL M A []) := fun A => by rw [oToTup_ref, seqOf_onL]; rfl
    simp [tt]
    exact gc_val (below_eg _ _)
theorem oSorted_ok {n : Nat} {M : Mem} {ns : List Int} (h : seqOf M n = some (ns.map .int)) (hl : ns.length < 64) : oSorted [.ref n] M = some (.ref M.length, M ++ [.lst ((sortI ns).map D.int)]) := by
  show (match (seqOf M n).bind intsD with
    | some ns => if ns.length < 64 then some (D.ref M.length, M ++ [MO.lst ((sortI ns).map D.int)]) else none
    | none => none) = _
  rw [h, Option.bind_some, intsD_ints]
  dsimp only
  rw [if_pos hl]
theorem later_ok {b : List Int} (h : b.length ≤ 60) (gone : Bool) (new : Int) (M : Mem) : f_later [eh b, .bl gone, .int new] M = .ok (eh (laterL b gone new)) M := by
  have hz : sizeLine = 16777216 := sizeLine_val
  obtain ⟨l, hl⟩ : ∃ l, (if gone = true then b.drop 1 else b) = l := ⟨_, rfl⟩
  have ll : l.length ≤ 60 := by
    rw [← hl]
    split
    · rw [List.length_drop]; omega
    · exact h
  have sl : ∀ M, oSl (eh b) (some 1) none M = some (eh (b.drop 1), M) := fun M => by
    show oSl (.tup _) (some ((1 : Nat) : Int)) none M = _
    rw [oSl_tup, cutD_from, ← List.map_drop]
    rfl
  have e1 : dIf (tV (dVar 1)) (dSl (dVar 0) (dPart (dC (.int 1))) dNoP) (dVar 0) [some (eh b), some (.bl gone), some (.int new), none, none, none] M = .ok (eh l) M := by
    rw [← hl]
    cases gone <;> simp [sl]
  have lc : dLc [4] (dSeqSrc (dVar 3)) (gNm 4) (tTrue) (dBlt oMax (aCons (dC (.int 0)) (aCons (dBin oSub (dVar 4) (dC (.int 1))) aNil))) [some (eh b), some (.bl gone), some (.int new), some (eh l), none, none] M = .ok (.ref M.length) (M ++ [.lst ((l.map dec1).map D.int)]) := by
    rw [dLc_map (l := l.map D.int) (M1 := M) (fun d => match d with
      | .int x => .int (dec1 x)
      | d => d) (dSeqSrc_tup rfl) (by rw [List.length_map]; omega) fun d hd acc => ?_]
    · rw [List.map_map, List.map_map]
      rfl
    · obtain ⟨x, _, rfl⟩ := List.mem_map.mp hd
      exact ⟨_, rfl, by simp [wipeD, dec1]⟩
  have e2 : dIf (tV (dBin oGt (dVar 2) (dC (.int 0)))) (dLst (aCons (dBin oSub (dVar 2) (dC (.int 1))) aNil)) (dLst (aNil)) [some (eh b), some (.bl gone), some (.int new), some (eh l), none, some (.ref M.length)] (M ++ [.lst ((l.map dec1).map D.int)]) = .ok (.ref (M.length + 1)) (M ++ [.lst ((l.map dec1).map D.int), .lst ((if 0 < new then [new - 1] else []).map D.int)]) := by
    by_cases g : 0 < new <;> simp [g, hz]
  have ad : oAdd (.ref M.length) (.ref (M.length + 1)) (M ++ [.lst ((l.map dec1).map D.int), .lst ((if 0 < new then [new - 1] else []).map D.int)]) = some (.ref (M.length + 2), M ++ [.lst ((l.map dec1).map D.int), .lst ((if 0 < new then [new - 1] else []).map D.int), .lst ((l.map dec1 ++ if 0 < new then [new - 1] else []).map D.int)]) := by
    rw [oAdd_lst (l := (l.map dec1).map D.int) (m := (if 0 < new then [new - 1] else []).map D.int) (by rw [lstOf_new0]; rfl) (by rw [lstOf_new]; rfl) (by
      rw [List.length_map, List.length_map, List.length_map]
      split <;> simp <;> omega)]
    simp
  generalize hL : l.map dec1 ++ (if 0 < new then [new - 1] else []) = L at ad
  have lL : L.length < 64 := by
    rw [← hL, List.length_append, List.length_map]
    split <;> simp <;> omega
  have so : oSorted [.ref (M.length + 2)] (M ++ [.lst ((l.map dec1).map D.int), .lst ((if 0 < new then [new - 1] else []).map D.int), .lst (L.map D.int)]) = some (.ref (M.length + 3), M ++ [.lst ((l.map dec1).map D.int), .lst ((if 0 < new then [new - 1] else []).map D.int), .lst (L.map D.int), .lst ((sortI L).map D.int)]) := by
    rw [oSorted_ok (ns := L) (by rw [seqOf_new]; rfl) lL]
    simp
  have tt : oToTup [.ref (M.length + 3)] (M ++ [.lst ((l.map dec1).map D.int), .lst ((if 0 < new then [new - 1] else []).map D.int), .lst (L.map D.int), .lst ((sortI L).map D.int)]) = some (eh (sortI L), M ++ [.lst ((l.map dec1).map D.int), .lst ((if 0 < new then [new - 1] else []).map D.int), .lst (L.map D.int), .lst ((sortI L).map D.int)]) := by
    rw [oToTup_ref, seqOf_new]
    rfl
  have lt : laterL b gone new = sortI L := by unfold laterL; rw [hl, hL]
  rw [lt]
  unfold f_later
  refine fn_of ?_
  unfold d_later
  show WP ((sSeq _ _) [some (eh b), some (.bl gone), some (.int new), none, none, none] M) _
  rw [e_sSeq, s_asg e1, seqK_nx, e_sSeq]
  simp only [List.set]
  rw [s_asg lc, seqK_nx, e_sSeq]
  simp only [List.set]
  generalize dIf (tV (dBin oGt (dVar 2) (dC (.int 0)))) (dLst (aCons (dBin oSub (dVar 2) (dC (.int 1))) aNil)) (dLst (aNil)) = E at e2
  rw [s_ret (d := eh (sortI L)) (M1 := M ++ [.lst ((l.map dec1).map D.int), .lst ((if 0 < new then [new - 1] else []).map D.int), .lst (L.map D.int), .lst ((sortI L).map D.int)]) (by
    simp only [e_dBlt, e_aCons, e_dBin, e_dVar, List.getElem?_cons_succ, List.getElem?_cons_zero, varK_some, bind_ok, e2, ad, ofV_some, e_aNil, so, tt]), seqK_rt]
  rw [wp_rt]
  exact gc_val (below_eh _ _)
end Lw
namespace Lw
open PySem Pd Hr
def ef (f : List Int) : D := .tup (f.map .int)
theorem below_ef (n : Nat) (l : List Int) : belowD n (ef l) = true := below_map (fun _ => rfl) l
theorem OkCF.flv {c : List P3} {f : List Int} (h : OkCF c f) {i : Nat} (hi : i < c.length) : f.getD i 0 = ((Fl f i : Nat) : Int) ∧ (who c i).2.2 - f.getD i 0 = ((Gl c f i : Nat) : Int) := by
  have := h.fl i hi
  unfold Fl Gl Hd Fl
  omega
theorem first_standing_ok {c : List P3} {f : List Int} (h : OkCF c f) (hc : c.length ≤ 1000) (hb : ∀ i, i < c.length → (who c i).2.2 ≤ 1000) (M : Mem) : f_first_standing [ec c, ef f] M = .ok (es (firstL c f)) M := by
  have hz : sizeLine = 16777216 := sizeLine_val
  have i2 : ∀ p M, oIx (ep p) (.int 2) M = some (.int p.2.2, M) := fun p M => by simp [ep]
  have len := h.len
  unfold f_first_standing
  refine fn_of ?_
  unfold d_first_standing
  show WP ((sSeq _ _) [some (ec c), some (ef f), none, none, none] M) _
  rw [e_sSeq]
  refine wp_next (s_asg (d := .ref M.length) (M1 := onL M [] []) (by simp [hz, onL])) ?_
  simp only [List.set, e_sSeq]
  have lp : (pairsD (c.map ep) (f.map D.int)).length = c.length := by rw [pairsD_length, List.length_map, List.length_map]; omega
  refine wp_for (pairsD (c.map ep) (f.map D.int)) (fun i δ M' => (∃ x3 x4, δ = [some (ec c), some (ef f), some (.ref M.length), x3, x4]) ∧ M' = onL M ((List.range i).map fun i => epr (List.replicate (Fl f i) 0, List.replicate (Gl c f i) 0)) []) ⟨onL M [] [], by unfold dZip; simp [ec, ef], ⟨_, _, rfl⟩, rfl⟩ ?_ ?_
  · rintro i d hd δ M' ⟨⟨x3, x4, rfl⟩, rfl⟩
    have hi : i < c.length := by rw [← lp]; exact (List.getElem?_eq_some_iff.mp hd).1
    rw [pairsD_get, ec_get hi, ef_get (by omega)] at hd
    cases hd
    obtain ⟨v1, v2⟩ := OkCF.flv h hi
    have hf := h.fl i hi
    have hb' := hb i hi
    have m1 : ∀ M, oMul (.tup [.int 0]) (.int (f.getD i 0)) M = some (eh (List.replicate (Fl f i) 0), M) := fun M => by
      rw [v1, oMul_tup [.int 0] (Fl f i) M (by simp; omega) (by omega), rep_zero]
      rfl
    have m2 : ∀ M, oMul (.tup [.int 0]) (.int ((who c i).2.2 - f.getD i 0)) M = some (eh (List.replicate (Gl c f i) 0), M) := fun M => by
      rw [v2, oMul_tup [.int 0] (Gl c f i) M (by simp; omega) (by omega), rep_zero]
      rfl
    generalize f.getD i 0 = v at *
    generalize hA : (List.range i).map (fun i => epr (List.replicate (Fl f i) 0, List.replicate (Gl c f i) 0)) = A
    have lA : A.length = i := by rw [← hA, List.length_map, List.length_range]
    have nx : (List.range (i + 1)).map (fun i => epr (List.replicate (Fl f i) 0, List.replicate (Gl c f i) 0)) = A ++ [epr (List.replicate (Fl f i) 0, List.replicate (Gl c f i) 0)] := by
      rw [List.range_succ, List.map_append, hA]
      rfl
    have ap : ∀ d : D, oApp (.ref M.length) [d] (onL M A []) = some (.non, onL M (A ++ [d]) []) := fun d => oApp_onL (by omega)
    simp [i2, m1, m2, hz, isLst_onL, ap, nx]
    rfl
  · rintro δ M' ⟨⟨x3, x4, rfl⟩, rfl⟩
    have tt : ∀ A, oToTup [.ref M.length] (onL M A []) = some (.tup A, onL M A []) := fun A => by rw [oToTup_ref, seqOf_onL]; rfl
    have e : es (firstL c f) = .tup ((List.range (pairsD (c.map ep) (f.map D.int)).length).map fun i => epr (List.replicate (Fl f i) 0, List.replicate (Gl c f i) 0)) := by
      unfold es firstL
      rw [List.map_map, lp]
      rfl
    rw [e]
    simp only [e_sSeq, e_sRet, e_dBlt, e_aCons, e_dVar, List.getElem?_cons_succ, List.getElem?_cons_zero, varK_some, bind_ok, e_aNil, tt, ofV_some, onV_ok, seqK_rt, wp_rt]
    exact gc_val (by rw [← e]; exact below_es _ _)
theorem in_eg (i : Nat) (g : List Nat) (M : Mem) : oIn (.int i) (eg g) M = some (.bl (decide (i ∈ g)), M) := by
  rw [eg_eh]
  show oIn (.int i) (.tup _) M = _
  rw [oIn_ints]
  congr 3
  rw [Bool.eq_iff_iff, decide_eq_true_iff, decide_eq_true_iff, List.mem_map]
  exact ⟨fun ⟨j, h, e⟩ => by have : j = i := by omega
                             subst this; exact h, fun h => ⟨i, h, rfl⟩⟩
theorem stepped_ok {c : List P3} {s : Stg} (h0 : 0 < c.length) (hc : c.length ≤ 1000) (hs : s.length = c.length) (hl : ∀ i, i < c.length → (at' s i).1.length ≤ 60 ∧ (at' s i).2.length ≤ 60) (M : Mem) : f_stepped [ec c, es s] M = .ok (.tup [es (stepL c s), eg (giversL s)]) M := by
  have hz : sizeLine = 16777216 := sizeLine_val
  have i0 : ∀ p M, oIx (ep p) (.int 0) M = some (.int p.1, M) := fun p M => by simp [ep]
  have i1 : ∀ p M, oIx (ep p) (.int 1) M = some (.int p.2.1, M) := fun p M => by simp [ep]
  have j0 : ∀ p M, oIx (epr p) (.int 0) M = some (eh p.1, M) := fun p M => by simp [epr]
  have j1 : ∀ p M, oIx (epr p) (.int 1) M = some (eh p.2, M) := fun p M => by simp [epr]
  have lc : ∀ M, oLen [ec c] M = some (.int c.length, M) := fun M => by simp [ec]
  have gv := fun M => givers_of_ok (s := s) (by omega) (by omega) M
  generalize hg : giversL s = g at gv
  unfold f_stepped
  refine fn_of ?_
  unfold d_stepped
  show WP ((sSeq _ _) [some (ec c), some (es s), none, none, none, none, none, none, none, none] M) _
  rw [e_sSeq]
  refine wp_next (s_asg (d := eg g) (M1 := M) (by simp [gv])) ?_
  simp only [List.set, e_sSeq]
  refine wp_next (s_asg (d := .ref M.length) (M1 := onL M [] []) (by simp [hz, onL])) ?_
  simp only [List.set, e_sSeq]
  have ll : (enumD 0 (c.map ep)).length = c.length := by rw [enumD_length, List.length_map]
  refine wp_for (enumD 0 (c.map ep)) (fun i δ M' => (∃ x4 x5 x6 x7 x8 x9, δ = [some (ec c), some (es s), some (eg g), some (.ref M.length), x4, x5, x6, x7, x8, x9]) ∧ M' = onL M ((List.range i).map fun i => epr (laterL (at' s i).1 (decide (i ∈ g)) (if decide (pr c.length i ∈ g) = true then (who c i).1 else 0), laterL (at' s i).2 (decide (pr c.length i ∈ g)) (if decide (i ∈ g) = true then (who c i).2.1 else 0))) []) ⟨onL M [] [], dEnum_tup rfl, ⟨_, _, _, _, _, _, rfl⟩, rfl⟩ ?_ ?_
  · rintro i d hd δ M' ⟨⟨x4, x5, x6, x7, x8, x9, rfl⟩, rfl⟩
    have hi : i < c.length := by rw [← ll]; exact (List.getElem?_eq_some_iff.mp hd).1
    rw [enumD_get, ec_get hi, Nat.zero_add] at hd
    cases hd
    have hi' : i < s.length := by omega
    have pm : ∀ M, oMod (.int ((i : Int) - 1)) (.int c.length) M = some (.int ((pr c.length i : Nat) : Int), M) := fun M => by rw [oMod_int (by omega), pr_mod h0]
    have ie := fun M => in_eg i g M
    have ip := fun M => in_eg (pr c.length i) g M
    have a1 := fun M => ix_es hi' M
    obtain ⟨l1, l2⟩ := hl i hi
    have lt1 := fun new M => later_ok l1 (decide (i ∈ g)) new M
    have lt2 := fun new M => later_ok l2 (decide (pr c.length i ∈ g)) new M
    generalize hA : (List.range i).map (fun i => epr (laterL (at' s i).1 (decide (i ∈ g)) (if decide (pr c.length i ∈ g) = true then (who c i).1 else 0), laterL (at' s i).2 (decide (pr c.length i ∈ g)) (if decide (i ∈ g) = true then (who c i).2.1 else 0))) = A
    have lA : A.length = i := by rw [← hA, List.length_map, List.length_range]
    have nx : (List.range (i + 1)).map (fun i => epr (laterL (at' s i).1 (decide (i ∈ g)) (if decide (pr c.length i ∈ g) = true then (who c i).1 else 0), laterL (at' s i).2 (decide (pr c.length i ∈ g)) (if decide (i ∈ g) = true then (who c i).2.1 else 0))) = A ++ [epr (laterL (at' s i).1 (decide (i ∈ g)) (if decide (pr c.length i ∈ g) = true then (who c i).1 else 0), laterL (at' s i).2 (decide (pr c.length i ∈ g)) (if decide (i ∈ g) = true then (who c i).2.1 else 0))] := by
      rw [List.range_succ, List.map_append, hA]
      rfl
    rw [nx]
    have ap : ∀ d : D, oApp (.ref M.length) [d] (onL M A []) = some (.non, onL M (A ++ [d]) []) := fun d => oApp_onL (by omega)
    generalize decide (i ∈ g) = b1 at *
    generalize decide (pr c.length i ∈ g) = b2 at *
    cases b1 <;> cases b2 <;> simp [lc, pm, ie, ip, a1, i0, i1, j0, j1, lt1, lt2, hz, isLst_onL, ap, epr] <;> exact ⟨⟨_, _, _, _, _, _, rfl⟩, rfl⟩
  · rintro δ M' ⟨⟨x4, x5, x6, x7, x8, x9, rfl⟩, rfl⟩
    have tt : ∀ A, oToTup [.ref M.length] (onL M A []) = some (.tup A, onL M A []) := fun A => by rw [oToTup_ref, seqOf_onL]; rfl
    have e : es (stepL c s) = .tup ((List.range (enumD 0 (c.map ep)).length).map fun i => epr (laterL (at' s i).1 (decide (i ∈ g)) (if decide (pr c.length i ∈ g) = true then (who c i).1 else 0), laterL (at' s i).2 (decide (pr c.length i ∈ g)) (if decide (i ∈ g) = true then (who c i).2.1 else 0))) := by
      unfold es stepL
      rw [List.map_map, ll, hg]
      rfl
    rw [e]
    simp only [e_sSeq, e_sRet, e_dTup, e_dBlt, e_aCons, e_dVar, List.getElem?_cons_succ, List.getElem?_cons_zero, varK_some, bind_ok, e_aNil, tt, ofV_some]
    rw [if_pos (by simp [hz]), onV_ok, seqK_rt, wp_rt]
    refine gc_val ?_
    rw [← e]
    exact belowL_all fun d hd => by
      simp only [List.mem_cons, List.not_mem_nil, or_false] at hd
      rcases hd with e | e <;> subst e
      · exact below_es _ _
      · exact below_eg _ _
/-- no row grows -/
theorem run_small {c : List P3} {f : List Int} (h : OkCF c f) (hh : ∀ i, i < c.length → (who c i).1 ≤ 9 ∧ (who c i).2.1 ≤ 9 ∧ (who c i).2.2 ≤ 3) (t : Nat) : ∀ i, i < c.length → (at' (runL c f t) i).1.length ≤ 60 ∧ (at' (runL c f t) i).2.length ≤ 60 := fun i hi => by
  rw [(run_ok h t).1, at_map hi]
  unfold shape queue
  dsimp only
  have pl : ∀ p k, k ≤ 9 → (pend p k t).length ≤ 8 := fun p k hk => by
    unfold pend
    refine Nat.le_trans (List.length_filterMap_le _ _) ?_
    rw [List.length_range]
    omega
  obtain ⟨h1, h2, h3⟩ := hh i hi
  have c1 := (h.c1 hi).2
  have b1 := (h.b1 hi).2
  have f1 := h.fl i hi
  have p1 := pl (fire c f (pr c.length i)) (Cy c i) (by omega)
  have p2 := pl (fire c f i) (Bk c i) (by omega)
  obtain ⟨n1, n2⟩ := N_le h hi t
  have gg := OkCF.fh h hi
  have hd : Hd c i ≤ 3 := by unfold Hd; omega
  have s1 : ∀ (p : Nat → Bool) (k t : Nat), cnt p (t + k) ≤ cnt p t + k := fun p k t => by
    induction k with
    | zero => exact Nat.le_refl _
    | succ k ih => have := cnt_step p (t + k); rw [show t + (k + 1) = t + k + 1 by omega]; omega
  have s2 : ∀ (p : Nat → Bool) (k : Nat), 1 ≤ k → cnt p (t + 1 - k) ≤ cnt p t := fun p k hk => cnt_mono p (by omega)
  have q1 : N c f (pr c.length i) t ≤ Gl c f i + N c f i t := Nat.le_trans n2 (Nat.add_le_add_left (s2 _ _ (OkCF.b1 h hi).1) _)
  have q2 : N c f i t ≤ Fl f i + N c f (pr c.length i) t := Nat.le_trans n1 (Nat.add_le_add_left (s2 _ _ (OkCF.c1 h hi).1) _)
  have r1 := s2 (fire c f (pr c.length i)) _ (OkCF.c1 h hi).1
  have r2 := s2 (fire c f i) _ (OkCF.b1 h hi).1
  have q1' : cnt (fire c f (pr c.length i)) t ≤ Gl c f i + cnt (fire c f i) t := q1
  have q2' : cnt (fire c f i) t ≤ Fl f i + cnt (fire c f (pr c.length i)) t := q2
  rw [List.length_append, List.length_replicate, List.length_append, List.length_replicate]
  omega
end Lw
namespace Lw
open PySem Pd
theorem mod_nn {a b : Int} (h : 0 < b) : 0 ≤ a % b ∧ a % b < b := ⟨Int.emod_nonneg _ (by omega), Int.emod_lt_of_pos _ h⟩
theorem pick_ok {s : Nat} {M : Mem} {n : Int} (h : okS M s) (hn : 0 < n) (hn2 : n < 2 ^ 60) : Dr s M (fun d => ∃ r, d = .int r ∧ 0 ≤ r ∧ r < n) (f__law_pick [.ref s, .int n] M) := by
  have hlt := h.lt
  obtain ⟨a, b, e, h1, h2, h3⟩ := h
  have sq := seqOf_lst e
  have i0 : oIx (.ref s) (.int 0) M = some (.int a, M) := by rw [oIx_lst sq]; simp
  have i1 : oIx (.ref s) (.int 1) M = some (.int b, M) := by rw [oIx_lst sq]; simp
  unfold Dr f__law_pick fnOf
  by_cases ha : 0 < a
  · obtain ⟨q1, q2⟩ := mod_nn (a := a) hn
    refine ⟨.int (a % n), a / n, b, ⟨_, rfl, q1, q2⟩, Int.ediv_nonneg h1 (by omega), h2, h3, ?_⟩
    have g := fun r => e_gSb (f := dVar 0) (i := dC (.int 0)) (d := .int (a / n)) (δ := [some (.ref s), some (.int n), some (.int r)]) (M := M) (n := s) (j := 0) (k := 0) (l := [.int a, .int b]) rfl rfl e rfl
    simp [d__law_pick, i0, ha, oMod_int hn, oFdiv_int hn (by omega : n < 2 ^ 64), g]
    exact gc_set0 rfl rfl
  · obtain ⟨q1, q2⟩ := mod_nn (a := b * 44497 + 9973) (b := 2147483647) (by omega)
    generalize hb' : (b * 44497 + 9973) % 2147483647 = b' at q1 q2
    obtain ⟨q3, q4⟩ := mod_nn (a := b' * b') (b := 2147483399) (by omega)
    obtain ⟨q5, q6⟩ := mod_nn (a := b' * b' % 2147483399 / 11) hn
    refine ⟨.int (b' * b' % 2147483399 / 11 % n), a, b', ⟨_, rfl, q5, q6⟩, h1, q1, by omega, ?_⟩
    have g := e_gSb (f := dVar 0) (i := dC (.int 1)) (d := .int b') (δ := [some (.ref s), some (.int n), none]) (M := M) (n := s) (j := 1) (k := 1) (l := [.int a, .int b]) rfl rfl e rfl
    have sq2 : seqOf (M.set s (srcM a b')) s = some [.int a, .int b'] := seqOf_lst (lstOf_set hlt)
    have i2 : oIx (.ref s) (.int 1) (M.set s (srcM a b')) = some (.int b', M.set s (srcM a b')) := by rw [oIx_lst sq2]; simp
    have m1 := oMul_int (M := M) (i := b) (j := 44497) (.inl ⟨by omega, by omega⟩)
    have m2 := oMul_int (M := M.set s (srcM a b')) (i := b') (j := b') (.inl ⟨by omega, by omega⟩)
    have g' : M.set s (MO.lst [D.int a, D.int b']) = M.set s (srcM a b') := rfl
    simp only [List.set] at g
    rw [g'] at g
    simp [d__law_pick, i0, i1, ha, m1, oMod_int (i := b * 44497 + 9973) (j := 2147483647) (M := M) (by omega), hb', g, i2, m2, oMod_int (i := b' * b') (j := 2147483399) (M := M.set s (srcM a b')) (by omega),
      oFdiv_int (i := b' * b' % 2147483399) (j := 11) (M := M.set s (srcM a b')) (by omega) (by omega), oMod_int (i := b' * b' % 2147483399 / 11) (M := M.set s (srcM a b')) hn]
    exact gc_set0 rfl rfl
theorem chosen_ok {s k : Nat} {M : Mem} {l : List D} (h : okS M s) (hl : seqOf M k = some l) (hk : k ≠ s) (h0 : 0 < l.length) (h1 : l.length < 100) (hb : belowL M.length l = true) : Dr s M (fun d => d ∈ l) (f__law_chosen [.ref s, .ref k] M) := by
  obtain ⟨d, a, b, ⟨r, rfl, r1, r2⟩, ha, hb1, hb2, e⟩ := pick_ok (n := l.length) h (by omega) (by omega)
  have sq : seqOf (M.set s (srcM a b)) k = some l := by rw [seqOf_set_ne hk, hl]
  obtain ⟨x, hx⟩ : ∃ x, l[r.toNat]? = some x := ⟨_, List.getElem?_eq_getElem (by omega)⟩
  have at_ : L2.atI l r = some x := by
    have := atI_nat hx
    rwa [show ((r.toNat : Nat) : Int) = r by omega] at this
  refine ⟨x, a, b, List.mem_of_getElem? hx, ha, hb1, hb2, ?_⟩
  have hbx : belowD M.length x = true := by
    have : ∀ (l : List D) (i : Nat), belowL M.length l = true → l[i]? = some x → belowD M.length x = true := by
      intro l
      induction l with
      | nil => intro i _ z; cases z
      | cons a l ih =>
        intro i hb hi
        unfold belowL at hb
        obtain ⟨b1, b2⟩ := Bool.and_eq_true_iff.mp hb
        cases i with
        | zero => cases hi; exact b1
        | succ i => exact ih i b2 (by simpa using hi)
    exact this l _ hb hx
  unfold f__law_chosen fnOf
  simp [d__law_chosen, oLen_lst hl, e, oIx_lst sq, at_]
  exact gc_set0 rfl hbx
/-- from a drawing on: the source goes on -/
theorem dr_next {s : Nat} {M : Mem} {P : D → Prop} {r : Res D} (h : Dr s M P r) (hs : s < M.length) : ∃ d a b, P d ∧ r = .ok d (M.set s (srcM a b)) ∧ Pd.okS (M.set s (srcM a b)) s ∧ 0 ≤ a ∧ 0 ≤ b ∧ b < 2 ^ 40 := by
  obtain ⟨d, a, b, hp, ha, hb, hb2, e⟩ := h
  exact ⟨d, a, b, hp, e, Pd.okS.set hs ha hb hb2, ha, hb, hb2⟩
theorem belowL_ints (n : Nat) (l : List Int) : belowL n (l.map D.int) = true := below_map (fun _ => rfl) l
theorem drawn_person_ok {s : Nat} {M : Mem} {most : Int} (h : okS M s) (hm : 1 ≤ most) (hm2 : most ≤ 9) : Dr s M (fun d => ∃ p, d = ep p ∧ okP p) (f__law_drawn_person [.ref s, .int most] M) := by
  have hs := h.lt
  have z3 : 3 ≤ sizeLine := by decide
  have z4 : 4 ≤ sizeLine := by decide
  -- how wide
  obtain ⟨d1, a1, b1, p1, e1, s1, _⟩ := dr_next (chosen_ok (s := s) (k := M.length) (M := M ++ [MO.lst [.int 2, .int 3, .int most]]) (l := [.int 2, .int 3, .int most]) h.app (seqOf_end rfl) (by omega) (by simp) (by simp) rfl) (by rw [List.length_append]; omega)
  rw [set_app hs] at e1 s1
  obtain ⟨wide, rfl, w1, w2⟩ : ∃ w : Int, d1 = .int w ∧ 1 ≤ w ∧ w ≤ 9 := by
    simp at p1
    rcases p1 with e | e | e
    · exact ⟨2, e, by omega, by omega⟩
    · exact ⟨3, e, by omega, by omega⟩
    · exact ⟨most, e, hm, hm2⟩
  generalize hM1 : M.set s (srcM a1 b1) ++ [MO.lst [D.int 2, .int 3, .int most]] = M1 at e1 s1
  -- carry, back
  obtain ⟨d2, a2, b2, ⟨r2, rfl, r21, r22⟩, e2, s2, _⟩ := dr_next (pick_ok (n := wide) s1 (by omega) (by omega)) s1.lt
  obtain ⟨d3, a3, b3, ⟨r3, rfl, r31, r32⟩, e3, s3, _⟩ := dr_next (pick_ok (n := wide) s2 (by omega) (by omega)) s2.lt
  rw [List.set_set] at e3 s3
  -- hands
  obtain ⟨d4, a4, b4, p4, e4, s4, q1, q2, q3⟩ := dr_next (chosen_ok (s := s) (k := (M1.set s (srcM a3 b3)).length) (M := M1.set s (srcM a3 b3) ++ [MO.lst [.int 1, .int 1, .int 2, .int 3]]) (l := [.int 1, .int 1, .int 2, .int 3]) s3.app (seqOf_end rfl) (by have := s3.lt; omega) (by simp) (by simp) rfl) (by rw [List.length_append]; have := s3.lt; omega)
  rw [set_app s3.lt, List.set_set] at e4 s4
  obtain ⟨hd, rfl, g1, g2⟩ : ∃ w : Int, d4 = .int w ∧ 1 ≤ w ∧ w ≤ 3 := by
    simp at p4
    rcases p4 with e | e | e <;> exact ⟨_, e, by omega, by omega⟩
  have hs1 := s1.lt
  refine ⟨ep (1 + r2, 1 + r3, hd), a4, b4, ⟨_, rfl, ⟨by show 1 ≤ 1 + r2; omega, by show 1 + r2 ≤ 9; omega⟩, ⟨by show 1 ≤ 1 + r3; omega, by show 1 + r3 ≤ 9; omega⟩, g1, g2⟩, q1, q2, q3, ?_⟩
  unfold f__law_drawn_person fnOf
  rw [List.length_set] at e4
  simp [d__law_drawn_person, z3, z4, e1, hM1, e2, e3, e4]
  rw [← hM1, set_app (by rw [List.length_set]; exact hs), List.set_set, List.append_assoc]
  exact gc_set rfl rfl
end Lw
namespace Lw
open PySem Pd
theorem drawn_circle_ok {s : Nat} {M : Mem} {many most : Int} (h : okS M s) (hm : 1 ≤ most) (hm2 : most ≤ 9) (h2 : 2 ≤ many) (h3 : many ≤ 12) : Dr s M (fun d => ∃ c : List P3, d = ec c ∧ okC c ∧ (c.length : Int) ≤ many) (f__law_drawn_circle [.ref s, .int many, .int most] M) := by
  have hs := h.lt
  obtain ⟨d1, a1, b1, ⟨r1, rfl, r11, r12⟩, e1, s1, _⟩ := dr_next (pick_ok (n := many - 1) h (by omega) (by omega)) hs
  obtain ⟨d2, a2, b2, ⟨one, rfl, hone⟩, e2, s2, _⟩ := dr_next (drawn_person_ok (most := most) s1 hm hm2) s1.lt
  rw [List.set_set] at e2 s2
  obtain ⟨d3, a3, b3, ⟨r3, rfl, r31, r32⟩, e3, s3, x1, x2, x3⟩ := dr_next (pick_ok (n := 4) s2 (by omega) (by omega)) s2.lt
  rw [List.set_set] at e3 s3
  obtain ⟨n, hn⟩ : ∃ n : Nat, 2 + r1 = n := ⟨(2 + r1).toNat, by omega⟩
  have loop := for_range (g := gNm 7) (n := n) (M := M.set s (srcM a3 b3)) (M1 := M.set s (srcM a3 b3)) (δ := [some (.ref s), some (.int many), some (.int most), some (.int (2 + r1)), some (.tup []), some (ep one), some (.bl (decide (r3 = 0))), none])
    (src := dRng1 (aCons (dVar 3) aNil)) (body := sSeq (sAsg (dBin oAdd (dVar 4) (dTup (aCons (dIf (tV (dVar 6)) (dVar 5) (dCall f__law_drawn_person 2 (aCons (dVar 0) (aCons (dVar 2) aNil)))) aNil))) (gNm 4)) (sNil))
    (fun i δ M' => ∃ (c : List P3) (x : Option D) (a b : Int), δ = [some (.ref s), some (.int many), some (.int most), some (.int (2 + r1)), some (ec c), some (ep one), some (.bl (decide (r3 = 0))), x] ∧ c.length = i ∧ (∀ p ∈ c, okP p) ∧ M' = M.set s (srcM a b) ∧ 0 ≤ a ∧ 0 ≤ b ∧ b < 2 ^ 40)
    (by
      refine dRng1_ok ?_ (by omega)
      simp [hn])
    ⟨[], none, a3, b3, rfl, rfl, (fun p hp => nomatch hp), rfl, x1, x2, x3⟩
    (fun i hi δ M' => by
      rintro ⟨c, x, a, b, rfl, hc, hp, rfl, ha, hb, hb2⟩
      have hz : sizeLine = 16777216 := rfl
      have z1 : 1 ≤ sizeLine := by decide
      have zc : (c.map ep).length + 1 ≤ sizeLine := by rw [List.length_map]; omega
      by_cases h0 : r3 = 0
      · refine ⟨_, _, [some (.ref s), some (.int many), some (.int most), some (.int (2 + r1)), some (ec (c ++ [one])), some (ep one), some (.bl (decide (r3 = 0))), some (.int i)], M.set s (srcM a b), rfl, ?_, c ++ [one], _, a, b, rfl, by simp [hc], fun p hp' => ?_, rfl, ha, hb, hb2⟩
        · simp [h0, z1, ec]
          rw [if_pos (by omega)]
          simp
        · rcases List.mem_append.mp hp' with z | z
          · exact hp p z
          · rw [List.mem_singleton.mp z]; exact hone
      · obtain ⟨d4, a4, b4, ⟨q, rfl, hq⟩, e4, s4, y1, y2, y3⟩ := dr_next (drawn_person_ok (M := M.set s (srcM a b)) (most := most) (okS.set hs ha hb hb2) hm hm2) (by rw [List.length_set]; exact hs)
        rw [List.set_set] at e4 s4
        refine ⟨_, _, [some (.ref s), some (.int many), some (.int most), some (.int (2 + r1)), some (ec (c ++ [q])), some (ep one), some (.bl (decide (r3 = 0))), some (.int i)], M.set s (srcM a4 b4), rfl, ?_, c ++ [q], _, a4, b4, rfl, by simp [hc], fun p hp' => ?_, rfl, y1, y2, y3⟩
        · simp [h0, z1, ec, e4]
          rw [if_pos (by omega)]
          simp
        · rcases List.mem_append.mp hp' with z | z
          · exact hp p z
          · rw [List.mem_singleton.mp z]; exact hq)
  obtain ⟨δ', M', e4, c, x, a, b, rfl, hc, hp, rfl, ha, hb, hb2⟩ := loop
  refine ⟨ec c, a, b, ⟨c, rfl, ⟨⟨by omega, by omega⟩, hp⟩, by omega⟩, ha, hb, hb2, ?_⟩
  unfold f__law_drawn_circle fnOf
  have z0 : 0 ≤ sizeLine := by decide
  simp [d__law_drawn_circle, e1, e2, e3, e4, -e_dIf]
  exact gc_set0 rfl (below_map (fun _ => rfl) _)
end Lw
namespace Lw
open PySem Pd Hr
theorem who_mem {c : List P3} {i : Nat} (h : i < c.length) : who c i ∈ c := by
  unfold who
  rw [List.getD_eq_getElem?_getD, List.getElem?_eq_getElem h]
  exact List.getElem_mem h
theorem okC.who {c : List P3} (h : okC c) {i : Nat} (hi : i < c.length) : okP (who c i) := h.2 _ (who_mem hi)
/-- a filling of a circle -/
def okF (c : List P3) (f : List Int) : Prop := f.length = c.length ∧ ∀ i, i < c.length → 0 ≤ f.getD i 0 ∧ f.getD i 0 ≤ (who c i).2.2
theorem okCF_of {c : List P3} {f : List Int} (hc : okC c) (hf : okF c f) : OkCF c f := ⟨by have := hc.1.1; omega, hf.1, fun i hi => (okC.who hc hi).1.1, fun i hi => (okC.who hc hi).2.1.1, hf.2⟩
theorem need_filling_ok {c : List P3} {f : List Int} (hc : okC c) (hf : okF c f) (M : Mem) : f_need_filling [ec c, ef f] M = .ok .non M := by
  have hz : sizeLine = 16777216 := sizeLine_val
  have lc0 : ∀ M, oLen [ec c] M = some (.int c.length, M) := fun M => by simp [ec]
  have lf0 : ∀ M, oLen [ef f] M = some (.int c.length, M) := fun M => by simp [ef, hf.1]
  have ix : ∀ p M, oIx (ep p) (.int 2) M = some (.int p.2.2, M) := fun p M => by simp [ep]
  have it : ∀ M, oIsi [ef f, .ty "tuple"] M = some (.bl true, M) := fun M => isi_tup_tuple
  have lp : (pairsD (f.map D.int) (c.map ep)).length = c.length := by rw [pairsD_length, List.length_map, List.length_map, hf.1, Nat.min_self]
  have hc1 := hc.1.2
  have ir : f_is_right_filling [ec c, ef f] M = .ok (.bl true) M := by
    have lc : dLc [2, 3] (dZip (aCons (dVar 1) (aCons (dVar 0) aNil))) (gTp 2 (gsCons (gNm 2) (gsCons (gNm 3) gsNil))) (tTrue) (dCall f_is_within 3 (aCons (dVar 2) (aCons (dC (.int 0)) (aCons (dBin oIx (dVar 3) (dC (.int 2))) aNil)))) [some (ec c), some (ef f), none, none] M = .ok (.ref M.length) (M ++ [.lst (((pairsD (f.map D.int) (c.map ep)).map fun _ => true).map .bl)]) := by
      rw [dLc_map (l := pairsD (f.map D.int) (c.map ep)) (M1 := M) (fun d => .bl true) (by unfold dZip; simp [ec, ef]) (by rw [lp]; omega) fun d hd acc => ?_]
      · rw [List.map_map]; rfl
      · obtain ⟨i, hi, e⟩ := List.getElem_of_mem hd
        have hi' : i < c.length := by omega
        have g := pairsD_get (f.map D.int) (c.map ep) i
        rw [List.getElem?_eq_getElem hi, e, ef_get (by rw [hf.1]; exact hi'), ec_get hi'] at g
        cases g
        obtain ⟨f1, f2⟩ := hf.2 i hi'
        generalize f.getD i 0 = v at *
        have w : ∀ M, f_is_within [.int v, .int 0, .int (who c i).2.2] M = .ok (.bl true) M := fun M => by
          rw [is_within_int, decide_eq_true f1, decide_eq_true f2]
          rfl
        exact ⟨_, rfl, by simp [wipeD, ix, w]⟩
    have al := oAll_lst (M := M ++ [MO.lst (((pairsD (f.map D.int) (c.map ep)).map fun _ => true).map .bl)]) (n := M.length) (bs := (pairsD (f.map D.int) (c.map ep)).map fun _ => true) (seqOf_end rfl)
    have aa : ((pairsD (f.map D.int) (c.map ep)).map fun _ => true).all id = true := by
      rw [List.all_map]
      exact List.all_eq_true.mpr fun _ _ => rfl
    rw [aa] at al
    unfold f_is_right_filling
    refine fn_of ?_
    simp [-List.map_map, -List.map_const', d_is_right_filling, lc0, lf0, it, lc, al]
  unfold f_need_filling fnOf
  simp [d_need_filling, ir]
theorem drawn_filling_ok {s : Nat} {M : Mem} {c : List P3} (h : okS M s) (hc : okC c) : Dr s M (fun d => ∃ f, d = ef f ∧ okF c f) (f__law_drawn_filling [.ref s, ec c] M) := by
  have hs := h.lt
  have hz : sizeLine = 16777216 := sizeLine_val
  have ix : ∀ p M, oIx (ep p) (.int 2) M = some (.int p.2.2, M) := fun p M => by simp [ep]
  have hc1 := hc.1.2
  obtain ⟨ys, a, b, e, al, h1, h2, h3⟩ := dLc_draw2 (own := [2]) (s := s) (src := dSeqSrc (dVar 1)) (g := gNm 2) (te := dCall f__law_pick 2 (aCons (dVar 0) (aCons (dBin oAdd (dBin oIx (dVar 2) (dC (.int 2))) (dC (.int 1))) aNil))) (δ := [some (.ref s), some (ec c), none]) (M := M) (M1 := M) (l := c.map ep) (fun d x => ∃ p : P3, d = ep p ∧ ∃ r, x = .int r ∧ 0 ≤ r ∧ r ≤ p.2.2) (dSeqSrc_tup rfl) h (by rw [List.length_map, hz]; omega) fun d hd a b acc ha hb hb2 => by
    obtain ⟨p, hp, rfl⟩ := List.mem_map.mp hd
    obtain ⟨⟨_, _⟩, ⟨_, _⟩, p5, p6⟩ := hc.2 p hp
    have s1 : okS (M.set s (srcM a b) ++ [.lst acc]) s := (okS.set hs ha hb hb2).app
    obtain ⟨d, a', b', ⟨r, rfl, r0, r1⟩, k1, k2, k3, e⟩ := pick_ok (n := p.2.2 + 1) s1 (by omega) (by omega)
    refine ⟨_, rfl, .int r, a', b', ⟨p, rfl, r, rfl, r0, by omega⟩, k1, k2, k3, ?_⟩
    simp [wipeD, ix, e]
  obtain ⟨f, rfl⟩ : ∃ f : List Int, ys = f.map .int := by
    have : ∀ x ∈ ys, ∃ r, x = D.int r := fun x hx => by
      obtain ⟨d, _, p, _, r, e, _⟩ := al.mem hx
      exact ⟨r, e⟩
    clear al e
    induction ys with
    | nil => exact ⟨[], rfl⟩
    | cons y ys ih =>
      obtain ⟨f, hf⟩ := ih fun x hx => this x (List.mem_cons_of_mem _ hx)
      obtain ⟨r, hr⟩ := this y List.mem_cons_self
      exact ⟨r :: f, by rw [hr, hf]; rfl⟩
  have fl : f.length = c.length := by
    have := al.len
    rw [List.length_map, List.length_map] at this
    exact this
  have okf : okF c f := ⟨fl, fun i hi => by
    obtain ⟨p, e1, r, e2, r0, r1⟩ := al.get (ec_get hi) (ef_get (f := f) (i := i) (by omega))
    have e1' : who c i = p := by
      unfold ep at e1
      simp at e1
      obtain ⟨a1, a2, a3⟩ := e1
      exact Prod.ext a1 (Prod.ext a2 a3)
    have e2' : f.getD i 0 = r := by
      have := D.int.inj e2
      exact this
    rw [e1', e2']
    exact ⟨r0, r1⟩⟩
  have tt : oToTup [.ref M.length] (M.set s (srcM a b) ++ [.lst (f.map D.int)]) = some (ef f, M.set s (srcM a b) ++ [.lst (f.map D.int)]) := by
    rw [oToTup_ref, seqOf_end (by rw [List.length_set])]
    rfl
  refine ⟨ef f, a, b, ⟨f, rfl, okf⟩, h1, h2, h3, ?_⟩
  unfold f__law_drawn_filling
  refine fn_of ?_
  simp [d__law_drawn_filling, e, tt]
  exact gc_set rfl (below_ef _ _)
end Lw
namespace Lw
open PySem Pd
/-! circles: the checks -/
theorem are_people_ok {c : List P3} {lo hi : Int} (h : ∀ p ∈ c, okP p) (h1 : lo ≤ c.length) (h2 : (c.length : Int) ≤ hi) (hc : few c) (M : Mem) : f_are_people [ec c, .int lo, .int hi] M = .ok (.bl true) M := by
  unfold f_are_people
  refine fn_of ?_
  simp [d_are_people, ec, h1, h2]
  have lc := fun (te : EF D) => lc1_ok (c := c) (i := 3) (f := fun _ => .bl true) (te := te) (δ := [some (ec c), some (.int lo), some (.int hi), none]) (M := M) hc (src := dSeqSrc (dVar 0)) (dSeqSrc_tup rfl)
  simp only [ec] at lc
  rw [lc _ fun p hp acc => by simp [wipeD, is_right_person_ok (h p hp)]]
  have := oAll_lst (M := M ++ [MO.lst (c.map fun _ => D.bl true)]) (n := M.length) (bs := c.map fun _ => true) (by rw [seqOf_end rfl]; simp [Function.comp_def])
  simp [this]
theorem are_people_short {l : List D} {lo hi : Int} (M : Mem) (h : ¬ (lo ≤ l.length ∧ (l.length : Int) ≤ hi)) : f_are_people [.tup l, .int lo, .int hi] M = .ok (.bl false) M := by
  unfold f_are_people fnOf
  by_cases h1 : lo ≤ l.length
  · have h2 : ¬ (l.length : Int) ≤ hi := fun z => h ⟨h1, z⟩
    simp [d_are_people, h1, h2]
  · simp [d_are_people, h1]
theorem are_people_ty {d : D} {t : String} {lo hi : Int} (M : Mem) (ht : tyOf M d = some t) (h : t = "NoneType" ∨ t = "bool" ∨ t = "str" ∨ t = "int" ∨ t = "list") : f_are_people [d, .int lo, .int hi] M = .ok (.bl false) M := by
  unfold f_are_people fnOf
  rcases h with h | h | h | h | h <;> subst h <;> simp [d_are_people, oIsi, ht, isiT]
theorem is_right_circle_ok {c : List P3} (h : okC c) (M : Mem) : f_is_right_circle [ec c] M = .ok (.bl true) M := by
  unfold f_is_right_circle fnOf
  obtain ⟨⟨h1, h2⟩, h3⟩ := h
  have := are_people_ok (lo := 2) (hi := 12) h3 (by omega) (by omega) (by omega) M
  simp [d_is_right_circle, this]
theorem is_right_circle_no {d : D} {t : String} (M : Mem) (ht : tyOf M d = some t) (h : t = "NoneType" ∨ t = "bool" ∨ t = "str" ∨ t = "int" ∨ t = "list") : f_is_right_circle [d] M = .ok (.bl false) M := by
  unfold f_is_right_circle fnOf
  simp [d_is_right_circle, are_people_ty (lo := 2) (hi := 12) M ht h]
theorem is_right_circle_short {l : List D} (M : Mem) (h : l.length < 2) : f_is_right_circle [.tup l] M = .ok (.bl false) M := by
  unfold f_is_right_circle fnOf
  simp [d_is_right_circle, are_people_short (l := l) (lo := 2) (hi := 12) M (by omega)]
theorem need_circle_ok {c : List P3} (h : okC c) (M : Mem) : f_need_circle [ec c] M = .ok .non M := by
  unfold f_need_circle fnOf
  simp [d_need_circle, is_right_circle_ok h]
theorem need_circle_no {d : D} (M : Mem) (h : f_is_right_circle [d] M = .ok (.bl false) M) : f_need_circle [d] M = .exc ⟨"InvalidCircle", []⟩ M := by
  unfold f_need_circle fnOf
  simp [d_need_circle, h]
theorem okC_few {c : List P3} (h : okC c) : few c := by have := h.1.2; omega
end Lw
namespace Lw
open PySem Pd
theorem mod_nn' {a b : Int} (h : 0 < b) : 0 ≤ a % b ∧ a % b < b := ⟨Int.emod_nonneg _ (by omega), Int.emod_lt_of_pos _ h⟩
theorem source_ok {j : Nat} {M : Mem} {ns : List Int} (hs : seqOf M j = some (ns.map .int)) (k : Nat) (hk : k < 100) : ∃ a b : Int, 0 ≤ a ∧ 0 ≤ b ∧ b < 2 ^ 40 ∧ f__law_source [.ref j, .int k] M = .ok (.ref M.length) (M ++ [srcM a b]) := by
  have z2 : 2 ≤ sizeLine := by decide
  have core : ∀ num : Int, ∃ a b : Int, 0 ≤ a ∧ 0 ≤ b ∧ b < 2 ^ 40 ∧ ∀ x, (sSeq (sAsg (dBin oMod (dBin oAdd (dBin oAdd (dBin oMul (dVar 2) (dC (.int 16807))) (dBin oMul (dC (.int 60919)) (dVar 1))) (dC (.int 31))) (dC (.int 2147481173))) (gNm 3)) (sSeq (sAsg (dBin oAdd (dBin oAdd (dBin oMod (dBin oMul (dVar 3) (dVar 3)) (dC (.int 2147481151))) (dBin oMul (dC (.int 2)) (dVar 1))) (dC (.int 5))) (gNm 3)) (sSeq (sRet (dLst (aCons (dIf (tV (dBin oGe (dVar 2) (dBin oPow (dC (.int 10)) (dC (.int 18))))) (dVar 2) (dC (.int 0))) (aCons (dVar 3) aNil)))) (sNil)))) [some (.ref j), some (.int k), some (.int num), x] M = .rt (.ref M.length) (M ++ [srcM a b]) := by
    intro num
    obtain ⟨q1, q2⟩ := mod_nn' (a := num * 16807 + 60919 * k + 31) (b := 2147481173) (by omega)
    generalize hb : (num * 16807 + 60919 * k + 31) % 2147481173 = b at q1 q2
    obtain ⟨q3, q4⟩ := mod_nn' (a := b * b) (b := 2147481151) (by omega)
    have m1 := oMul_int (M := M) (i := num) (j := 16807) (.inr ⟨by omega, by omega⟩)
    have m2 := oMul_int (M := M) (i := 60919) (j := (k : Int)) (.inl ⟨by omega, by omega⟩)
    have m3 := oMul_int (M := M) (i := b) (j := b) (.inl ⟨by omega, by omega⟩)
    have m4 := oMul_int (M := M) (i := 2) (j := (k : Int)) (.inl ⟨by omega, by omega⟩)
    have pw : oPow (.int 10) (.int 18) M = some (.int (10 ^ 18), M) := by
      show (if (0 : Int) ≤ 18 ∧ (18 : Int) ≤ 1000000 ∧ (10 : Int).natAbs < 2 ^ 64 then some (D.int (10 ^ (18 : Int).toNat)) else none).map (fun d => (d, M)) = _
      rw [if_pos ⟨by omega, by omega, by decide⟩]
      rfl
    refine ⟨if 10 ^ 18 ≤ num then num else 0, b * b % 2147481151 + 2 * k + 5, ?_, by omega, by omega, fun x => ?_⟩
    · split <;> omega
    · by_cases h : (10 : Int) ^ 18 ≤ num
      · simp [m1, m2, oMod_int (i := num * 16807 + 60919 * k + 31) (j := 2147481173) (M := M) (by omega), hb, m3, oMod_int (i := b * b) (j := 2147481151) (M := M) (by omega), m4, pw, h, z2, srcM]
        simp at h
        simp [h, z2]
      · simp [m1, m2, oMod_int (i := num * 16807 + 60919 * k + 31) (j := 2147481173) (M := M) (by omega), hb, m3, oMod_int (i := b * b) (j := 2147481151) (M := M) (by omega), m4, pw, h, z2, srcM]
        simp at h
        simp [show ¬ (1000000000000000000 ≤ num) by omega, z2]
  unfold f__law_source fnOf
  by_cases h : k < ns.length
  · obtain ⟨a, b, ha, hb, hb2, e⟩ := core (ns[k])
    refine ⟨a, b, ha, hb, hb2, ?_⟩
    have at_ : L2.atI (ns.map D.int) (k : Int) = some (.int ns[k]) := atI_nat (by rw [List.getElem?_map, List.getElem?_eq_getElem h]; rfl)
    simp only [d__law_source, List.map_cons, List.map_nil, List.length_cons, List.length_nil, List.replicate, List.cons_append, List.nil_append]
    rw [e_sSeq, show (sAsg (dC (.int 0)) (gNm 2)) [some (.ref j), some (.int k), none, none] M = .nx [some (.ref j), some (.int k), some (.int 0), none] M from rfl, seqK_nx, e_sSeq]
    rw [show (sIf (tV (dBin oGt (dBlt oLen (aCons (dVar 0) aNil)) (dVar 1))) (sSeq (sAsg (dBlt oToInt (aCons (dBin oIx (dVar 0) (dVar 1)) aNil)) (gNm 2)) (sNil)) (sNil)) [some (.ref j), some (.int k), some (.int 0), none] M = .nx [some (.ref j), some (.int k), some (.int ns[k]), none] M by
      simp [oLen_lst hs, h, oIx_lst hs, at_]]
    rw [seqK_nx, e, toR_rt]
    exact gc_lst (Nat.le_refl _) (by simp [srcM]) rfl
  · obtain ⟨a, b, ha, hb, hb2, e⟩ := core 0
    refine ⟨a, b, ha, hb, hb2, ?_⟩
    simp only [d__law_source, List.map_cons, List.map_nil, List.length_cons, List.length_nil, List.replicate, List.cons_append, List.nil_append]
    rw [e_sSeq, show (sAsg (dC (.int 0)) (gNm 2)) [some (.ref j), some (.int k), none, none] M = .nx [some (.ref j), some (.int k), some (.int 0), none] M from rfl, seqK_nx, e_sSeq]
    rw [show (sIf (tV (dBin oGt (dBlt oLen (aCons (dVar 0) aNil)) (dVar 1))) (sSeq (sAsg (dBlt oToInt (aCons (dBin oIx (dVar 0) (dVar 1)) aNil)) (gNm 2)) (sNil)) (sNil)) [some (.ref j), some (.int k), some (.int 0), none] M = .nx [some (.ref j), some (.int k), some (.int 0), none] M by
      simp [oLen_lst hs, h]]
    rw [seqK_nx, e, toR_rt]
    exact gc_lst (Nat.le_refl _) (by simp [srcM]) rfl
end Lw
namespace Lw
open PySem Pd
/-! the law's own fractions -/
theorem all_hands_ok {c : List P3} (hc : few c) (M : Mem) : f__law_all_hands [ec c] M = .ok (.int (handsI c)) M := by
  unfold f__law_all_hands
  refine fn_of ?_
  simp [d__law_all_hands]
  rw [lc1_ok (f := fun p => .int p.2.2) hc (dSeqSrc_tup rfl) fun p hp acc => by simp [wipeD, ep]]
  have := oSum_lst (M := M ++ [MO.lst (c.map fun p => D.int p.2.2)]) (n := M.length) (ns := c.map (·.2.2)) (by rw [seqOf_end rfl]; simp [Function.comp_def])
  simp [this, handsI]
end Lw
namespace Lw
open PySem Pd Hr
/-! ### the law's own beats: rows of the beats at which things are ready, as they lie in the store -/
def il (l : List Int) : List D := l.map .int
structure Row (M : Mem) (lo p : Nat) (h g : List Int) : Prop where
  p0 : lo ≤ p
  ex : ∃ a b, lo ≤ a ∧ lo ≤ b ∧ lstOf M p = some [.ref a, .ref b] ∧ lstOf M a = some (il h) ∧ lstOf M b = some (il g)
theorem Row.app {M : Mem} {lo p : Nat} {h g : List Int} (r : Row M lo p h g) (G : Mem) : Row (M ++ G) lo p h g := by
  obtain ⟨p0, a, b, h1, h2, h3, h4, h5⟩ := r
  exact ⟨p0, a, b, h1, h2, lstOf_app _ h3, lstOf_app _ h4, lstOf_app _ h5⟩
theorem lst_set_ne {M : Mem} {k n : Nat} {m : MO} (h : n ≠ k) : lstOf (M.set k m) n = lstOf M n := by
  unfold lstOf
  rw [List.getElem?_set_ne (Ne.symm h)]
theorem Row.set {M : Mem} {lo p k : Nat} {h g : List Int} {m : MO} (r : Row M lo p h g) (hk : k < lo) : Row (M.set k m) lo p h g := by
  obtain ⟨p0, a, b, h1, h2, h3, h4, h5⟩ := r
  exact ⟨p0, a, b, h1, h2, by rw [lst_set_ne (by omega)]; exact h3, by rw [lst_set_ne (by omega)]; exact h4, by rw [lst_set_ne (by omega)]; exact h5⟩
def refs (P : Nat → Nat) (n : Nat) : List D := (List.range n).map fun i => .ref (P i)
theorem refs_len (P : Nat → Nat) (n : Nat) : (refs P n).length = n := by unfold refs; rw [List.length_map, List.length_range]
theorem refs_succ (P : Nat → Nat) (n : Nat) : refs P (n + 1) = refs P n ++ [.ref (P n)] := by
  unfold refs
  rw [List.range_succ, List.map_append]
  rfl
theorem refs_congr {P P' : Nat → Nat} {n : Nat} (h : ∀ i, i < n → P i = P' i) : refs P n = refs P' n := List.map_congr_left fun i hi => by rw [h i (List.mem_range.mp hi)]
theorem refs_get {P : Nat → Nat} {n i : Nat} (h : i < n) : (refs P n)[i]? = some (.ref (P i)) := by
  unfold refs
  rw [List.getElem?_map, List.getElem?_range h]
  rfl
/-- at r lie n rows -/
structure At (M : Mem) (lo r n : Nat) (H G : Nat → List Int) : Prop where
  ex : ∃ P : Nat → Nat, lstOf M r = some (refs P n) ∧ ∀ i, i < n → Row M lo (P i) (H i) (G i)
theorem At.app {M : Mem} {lo r n : Nat} {H G : Nat → List Int} (a : At M lo r n H G) (X : Mem) : At (M ++ X) lo r n H G := by
  obtain ⟨P, h1, h2⟩ := a
  exact ⟨P, lstOf_app _ h1, fun i hi => (h2 i hi).app X⟩
theorem At.congr {M : Mem} {lo r n : Nat} {H G H' G' : Nat → List Int} (a : At M lo r n H G) (h : ∀ i, i < n → H i = H' i) (g : ∀ i, i < n → G i = G' i) : At M lo r n H' G' := by
  obtain ⟨P, h1, h2⟩ := a
  exact ⟨P, h1, fun i hi => by rw [← h i hi, ← g i hi]; exact h2 i hi⟩
theorem At.low {M : Mem} {lo lo' r n : Nat} {H G : Nat → List Int} (a : At M lo r n H G) (h : lo' ≤ lo) : At M lo' r n H G := by
  obtain ⟨P, h1, h2⟩ := a
  refine ⟨P, h1, fun i hi => ?_⟩
  obtain ⟨p0, a, b, k1, k2, k3⟩ := h2 i hi
  exact ⟨by omega, a, b, by omega, by omega, k3⟩
theorem oMul_ref {M : Mem} {n k : Nat} {l : List D} (h : lstOf M n = some l) (hl : l.length * k ≤ 1000000) (hk : k < 2 ^ 60) : oMul (.ref n) (.int k) M = some (.ref M.length, M ++ [.lst (List.replicate k l).flatten]) := by
  have hz : sizeLine = 16777216 := sizeLine_val
  show (match lstOf M n with
    | some l => if -(2 ^ 63) ≤ (k : Int) ∧ (k : Int) < 2 ^ 63 ∧ l.length * (k : Int).toNat ≤ sizeLine then some (D.ref M.length, M ++ [MO.lst (List.replicate (k : Int).toNat l).flatten]) else none
    | none => none) = _
  rw [h]
  dsimp only
  rw [if_pos ⟨by omega, by omega, by rw [show (k : Int).toNat = k by omega, hz]; omega⟩, show (k : Int).toNat = k by omega]
theorem begun_ok {c : List P3} {f : List Int} (h : OkCF c f) (hc : c.length ≤ 1000) (hb : ∀ i, i < c.length → (who c i).2.2 ≤ 1000) (M : Mem) : ∃ G, f__law_begun [ec c, ef f] M = .ok (.ref M.length) (M ++ G) ∧ At (M ++ G) M.length M.length c.length (hrow c f 0) (grow c f 0) := by
  have hz : sizeLine = 16777216 := sizeLine_val
  have i2 : ∀ p M, oIx (ep p) (.int 2) M = some (.int p.2.2, M) := fun p M => by simp [ep]
  have len := h.len
  have n0 := h.n0
  unfold f__law_begun fnOf
  show ∃ G, gcR M (toR (d__law_begun [some (ec c), some (ef f), none, none, none] M)) = _ ∧ _
  refine wp_to (r := d__law_begun [some (ec c), some (ef f), none, none, none] M) (Q := fun r => ∃ G, gcR M (toR r) = .ok (.ref M.length) (M ++ G) ∧ At (M ++ G) M.length M.length c.length (hrow c f 0) (grow c f 0)) ?_
  unfold d__law_begun
  rw [e_sSeq]
  refine wp_next (s_asg (d := .ref M.length) (M1 := M ++ [.lst []]) (by simp [hz])) ?_
  simp only [List.set, e_sSeq]
  have lp : (pairsD (c.map ep) (f.map D.int)).length = c.length := by rw [pairsD_length, List.length_map, List.length_map]; omega
  refine wp_for (pairsD (c.map ep) (f.map D.int)) (fun i δ M' => (∃ x3 x4, δ = [some (ec c), some (ef f), some (.ref M.length), x3, x4]) ∧ ∃ P : Nat → Nat, (∃ G, M' = M ++ G) ∧ M.length < M'.length ∧ lstOf M' M.length = some (refs P i) ∧ ∀ j, j < i → Row M' (M.length + 1) (P j) (hrow c f 0 j) (grow c f 0 j)) ⟨M ++ [.lst []], by unfold dZip; simp [ec, ef], ⟨_, _, rfl⟩, fun _ => 0, ⟨_, rfl⟩, by simp, lstOf_end rfl, fun j hj => absurd hj (Nat.not_lt_zero _)⟩ ?_ ?_
  · rintro i d hd δ M' ⟨⟨x3, x4, rfl⟩, P, ⟨G, rfl⟩, hlt, hl, hr⟩
    have hi : i < c.length := by rw [← lp]; exact (List.getElem?_eq_some_iff.mp hd).1
    rw [pairsD_get, ec_get hi, ef_get (by omega)] at hd
    cases hd
    obtain ⟨v1, v2⟩ := OkCF.flv h hi
    have hf := h.fl i hi
    have hb' := hb i hi
    generalize hM' : M ++ G = M' at *
    have z1 := hrow_zero h i
    have z2 := grow_zero h i
    have m1 : oMul (.ref M'.length) (.int (f.getD i 0)) (M' ++ [.lst [.int 0]]) = some (.ref (M'.length + 1), M' ++ [.lst [.int 0], .lst (il (hrow c f 0 i))]) := by
      rw [v1, oMul_ref (l := [.int 0]) (by rw [lstOf_new0]; rfl) (by simp; omega) (by omega), rep_zero, z1]
      simp [il]
    have m2 : oMul (.ref (M'.length + 2)) (.int ((who c i).2.2 - f.getD i 0)) (M' ++ [.lst [.int 0], .lst (il (hrow c f 0 i)), .lst [.int 0]]) = some (.ref (M'.length + 3), M' ++ [.lst [.int 0], .lst (il (hrow c f 0 i)), .lst [.int 0], .lst (il (grow c f 0 i))]) := by
      rw [v2, oMul_ref (l := [.int 0]) (by rw [lstOf_new]; rfl) (by simp; omega) (by omega), rep_zero, z2]
      simp [il]
    generalize hX : ([MO.lst [D.int 0], MO.lst (il (hrow c f 0 i)), MO.lst [D.int 0], MO.lst (il (grow c f 0 i)), MO.lst [D.ref (M'.length + 1), D.ref (M'.length + 3)]] : Mem) = X
    have ap : oApp (.ref M.length) [.ref (M'.length + 4)] (M' ++ X) = some (.non, (M' ++ X).set M.length (MO.lst (refs P i ++ [D.ref (M'.length + 4)]))) := by
      rw [oApp_ref, lstOf_app _ hl, Option.bind_some, if_pos (by rw [refs_len, hz]; omega)]
    have isl : isLst (.ref M.length) M' = true := by rw [isLst_ref, seq_of_lst hl]; rfl
    generalize f.getD i 0 = v at *
    have ev : (sSeq (sDrop (dMt isLst oApp (dVar 2) (aCons (dLst (aCons (dBin oMul (dLst (aCons (dC (.int 0)) aNil)) (dVar 4)) (aCons (dBin oMul (dLst (aCons (dC (.int 0)) aNil)) (dBin oSub (dBin oIx (dVar 3) (dC (.int 2))) (dVar 4))) aNil))) aNil))) (sNil)) [some (ec c), some (ef f), some (.ref M.length), some (ep (who c i)), some (.int v)] M' = .nx [some (ec c), some (ef f), some (.ref M.length), some (ep (who c i)), some (.int v)] ((M' ++ X).set M.length (MO.lst (refs P i ++ [D.ref (M'.length + 4)]))) := by
      rw [e_sSeq, s_drop (d := .non) (M1 := (M' ++ X).set M.length (MO.lst (refs P i ++ [D.ref (M'.length + 4)]))) (by rw [e_dMt]; simp [isl, i2, m1, m2, hz, hX, ap])]
      rfl
    simp only [onG_some, e_gTp, e_gsCons, e_gNm, e_gsNil, List.set, Option.bind_some, List.length_cons, List.length_nil]
    refine wp_of ?_
    show StepQ _ _ _ ((sSeq (sDrop (dMt isLst oApp (dVar 2) (aCons (dLst (aCons (dBin oMul (dLst (aCons (dC (.int 0)) aNil)) (dVar 4)) (aCons (dBin oMul (dLst (aCons (dC (.int 0)) aNil)) (dBin oSub (dBin oIx (dVar 3) (dC (.int 2))) (dVar 4))) aNil))) aNil))) (sNil)) [some (ec c), some (ef f), some (.ref M.length), some (ep (who c i)), some (.int v)] M')
    rw [ev]
    have lX : X.length = 5 := by rw [← hX]; rfl
    refine ⟨⟨_, _, rfl⟩, fun j => if j = i then M'.length + 4 else P j, ?_, ?_, ?_, fun j hj => ?_⟩
    · refine ⟨(G ++ X).set 0 (MO.lst (refs P i ++ [D.ref (M'.length + 4)])), ?_⟩
      conv => lhs; rw [← hM']
      rw [List.append_assoc, List.set_append_right _ _ (Nat.le_refl _), Nat.sub_self, hM']
    · rw [List.length_set, List.length_append]; omega
    · rw [lstOf_set (by rw [List.length_append]; omega), refs_succ, if_pos rfl]
      congr 2
      exact refs_congr fun k hk => by rw [if_neg (by omega)]
    · by_cases q : j = i
      · subst q
        dsimp only
        rw [if_pos rfl]
        refine Row.set ⟨by omega, M'.length + 1, M'.length + 3, by omega, by omega, ?_, ?_, ?_⟩ (Nat.lt_succ_self _)
        · rw [lstOf_new, ← hX]; rfl
        · rw [lstOf_new, ← hX]; rfl
        · rw [lstOf_new, ← hX]; rfl
      · dsimp only
        rw [if_neg q]
        exact ((hr j (by omega)).app _).set (Nat.lt_succ_self _)
  · rintro δ _ ⟨⟨x3, x4, rfl⟩, P, ⟨G, rfl⟩, hlt, hl, hr⟩
    rw [lp] at hl hr
    have low : At (M ++ G) M.length M.length c.length (hrow c f 0) (grow c f 0) := At.low ⟨P, hl, hr⟩ (Nat.le_succ _)
    rw [e_sSeq, s_ret (d := .ref M.length) (M1 := M ++ G) (by simp), seqK_rt]
    refine wp_of ⟨G, ?_, low⟩
    rw [toR_rt]
    exact gc_keepL (lstOf_get hl) (Nat.le_refl _) (by
      obtain ⟨n, hn⟩ : ∃ n, c.length = n + 1 := ⟨c.length - 1, by omega⟩
      have := (hr 0 (by omega)).p0
      rw [hn]
      unfold refs
      rw [List.range_succ_eq_map, List.map_cons]
      show (decide (P 0 < M.length) && _) = false
      rw [decide_eq_false (by omega), Bool.false_and])
end Lw
namespace Lw
open PySem Pd Hr
theorem es_run {c : List P3} {f : List Int} (h : OkCF c f) (t : Nat) : es (runL c f t) = .tup ((List.range c.length).map fun i => epr (shape c f t i)) := by
  unfold es
  rw [(run_ok h t).1, List.map_map]
  rfl
/-- a comprehension over a list of numbers in the store -/
theorem lc_ints {own : List Nat} {src : EF Src} {g : GF D} {te : EF D} {δ : DEnv} {M M1 : Mem} {n : Nat} {l : List Int} (f : Int → Int) (hs : src δ M = .ok (.live n) M1) (hq : seqOf M1 n = some (il l)) (hl : l.length ≤ 1000)
    (h : ∀ x ∈ l, ∀ acc, ∃ δ', g (.int x) (wipeD δ own) (M1 ++ [.lst acc]) = some (δ', M1 ++ [.lst acc]) ∧ te δ' (M1 ++ [.lst acc]) = .ok (.int (f x)) (M1 ++ [.lst acc])) :
    dLc own src g tTrue te δ M = .ok (.ref M1.length) (M1 ++ [.lst (il (l.map f))]) := by
  rw [dLc_live (l := il l) (fun _ => true) (fun d => match d with
    | .int x => .int (f x)
    | d => d) hs hq (by unfold il; rw [List.length_map, sizeLine_val]; omega) fun d hd acc => ?_]
  · unfold il
    rw [List.filter_eq_self.mpr fun _ _ => rfl, List.map_map, List.map_map]
    rfl
  · obtain ⟨x, hx, rfl⟩ := List.mem_map.mp hd
    obtain ⟨δ', e1, e2⟩ := h x hx acc
    exact ⟨δ', e1, rfl, fun _ => e2⟩
noncomputable def srtDS (v : Nat) : EF D := dBlt oToTup (aCons (dBlt oSorted (aCons (dLc [5] (dSeqSrc (dVar v)) (gNm 5) (tTrue) (dBlt oMax (aCons (dC (.int 0)) (aCons (dBin oSub (dVar 5) (dVar 1)) aNil)))) aNil)) aNil)
theorem srt_ok {v a t : Nat} {δ : DEnv} {M : Mem} {l : List Int} (hv : δ[v]? = some (some (.ref a))) (h1 : δ[1]? = some (some (.int t))) (h5 : δ.length = 7) (ha : seqOf M a = some (il l)) (hs : l.Pairwise (· ≤ ·)) (hl : l.length ≤ 60) : ∃ G, srtDS v δ M = .ok (eh (l.map fun x => pos (x - (t : Int)))) (M ++ G) := by
  have g5 : ∀ x, ((wipeD δ [5]).set 5 (some x))[5]? = some (some x) := fun x => by rw [List.getElem?_set_self (by show 5 < (δ.set 5 none).length; rw [List.length_set]; omega)]
  have g1 : ∀ x, ((wipeD δ [5]).set 5 (some x))[1]? = some (some (.int t)) := fun x => by
    rw [List.getElem?_set_ne (by omega)]
    show (δ.set 5 none)[1]? = _
    rw [List.getElem?_set_ne (by omega), h1]
  have lc : dLc [5] (dSeqSrc (dVar v)) (gNm 5) (tTrue) (dBlt oMax (aCons (dC (.int 0)) (aCons (dBin oSub (dVar 5) (dVar 1)) aNil))) δ M = .ok (.ref M.length) (M ++ [.lst (il (l.map fun x => pos (x - (t : Int))))]) := by
    refine lc_ints (n := a) (M1 := M) (fun x => pos (x - (t : Int))) (dSeqSrc_lst (by rw [e_dVar, hv]; rfl) ha) ha (by omega) fun x hx acc => ⟨_, rfl, ?_⟩
    simp [g5, g1, pos]
  have so := oSorted_ok (n := M.length) (M := M ++ [.lst (il (l.map fun x => pos (x - (t : Int))))]) (ns := l.map fun x => pos (x - (t : Int))) (seqOf_end rfl) (by rw [List.length_map]; omega)
  rw [sortI_of (by
    rw [List.pairwise_map]
    refine hs.imp fun {a b} h => ?_
    unfold pos
    split <;> split <;> omega)] at so
  have tt : oToTup [.ref (M ++ [MO.lst (il (l.map fun x => pos (x - (t : Int))))]).length] (M ++ [MO.lst (il (l.map fun x => pos (x - (t : Int))))] ++ [.lst ((l.map fun x => pos (x - (t : Int))).map .int)]) = some (eh (l.map fun x => pos (x - (t : Int))), M ++ [MO.lst (il (l.map fun x => pos (x - (t : Int))))] ++ [.lst ((l.map fun x => pos (x - (t : Int))).map .int)]) := by
    rw [oToTup_ref, seqOf_end rfl]
    rfl
  refine ⟨[MO.lst (il (l.map fun x => pos (x - (t : Int))))] ++ [.lst ((l.map fun x => pos (x - (t : Int))).map .int)], ?_⟩
  rw [← List.append_assoc]
  unfold srtDS
  simp only [e_dBlt, e_aCons, lc, bind_ok, e_aNil, so, ofV_some, tt]
theorem shape_ok {c : List P3} {f : List Int} {M : Mem} {lo r t : Nat} (h : OkCF c f) (hw : ∀ i, i < c.length → (who c i).1 ≤ 9 ∧ (who c i).2.1 ≤ 9 ∧ (who c i).2.2 ≤ 3) (hc : c.length ≤ 1000) (a : At M lo r c.length (hrow c f t) (grow c f t)) : f__law_shape [.ref r, .int t] M = .ok (es (runL c f t)) M := by
  have hz : sizeLine = 16777216 := sizeLine_val
  obtain ⟨P, hP, hR⟩ := a
  have rlt := lstOf_lt hP
  unfold f__law_shape
  refine fn_of ?_
  unfold d__law_shape
  show WP ((sSeq _ _) [some (.ref r), some (.int t), none, none, none, none, none] M) _
  rw [e_sSeq]
  refine wp_next (s_asg (d := .ref M.length) (M1 := onL M [] []) (by simp [hz, onL])) ?_
  simp only [List.set, e_sSeq]
  have hP' : ∀ A G, seqOf (onL M A G) r = some (refs P c.length) := fun A G => seqOf_app _ (seq_of_lst hP)
  refine wp_live r (refs P c.length) (fun i δ M' => (∃ x3 x4 x5 x6, δ = [some (.ref r), some (.int t), some (.ref M.length), x3, x4, x5, x6]) ∧ ∃ G, M' = onL M ((List.range i).map fun i => epr (shape c f t i)) G) (fun i δ M' hI => by obtain ⟨_, G, rfl⟩ := hI; exact hP' _ _) ⟨onL M [] [], dSeqSrc_lst rfl (hP' _ _), ⟨_, _, _, _, rfl⟩, [], rfl⟩ ?_ ?_
  · rintro i d hd δ M' ⟨⟨x3, x4, x5, x6, rfl⟩, G, rfl⟩
    have hi : i < c.length := by rw [← refs_len P c.length]; exact (List.getElem?_eq_some_iff.mp hd).1
    rw [refs_get hi] at hd
    cases hd
    obtain ⟨p0, x, y, h1, h2, k1, k2, k3⟩ := hR i hi
    generalize hA : (List.range i).map (fun i => epr (shape c f t i)) = A
    have lA : A.length = i := by rw [← hA, List.length_map, List.length_range]
    have nx : (List.range (i + 1)).map (fun i => epr (shape c f t i)) = A ++ [epr (shape c f t i)] := by
      rw [List.range_succ, List.map_append, hA]
      rfl
    have sm := run_small h hw t i hi
    rw [at_run h hi, ← hrow_len h hi, ← grow_len h hi] at sm
    have q0 : seqOf (onL M A G) (P i) = some [.ref x, .ref y] := seqOf_app _ (seq_of_lst k1)
    obtain ⟨G1, e1⟩ := srt_ok (v := 3) (a := x) (t := t) (M := onL M A G) (δ := [some (.ref r), some (.int t), some (.ref M.length), some (.ref x), some (.ref y), x5, x6]) rfl rfl rfl (seqOf_app _ (seq_of_lst k2)) (arow_sorted _ _ _ _ _) sm.1
    rw [hrow_shape h hi] at e1
    have m1 : onL M A G ++ G1 = onL M A (G ++ G1) := by unfold onL; simp
    rw [m1] at e1
    obtain ⟨G2, e2⟩ := srt_ok (v := 4) (a := y) (t := t) (M := onL M A (G ++ G1)) (δ := [some (.ref r), some (.int t), some (.ref M.length), some (.ref x), some (.ref y), x5, some (eh (shape c f t i).1)]) rfl rfl rfl (seqOf_app _ (seq_of_lst k3)) (arow_sorted _ _ _ _ _) sm.2
    rw [grow_shape h hi] at e2
    have m2 : onL M A (G ++ G1) ++ G2 = onL M A (G ++ G1 ++ G2) := by unfold onL; simp
    rw [m2] at e2
    clear m1 m2
    generalize G ++ G1 ++ G2 = G3 at e2
    generalize G ++ G1 = G4 at e1 e2
    have tg : gTp 2 (gsCons (gNm 3) (gsCons (gNm 4) gsNil)) (.ref (P i)) [some (.ref r), some (.int t), some (.ref M.length), x3, x4, x5, x6] (onL M A G) = some ([some (.ref r), some (.int t), some (.ref M.length), some (.ref x), some (.ref y), x5, x6], onL M A G) := by
      unfold gTp
      dsimp only
      rw [q0]
      rfl
    rw [tg, onG_some]
    dsimp only
    rw [e_sSeq]
    have ap : ∀ d : D, oApp (.ref M.length) [d] (onL M A G3) = some (.non, onL M (A ++ [d]) G3) := fun d => oApp_onL (by omega)
    refine wp_next (δ := [some (.ref r), some (.int t), some (.ref M.length), some (.ref x), some (.ref y), x5, some (eh (shape c f t i).1)]) (M := onL M A G4) (s_asg (i := 6) e1) ?_
    rw [e_sSeq]
    have dr : (sDrop (dMt isLst oApp (dVar 2) (aCons (dTup (aCons (dVar 6) (aCons (srtDS 4) aNil))) aNil))) [some (.ref r), some (.int t), some (.ref M.length), some (.ref x), some (.ref y), x5, some (eh (shape c f t i).1)] (onL M A G4) = .nx [some (.ref r), some (.int t), some (.ref M.length), some (.ref x), some (.ref y), x5, some (eh (shape c f t i).1)] (onL M (A ++ [epr (shape c f t i)]) G3) := by
      refine s_drop (d := .non) ?_
      rw [e_dMt]
      simp [isLst_onL, e2, hz, ap, epr]
    refine wp_next dr ?_
    rw [e_sNil, step_nx, nx]
    exact ⟨⟨_, _, _, _, rfl⟩, _, rfl⟩
  · rintro δ M' ⟨⟨x3, x4, x5, x6, rfl⟩, G, rfl⟩
    have tt : ∀ A, oToTup [.ref M.length] (onL M A G) = some (.tup A, onL M A G) := fun A => by rw [oToTup_ref, seqOf_onL]; rfl
    rw [es_run h, refs_len]
    simp only [e_sSeq, e_sRet, e_dBlt, e_aCons, e_dVar, List.getElem?_cons_succ, List.getElem?_cons_zero, varK_some, bind_ok, e_aNil, tt, ofV_some, onV_ok, seqK_rt, wp_rt]
    exact gc_val (below_map (fun i => below_epr _ _) _)
end Lw
namespace Lw
open PySem Pd Hr
/-! ### a beat of the law's own -/
structure Th (M : Mem) (o n : Nat) (H G : Nat → List Int) : Prop where
  out : lstOf M o = some (refs (fun i => o + 3 + 3 * i) n)
  row : ∀ i, i < n → lstOf M (o + 1 + 3 * i) = some (il (H i)) ∧ lstOf M (o + 2 + 3 * i) = some (il (G i)) ∧ lstOf M (o + 3 + 3 * i) = some [.ref (o + 1 + 3 * i), .ref (o + 2 + 3 * i)]
theorem Th.app {M : Mem} {o n : Nat} {H G : Nat → List Int} (t : Th M o n H G) (X : Mem) : Th (M ++ X) o n H G :=
  ⟨lstOf_app _ t.out, fun i hi => ⟨lstOf_app _ (t.row i hi).1, lstOf_app _ (t.row i hi).2.1, lstOf_app _ (t.row i hi).2.2⟩⟩
theorem Th.congr {M : Mem} {o n : Nat} {H G H' G' : Nat → List Int} (t : Th M o n H G) (h : ∀ i, i < n → H i = H' i) (g : ∀ i, i < n → G i = G' i) : Th M o n H' G' :=
  ⟨t.out, fun i hi => by rw [← h i hi, ← g i hi]; exact t.row i hi⟩
theorem Th.setH {M : Mem} {o n i : Nat} {H G : Nat → List Int} (t : Th M o n H G) (hi : i < n) (x : List Int) : Th (M.set (o + 1 + 3 * i) (.lst (il x))) o n (fun j => if j = i then x else H j) G := by
  have lt := lstOf_lt (t.row i hi).1
  refine ⟨by rw [lst_set_ne (by omega)]; exact t.out, fun j hj => ?_⟩
  obtain ⟨h1, h2, h3⟩ := t.row j hj
  refine ⟨?_, by rw [lst_set_ne (by omega)]; exact h2, by rw [lst_set_ne (by omega)]; exact h3⟩
  by_cases e : j = i
  · subst e
    rw [if_pos rfl, lstOf_set lt]
  · rw [if_neg e, lst_set_ne (by omega)]
    exact h1
theorem Th.setG {M : Mem} {o n i : Nat} {H G : Nat → List Int} (t : Th M o n H G) (hi : i < n) (x : List Int) : Th (M.set (o + 2 + 3 * i) (.lst (il x))) o n H (fun j => if j = i then x else G j) := by
  have lt := lstOf_lt (t.row i hi).2.1
  refine ⟨by rw [lst_set_ne (by omega)]; exact t.out, fun j hj => ?_⟩
  obtain ⟨h1, h2, h3⟩ := t.row j hj
  refine ⟨by rw [lst_set_ne (by omega)]; exact h1, ?_, by rw [lst_set_ne (by omega)]; exact h3⟩
  by_cases e : j = i
  · subst e
    rw [if_pos rfl, lstOf_set lt]
  · rw [if_neg e, lst_set_ne (by omega)]
    exact h2
theorem Th.at {M : Mem} {o n : Nat} {H G : Nat → List Int} (t : Th M o n H G) : At M o o n H G :=
  ⟨fun i => o + 3 + 3 * i, t.out, fun i hi => ⟨by dsimp only; omega, o + 1 + 3 * i, o + 2 + 3 * i, by omega, by omega, (t.row i hi).2.2, (t.row i hi).1, (t.row i hi).2.1⟩⟩
theorem Th.ix {M : Mem} {o n i : Nat} {H G : Nat → List Int} (t : Th M o n H G) (hi : i < n) : oIx (.ref o) (.int i) M = some (.ref (o + 3 + 3 * i), M) := by
  rw [oIx_lst (seq_of_lst t.out), atI_nat (refs_get hi)]
  rfl
theorem Th.ix0 {M : Mem} {o n i : Nat} {H G : Nat → List Int} (t : Th M o n H G) (hi : i < n) : oIx (.ref (o + 3 + 3 * i)) (.int 0) M = some (.ref (o + 1 + 3 * i), M) := by
  rw [oIx_lst (seq_of_lst (t.row i hi).2.2), atI_0]
  rfl
theorem Th.ix1 {M : Mem} {o n i : Nat} {H G : Nat → List Int} (t : Th M o n H G) (hi : i < n) : oIx (.ref (o + 3 + 3 * i)) (.int 1) M = some (.ref (o + 2 + 3 * i), M) := by
  rw [oIx_lst (seq_of_lst (t.row i hi).2.2), atI_1]
  rfl
/-- the rows copied -/
noncomputable def copyDS : EF D := dLc [9] (dSeqSrc (dVar 1)) (gNm 9) (tTrue) (dLst (aCons (dBlt oToLst (aCons (dBin oIx (dVar 9) (dC (.int 0))) aNil)) (aCons (dBlt oToLst (aCons (dBin oIx (dVar 9) (dC (.int 1))) aNil)) aNil)))
theorem copy_ok {M : Mem} {lo r n : Nat} {H G : Nat → List Int} {δ : DEnv} (a : At M lo r n H G) (hn : n ≤ 1000) (h1 : δ[1]? = some (some (.ref r))) (hl : δ.length = 12) : ∃ X, copyDS δ M = .ok (.ref M.length) (M ++ X) ∧ Th (M ++ X) M.length n H G := by
  have hz : sizeLine = 16777216 := sizeLine_val
  obtain ⟨P, hP, hR⟩ := a
  obtain ⟨M', e, X, rfl, hlen, ho, hrow⟩ := dLc_liveJ (own := [9]) (src := dSeqSrc (dVar 1)) (g := gNm 9) (tt := tTrue) (te := dLst (aCons (dBlt oToLst (aCons (dBin oIx (dVar 9) (dC (.int 0))) aNil)) (aCons (dBlt oToLst (aCons (dBin oIx (dVar 9) (dC (.int 1))) aNil)) aNil))) (δ := δ) (M := M) (M1 := M) (r := r) (l := refs P n)
    (fun i M' => ∃ X, M' = M ++ X ∧ M'.length = M.length + 1 + 3 * i ∧ lstOf M' M.length = some (refs (fun i => M.length + 3 + 3 * i) i) ∧ ∀ j, j < i → lstOf M' (M.length + 1 + 3 * j) = some (il (H j)) ∧ lstOf M' (M.length + 2 + 3 * j) = some (il (G j)) ∧ lstOf M' (M.length + 3 + 3 * j) = some [.ref (M.length + 1 + 3 * j), .ref (M.length + 2 + 3 * j)])
    (dSeqSrc_lst (by rw [e_dVar, h1]; rfl) (seq_of_lst hP)) ⟨_, rfl, by simp, lstOf_end rfl, fun j hj => absurd hj (Nat.not_lt_zero _)⟩ (fun i M' hJ => by obtain ⟨X, rfl, _⟩ := hJ; exact seqOf_app _ (seq_of_lst hP)) fun i d M' hd hJ => by
      obtain ⟨X, rfl, hlen, ho, hrow⟩ := hJ
      have hi : i < n := by rw [← refs_len P n]; exact (List.getElem?_eq_some_iff.mp hd).1
      rw [refs_get hi] at hd
      cases hd
      obtain ⟨p0, x, y, q1, q2, k1, k2, k3⟩ := hR i hi
      have k1' := lstOf_app X k1
      have k2' := lstOf_app X k2
      have k3' := lstOf_app X k3
      generalize hM' : M ++ X = M' at *
      have g9 : ((wipeD δ [9]).set 9 (some (.ref (P i))))[9]? = some (some (D.ref (P i))) := by rw [List.getElem?_set_self (by show 9 < (δ.set 9 none).length; rw [List.length_set]; omega)]
      have j0 : ∀ X, oIx (.ref (P i)) (.int 0) (M' ++ X) = some (.ref x, M' ++ X) := fun X => by rw [oIx_lst (seq_of_lst (lstOf_app X k1')), atI_0]; rfl
      have j1 : ∀ X, oIx (.ref (P i)) (.int 1) (M' ++ X) = some (.ref y, M' ++ X) := fun X => by rw [oIx_lst (seq_of_lst (lstOf_app X k1')), atI_1]; rfl
      have j0' := j0 []
      rw [List.append_nil] at j0'
      have l0 : oToLst [.ref x] M' = some (.ref M'.length, M' ++ [.lst (il (H i))]) := by rw [oToLst_ref, seq_of_lst k2']; rfl
      have l1 : oToLst [.ref y] (M' ++ [.lst (il (H i))]) = some (.ref (M'.length + 1), M' ++ [.lst (il (H i)), .lst (il (G i))]) := by
        rw [oToLst_ref, seq_of_lst (lstOf_app _ k3')]
        simp
      have te : dLst (aCons (dBlt oToLst (aCons (dBin oIx (dVar 9) (dC (.int 0))) aNil)) (aCons (dBlt oToLst (aCons (dBin oIx (dVar 9) (dC (.int 1))) aNil)) aNil)) ((wipeD δ [9]).set 9 (some (.ref (P i)))) M' = .ok (.ref (M'.length + 2)) (M' ++ [.lst (il (H i)), .lst (il (G i)), .lst [.ref M'.length, .ref (M'.length + 1)]]) := by
        simp [g9, j0', j1, l0, l1, hz]
      refine ⟨_, comp_yes (δ' := (wipeD δ [9]).set 9 (some (.ref (P i)))) rfl rfl te (lstOf_app _ ho) (by rw [refs_len, hz]; omega), ?_⟩
      generalize hY : ([MO.lst (il (H i)), .lst (il (G i)), .lst [.ref M'.length, .ref (M'.length + 1)]] : Mem) = Y
      have lY : Y.length = 3 := by rw [← hY]; rfl
      refine ⟨(X ++ Y).set 0 (.lst (refs (fun i => M.length + 3 + 3 * i) i ++ [.ref (M'.length + 2)])), ?_, ?_, ?_, fun j hj => ?_⟩
      · rw [← hM', List.append_assoc, List.set_append_right _ _ (Nat.le_refl _), Nat.sub_self, hM']
      · rw [List.length_set, List.length_append]; omega
      · rw [lstOf_set (by rw [List.length_append]; omega), refs_succ, show M'.length + 2 = M.length + 3 + 3 * i by omega]
      · rw [lst_set_ne (by omega), lst_set_ne (by omega), lst_set_ne (by omega)]
        by_cases q : j = i
        · subst q
          rw [show M.length + 1 + 3 * j = M'.length by omega, show M.length + 2 + 3 * j = M'.length + 1 by omega, show M.length + 3 + 3 * j = M'.length + 2 by omega, lstOf_new0, lstOf_new, lstOf_new, ← hY]
          exact ⟨rfl, rfl, rfl⟩
        · obtain ⟨z1, z2, z3⟩ := hrow j (by omega)
          exact ⟨lstOf_app _ z1, lstOf_app _ z2, lstOf_app _ z3⟩
  rw [refs_len] at hlen ho hrow
  exact ⟨X, e, ho, hrow⟩
theorem pln_il (l : List Int) : plnL 0 (il l) = true := by
  induction l with
  | nil => rfl
  | cons a l ih =>
    show plnL 0 (D.int a :: il l) = true
    unfold plnL
    rw [ih]
    rfl
theorem ne_nil {M : Mem} {k k' : Nat} {l : List Int} (h : seqOf M k = some (il l)) (h' : seqOf M k' = some []) : oNe (.ref k) (.ref k') M = some (.bl (!l.isEmpty), M) := by
  rw [oNe_lst (n := 0) (m := 0) h h' (pln_il l) rfl (by decide) (by decide)]
  cases l with
  | nil => rw [show il [] = [] from rfl, deqL_refl]; rfl
  | cons a l => rw [deqL_ne (by simp [il])]; rfl
theorem fire_rdy {c : List P3} {f : List Int} (h : OkCF c f) {i : Nat} (hi : i < c.length) (t : Nat) : fire c f i t = (rdy (shape c f t i).1 && rdy (shape c f t (su c.length i)).2) := by
  rw [fire_may h hi]
  unfold shape
  dsimp only
  rw [queue_rdy, queue_rdy, pr_su hi]
  rfl
/-- what is ready -/
theorem lc_ready {own : List Nat} {fE : EF D} {δ : DEnv} {M : Mem} {a t : Nat} {l : List Int} (hE : fE δ M = .ok (.ref a) M) (ha : seqOf M a = some (il l)) (hl : l.length ≤ 1000) (h2 : δ[2]? = some (some (.int t))) (hd : δ.length = 12) :
    dLc [6] (dSeqSrc fE) (gNm 6) (tV (dBin oLe (dVar 6) (dVar 2))) (dVar 6) δ M = .ok (.ref M.length) (M ++ [.lst (il (l.filter fun x => decide (x ≤ (t : Int))))]) := by
  have g6 : ∀ x, ((wipeD δ [6]).set 6 (some x))[6]? = some (some x) := fun x => by rw [List.getElem?_set_self (by show 6 < (δ.set 6 none).length; rw [List.length_set]; omega)]
  have g2 : ∀ x, ((wipeD δ [6]).set 6 (some x))[2]? = some (some (.int t)) := fun x => by
    rw [List.getElem?_set_ne (by omega)]
    show (δ.set 6 none)[2]? = _
    rw [List.getElem?_set_ne (by omega), h2]
  rw [dLc_live (n := a) (M1 := M) (l := il l) (fun d => match d with
    | .int x => decide (x ≤ (t : Int))
    | _ => false) id (dSeqSrc_lst hE ha) ha (by unfold il; rw [List.length_map, sizeLine_val]; omega) fun d hd acc => ?_]
  · congr 3
    rw [List.map_id]
    unfold il
    rw [List.filter_map]
    rfl
  · obtain ⟨x, _, rfl⟩ := List.mem_map.mp hd
    exact ⟨_, rfl, by simp [g6, g2], fun _ => by simp [g6]⟩
/-- the least is taken away -/
theorem rem_ok {fE : EF D} {δ : DEnv} {M : Mem} {x : Nat} {a : Int} {l : List Int} (hE : fE δ M = .ok (.ref x) M) (hx : lstOf M x = some (il (a :: l))) (hs : (a :: l).Pairwise (· ≤ ·)) (hl : l.length ≤ 900) (hd : δ.length = 12) :
    dMt isLst oRem fE (aCons (dBlt oMin (aCons (dLc [6] (dSeqSrc fE) (gNm 6) (tTrue) (dBlt oToInt (aCons (dVar 6) aNil))) aNil)) aNil) δ M = .ok .non ((M ++ [MO.lst (il (a :: l))]).set x (.lst (il l))) := by
  have g6 : ∀ x, ((wipeD δ [6]).set 6 (some x))[6]? = some (some x) := fun x => by rw [List.getElem?_set_self (by show 6 < (δ.set 6 none).length; rw [List.length_set]; omega)]
  have lc : dLc [6] (dSeqSrc fE) (gNm 6) (tTrue) (dBlt oToInt (aCons (dVar 6) aNil)) δ M = .ok (.ref M.length) (M ++ [.lst (il (a :: l))]) := by
    have := lc_ints (own := [6]) (src := dSeqSrc fE) (g := gNm 6) (te := dBlt oToInt (aCons (dVar 6) aNil)) (δ := δ) (M := M) (M1 := M) (n := x) (l := a :: l) id (dSeqSrc_lst hE (seq_of_lst hx)) (seq_of_lst hx) (by rw [List.length_cons]; omega) fun z hz acc => ⟨_, rfl, by simp [g6]⟩
    rw [List.map_id] at this
    exact this
  have mn : oMin [.ref M.length] (M ++ [.lst (il (a :: l))]) = some (.int a, M ++ [.lst (il (a :: l))]) := by
    have mm : oMin [.ref M.length] (M ++ [MO.lst (il (a :: l))]) = some (.int (minL l a), M ++ [MO.lst (il (a :: l))]) := oMin_ref (seqOf_end rfl)
    rw [mm, minL_head (List.pairwise_cons.mp hs).1]
  have rm := oRem_head (n := x) (M := M ++ [.lst (il (a :: l))]) (x := a) (ns := l) (lstOf_app _ hx)
  have isl : isLst (.ref x) M = true := by rw [isLst_ref, seq_of_lst hx]; rfl
  rw [e_dMt, hE, bind_ok, isl, if_pos rfl, e_aCons, e_dBlt, e_aCons, lc]
  simp only [bind_ok, e_aNil, mn, ofV_some, rm]
  rfl
end Lw
namespace Lw
open PySem Pd Hr
theorem head_of {l : List Int} (h : rdy (l.map fun x => pos (x - (0 : Int))) = true ∨ 0 < l.length) : l ≠ [] := by
  rintro rfl
  rcases h with h | h
  · cases h
  · exact absurd h (Nat.lt_irrefl _)
theorem rdy_ne {l : List Int} {t : Nat} (h : rdy (l.map fun x => pos (x - (t : Int))) = true) : ∃ a r, l = a :: r := by
  cases l with
  | nil => cases h
  | cons a r => exact ⟨a, r, rfl⟩
theorem hrow_sorted (c : List P3) (f : List Int) (t i : Nat) : (hrow c f t i).Pairwise (· ≤ ·) := arow_sorted _ _ _ _ _
theorem grow_sorted (c : List P3) (f : List Int) (t i : Nat) : (grow c f t i).Pairwise (· ≤ ·) := arow_sorted _ _ _ _ _
theorem one_beat_ok {c : List P3} {f : List Int} {M : Mem} {lo r t : Nat} (h : OkCF c f) (hw : ∀ i, i < c.length → (who c i).1 ≤ 9 ∧ (who c i).2.1 ≤ 9 ∧ (who c i).2.2 ≤ 3) (hc : c.length ≤ 1000) (a : At M lo r c.length (hrow c f t) (grow c f t)) :
    ∃ G o, M.length < o ∧ f__law_one_beat [ec c, .ref r, .int t] M = .ok (.tup [.ref o, eg (giversL (runL c f t))]) (M ++ G) ∧ At (M ++ G) o o c.length (hrow c f (t + 1)) (grow c f (t + 1)) := by
  have hz : sizeLine = 16777216 := sizeLine_val
  have n0 := h.n0
  have lc : ∀ M, oLen [ec c] M = some (.int c.length, M) := fun M => by simp [ec]
  have gf := givers_fire h t
  obtain ⟨P, hP, hR⟩ := id a
  have sm := fun i (hi : i < c.length) => by
    have := run_small h hw t i hi
    rw [at_run h hi, ← hrow_len h hi, ← grow_len h hi] at this
    exact this
  unfold f__law_one_beat fnOf
  show ∃ G o, M.length < o ∧ gcR M (toR (d__law_one_beat [some (ec c), some (.ref r), some (.int t), none, none, none, none, none, none, none, none, none] M)) = _ ∧ _
  refine wp_to (r := d__law_one_beat [some (ec c), some (.ref r), some (.int t), none, none, none, none, none, none, none, none, none] M) (Q := fun z => ∃ G o, M.length < o ∧ gcR M (toR z) = .ok (.tup [.ref o, eg (giversL (runL c f t))]) (M ++ G) ∧ At (M ++ G) o o c.length (hrow c f (t + 1)) (grow c f (t + 1))) ?_
  unfold d__law_one_beat
  rw [e_sSeq]
  refine wp_next (δ := [some (ec c), some (.ref r), some (.int t), some (.int c.length), some (.ref M.length), none, none, none, none, none, none, none]) (M := onL M [] []) (by simp [lc, hz, onL]) ?_
  rw [e_sSeq]
  have sqr : ∀ A G, seqOf (onL M A G) r = some (refs P c.length) := fun A G => seqOf_app _ (seq_of_lst hP)
  -- who hands on
  refine wp_rng c.length (fun i δ M' => (∃ x5 x6 x7 x8, δ = [some (ec c), some (.ref r), some (.int t), some (.int c.length), some (.ref M.length), x5, x6, x7, x8, none, none, none]) ∧ ∃ G, M' = onL M (((List.range i).filter fun i => fire c f i t).map fun i : Nat => D.int i) G) ⟨_, dRng1_ok (j := c.length) (by simp) (by omega), ⟨_, _, _, _, rfl⟩, [], rfl⟩ ?_ ?_
  · rintro i hi δ _ ⟨⟨x5, x6, x7, x8, rfl⟩, G, rfl⟩
    have hs := su_lt (n := c.length) (i := i) n0
    have md : ∀ M, oMod (.int ((i : Int) + 1)) (.int c.length) M = some (.int ((su c.length i : Nat) : Int), M) := fun M => by rw [oMod_int (by omega), su_mod]
    generalize hA : ((List.range i).filter fun i => fire c f i t).map (fun i : Nat => D.int i) = A
    have lA : A.length ≤ i := by
      rw [← hA, List.length_map]
      exact Nat.le_trans (List.length_filter_le _ _) (by rw [List.length_range]; exact Nat.le_refl _)
    have nx : ((List.range (i + 1)).filter fun i => fire c f i t).map (fun i : Nat => D.int i) = A ++ (if fire c f i t = true then [D.int i] else []) := by
      rw [List.range_succ, List.filter_append, List.map_append, hA]
      congr 1
      by_cases g : fire c f i t = true <;> simp [g]
    obtain ⟨_, x, y, _, _, k1, k2, k3⟩ := hR i hi
    obtain ⟨_, x', y', _, _, k1', k2', k3'⟩ := hR _ hs
    have ix : ∀ {j : Nat} (hj : j < c.length) A G, oIx (.ref r) (.int j) (onL M A G) = some (.ref (P j), onL M A G) := fun {j} hj A G => by
      rw [oIx_lst (sqr A G), atI_nat (refs_get hj)]
      rfl
    have r1 := lc_ready (own := [6]) (fE := dBin oIx (dBin oIx (dVar 1) (dVar 5)) (dC (.int 0))) (δ := [some (ec c), some (.ref r), some (.int t), some (.int c.length), some (.ref M.length), some (.int i), x6, x7, x8, none, none, none]) (M := onL M A G) (a := x) (t := t) (l := hrow c f t i) (by
      have j0 : oIx (.ref (P i)) (.int 0) (onL M A G) = some (.ref x, onL M A G) := by rw [oIx_lst (show seqOf (onL M A G) (P i) = _ from seqOf_app _ (seq_of_lst k1)), atI_0]; rfl
      simp [ix hi, j0]) (seqOf_app _ (seq_of_lst k2)) (by have := (sm i hi).1; omega) rfl rfl
    rw [onL_snoc] at r1
    generalize hL1 : (hrow c f t i).filter (fun x => decide (x ≤ (t : Int))) = L1 at r1
    generalize hG1 : G ++ [MO.lst (il L1)] = G1 at r1
    have r2 := lc_ready (own := [6]) (fE := dBin oIx (dBin oIx (dVar 1) (dBin oMod (dBin oAdd (dVar 5) (dC (.int 1))) (dVar 3))) (dC (.int 1))) (δ := [some (ec c), some (.ref r), some (.int t), some (.int c.length), some (.ref M.length), some (.int i), x6, some (.ref (onL M A G).length), x8, none, none, none]) (M := onL M A G1) (a := y') (t := t) (l := grow c f t (su c.length i)) (by
      have j1 : oIx (.ref (P (su c.length i))) (.int 1) (onL M A G1) = some (.ref y', onL M A G1) := by rw [oIx_lst (show seqOf (onL M A G1) (P (su c.length i)) = _ from seqOf_app _ (seq_of_lst k1')), atI_1]; rfl
      simp [md, ix hs, j1]) (seqOf_app _ (seq_of_lst k3')) (by have := (sm _ hs).2; omega) rfl rfl
    rw [onL_snoc] at r2
    generalize hL2 : (grow c f t (su c.length i)).filter (fun x => decide (x ≤ (t : Int))) = L2 at r2
    generalize hG2 : G1 ++ [MO.lst (il L2)] = G2 at r2
    have s1 : seqOf (onL M A G2) (onL M A G).length = some (il L1) := by
      have e : onL M A G2 = onL M A G ++ [.lst (il L1), .lst (il L2)] := by rw [← hG2, ← hG1, ← onL_snoc, ← onL_snoc]; simp
      rw [e, seqOf_new0]
      rfl
    have s2 : seqOf (onL M A G2) (onL M A G1).length = some (il L2) := by
      rw [← hG2, ← onL_snoc]
      exact seqOf_end rfl
    have f1 : (!L1.isEmpty) = rdy (shape c f t i).1 := by
      rw [← hL1, ready_rdy (hrow_sorted c f t i) t, hrow_shape h hi, Bool.not_not]
    have f2 : (!L2.isEmpty) = rdy (shape c f t (su c.length i)).2 := by
      rw [← hL2, ready_rdy (grow_sorted c f t _) t, grow_shape h hs, Bool.not_not]
    have fr := fire_rdy h hi t
    rw [← f1, ← f2] at fr
    have ne1 : oNe (.ref (onL M A G).length) (.ref (onL M A G2).length) (onL M A G2 ++ [.lst []]) = some (.bl (!L1.isEmpty), onL M A G2 ++ [.lst []]) := ne_nil (seqOf_app _ s1) (seqOf_end rfl)
    have ne2 : ∀ X, seqOf X (onL M A G1).length = some (il L2) → oNe (.ref (onL M A G1).length) (.ref X.length) (X ++ [.lst []]) = some (.bl (!L2.isEmpty), X ++ [.lst []]) := fun X hX => ne_nil (seqOf_app _ hX) (seqOf_end rfl)
    simp only [e_gNm, onG_some, List.set, e_sSeq]
    refine wp_next (s_asg (i := 7) r1) ?_
    simp only [List.set, e_sSeq]
    refine wp_next (s_asg (i := 8) r2) ?_
    simp only [List.set, e_sSeq]
    rw [nx]
    have ne1' := ne1
    rw [onL_snoc] at ne1'
    have ne2a := ne2 (onL M A G2) s2
    have ne2b := ne2 (onL M A (G2 ++ [MO.lst []])) (by rw [← onL_snoc]; exact seqOf_app _ s2)
    rw [onL_snoc] at ne2a ne2b
    simp only [List.append_assoc, List.cons_append, List.nil_append] at ne2b
    have ap : ∀ G (d : D), oApp (.ref M.length) [d] (onL M A G) = some (.non, onL M (A ++ [d]) G) := fun G d => oApp_onL (by omega)
    rw [fr]
    cases b1 : (!L1.isEmpty) with
    | false =>
      rw [b1] at ne1'
      simp [hz, onL_snoc, ne1']
      exact ⟨_, rfl⟩
    | true =>
      rw [b1] at ne1'
      cases b2 : (!L2.isEmpty) with
      | false =>
        rw [b2] at ne2b
        simp [hz, onL_snoc, ne1', ne2b]
        exact ⟨_, rfl⟩
      | true =>
        rw [b2] at ne2b
        simp [hz, onL_snoc, ne1', ne2b, isLst_onL, ap]
        exact ⟨_, rfl⟩
  · rintro δ _ ⟨⟨x5, x6, x7, x8, rfl⟩, G, rfl⟩
    rw [e_sSeq]
    rw [← gf]
    generalize hg : giversL (runL c f t) = g at *
    have gmem : ∀ i, i ∈ g ↔ i < c.length ∧ fire c f i t = true := fun i => by rw [gf, List.mem_filter, List.mem_range]
    have gnd : g.Nodup := by rw [gf]; exact List.Nodup.sublist List.filter_sublist List.nodup_range
    have glen : g.length ≤ c.length := by
      rw [gf]
      exact Nat.le_trans (List.length_filter_le _ _) (by rw [List.length_range]; exact Nat.le_refl _)
    -- the copy
    have a' : At (onL M (g.map fun i : Nat => D.int i) G) lo r c.length (hrow c f t) (grow c f t) := a.app _
    obtain ⟨X, e, th⟩ := copy_ok (δ := [some (ec c), some (.ref r), some (.int t), some (.int c.length), some (.ref M.length), x5, x6, x7, x8, none, none, none]) a' hc rfl rfl
    have gl0 : lstOf (onL M (g.map fun i : Nat => D.int i) G) M.length = some (g.map fun i : Nat => D.int i) := lstOf_onL _ _ _
    have gl1 := lstOf_app X gl0
    have olt : M.length < (onL M (g.map fun i : Nat => D.int i) G).length := lstOf_lt gl0
    obtain ⟨Y, hY⟩ : ∃ Y, onL M (g.map fun i : Nat => D.int i) G ++ X = M ++ Y := ⟨_, by unfold onL; rw [List.append_assoc]⟩
    refine wp_next (s_asg (i := 10) e) ?_
    simp only [List.set, e_sSeq]
    rw [hY] at th gl1 ⊢
    generalize (onL M (g.map fun i : Nat => D.int i) G).length = o at th olt
    have pre : ∀ {M' : Mem} {x : Nat} (m : MO) (Z : Mem), (∃ Y, M' = M ++ Y) → o < x → ∃ Y, (M' ++ Z).set x m = M ++ Y := fun {M' x} m Z hY hx => by
      obtain ⟨Y, rfl⟩ := hY
      exact ⟨(Y ++ Z).set (x - M.length) m, by rw [List.append_assoc, List.set_append_right _ _ (by omega)]⟩
    have gat : ∀ {m : Nat} {d : D}, (g.map fun i : Nat => D.int i)[m]? = some d → ∃ i : Nat, d = .int i ∧ i < c.length ∧ fire c f i t = true ∧ i ∉ g.take m ∧ g.take (m + 1) = g.take m ++ [i] := fun {m d} hd => by
      rw [List.getElem?_map] at hd
      obtain ⟨i, e1, rfl⟩ := Option.map_eq_some_iff.mp hd
      have im := List.mem_of_getElem? e1
      obtain ⟨q1, q2⟩ := (gmem i).mp im
      obtain ⟨hm, e2⟩ := List.getElem?_eq_some_iff.mp e1
      refine ⟨i, rfl, q1, q2, fun z => ?_, by rw [List.take_succ_eq_append_getElem hm, e2]⟩
      obtain ⟨k, hk, e3⟩ := List.mem_take_iff_getElem.mp z
      exact List.pairwise_iff_getElem.mp gnd k m (by omega) hm (by omega) (by rw [e3, e2])
    refine wp_live M.length (g.map fun i : Nat => D.int i) (fun m δ M' => (∃ x5 x6 x11, δ = [some (ec c), some (.ref r), some (.int t), some (.int c.length), some (.ref M.length), x5, x6, x7, x8, none, some (.ref o), x11]) ∧ (∃ Y, M' = M ++ Y) ∧ lstOf M' M.length = some (g.map fun i : Nat => D.int i) ∧
        Th M' o c.length (fun i => if i ∈ g.take m then (hrow c f t i).drop 1 else hrow c f t i) (fun i => if pr c.length i ∈ g.take m then (grow c f t i).drop 1 else grow c f t i)) (fun m δ M' hI => seq_of_lst hI.2.2.1)
      ⟨M ++ Y, dSeqSrc_lst rfl (seq_of_lst gl1), ⟨_, _, _, rfl⟩, ⟨Y, rfl⟩, gl1, th.congr (fun i hi => by rw [List.take_zero, if_neg (by simp)]) fun i hi => by rw [List.take_zero, if_neg (by simp)]⟩ ?_ ?_
    · rintro m d hd δ M' ⟨⟨x5, x6, x11, rfl⟩, hY', gl, th⟩
      obtain ⟨i, rfl, hi, fi, ni, tk⟩ := gat hd
      have hs := su_lt (n := c.length) (i := i) n0
      have md : ∀ M, oMod (.int ((i : Int) + 1)) (.int c.length) M = some (.int ((su c.length i : Nat) : Int), M) := fun M => by rw [oMod_int (by omega), su_mod]
      have fr := fire_rdy h hi t
      rw [fi] at fr
      obtain ⟨fr1, fr2⟩ := Bool.and_eq_true_iff.mp fr.symm
      rw [← hrow_shape h hi] at fr1
      rw [← grow_shape h hs] at fr2
      obtain ⟨a1, l1, e1⟩ := rdy_ne fr1
      obtain ⟨a2, l2, e2⟩ := rdy_ne fr2
      have so1 : (a1 :: l1).Pairwise (· ≤ ·) := by rw [← e1]; exact arow_sorted _ _ _ _ _
      have so2 : (a2 :: l2).Pairwise (· ≤ ·) := by rw [← e2]; exact arow_sorted _ _ _ _ _
      have len1 : l1.length ≤ 900 := by have := (sm i hi).1; rw [e1, List.length_cons] at this; omega
      have len2 : l2.length ≤ 900 := by have := (sm _ hs).2; rw [e2, List.length_cons] at this; omega
      have x1 := (th.row i hi).1
      try dsimp only at x1
      rw [if_neg ni, e1] at x1
      have R1 := rem_ok (fE := dBin oIx (dBin oIx (dVar 10) (dVar 5)) (dC (.int 0))) (δ := [some (ec c), some (.ref r), some (.int t), some (.int c.length), some (.ref M.length), some (.int i), x6, x7, x8, none, some (.ref o), some (.int (su c.length i : Nat))]) (M := M') (by simp [th.ix hi, th.ix0 hi]) x1 so1 len1 rfl
      have th1 := (th.app [.lst (il (a1 :: l1))]).setH hi l1
      have hY1 := pre (.lst (il l1)) [.lst (il (a1 :: l1))] hY' (show o < o + 1 + 3 * i by omega)
      have gl1' : lstOf ((M' ++ [MO.lst (il (a1 :: l1))]).set (o + 1 + 3 * i) (.lst (il l1))) M.length = some (g.map fun i : Nat => D.int i) := by
        rw [lst_set_ne (by omega)]
        exact lstOf_app _ gl
      generalize (M' ++ [MO.lst (il (a1 :: l1))]).set (o + 1 + 3 * i) (.lst (il l1)) = M1 at R1 th1 hY1 gl1'
      have x2 := (th1.row _ hs).2.1
      try dsimp only at x2
      rw [pr_su hi, if_neg ni, e2] at x2
      have R2 := rem_ok (fE := dBin oIx (dBin oIx (dVar 10) (dVar 11)) (dC (.int 1))) (δ := [some (ec c), some (.ref r), some (.int t), some (.int c.length), some (.ref M.length), some (.int i), x6, x7, x8, none, some (.ref o), some (.int (su c.length i : Nat))]) (M := M1) (by simp [th1.ix hs, th1.ix1 hs]) x2 so2 len2 rfl
      have th2 := (th1.app [.lst (il (a2 :: l2))]).setG hs l2
      have hY2 := pre (.lst (il l2)) [.lst (il (a2 :: l2))] hY1 (show o < o + 2 + 3 * su c.length i by omega)
      have gl2' : lstOf ((M1 ++ [MO.lst (il (a2 :: l2))]).set (o + 2 + 3 * su c.length i) (.lst (il l2))) M.length = some (g.map fun i : Nat => D.int i) := by
        rw [lst_set_ne (by omega)]
        exact lstOf_app _ gl1'
      generalize (M1 ++ [MO.lst (il (a2 :: l2))]).set (o + 2 + 3 * su c.length i) (.lst (il l2)) = M2 at R2 th2 hY2 gl2'
      simp only [e_gNm, onG_some, List.set, e_sSeq]
      refine wp_next (s_asg (d := .int (su c.length i : Nat)) (M1 := M') (by simp [md])) ?_
      simp only [List.set, e_sSeq]
      refine wp_next (s_drop R1) ?_
      rw [e_sSeq]
      refine wp_next (s_drop R2) ?_
      rw [e_sNil, step_nx]
      refine ⟨⟨_, _, _, rfl⟩, hY2, gl2', th2.congr (fun j hj => ?_) fun j hj => ?_⟩
      · rw [tk]
        by_cases q : j = i
        · subst q
          rw [if_pos rfl, if_pos (List.mem_append_right _ List.mem_cons_self), e1]
          rfl
        · rw [if_neg q]
          by_cases z : j ∈ g.take m
          · rw [if_pos z, if_pos (List.mem_append_left _ z)]
          · rw [if_neg z, if_neg (by simp [z, q])]
      · rw [tk]
        by_cases q : j = su c.length i
        · subst q
          rw [if_pos rfl, pr_su hi, if_pos (List.mem_append_right _ List.mem_cons_self), e2]
          rfl
        · have q' : pr c.length j ≠ i := fun z => q (by rw [← z, su_pr hj])
          rw [if_neg q]
          by_cases z : pr c.length j ∈ g.take m
          · rw [if_pos z, if_pos (List.mem_append_left _ z)]
          · rw [if_neg z, if_neg (by simp [z, q'])]
    rintro δ M3 ⟨⟨x5, x6, x11, rfl⟩, hY3, gl3, th3⟩
    have th3 : Th M3 o c.length (fun i => if fire c f i t = true then (hrow c f t i).drop 1 else hrow c f t i) (fun i => if fire c f (pr c.length i) t = true then (grow c f t i).drop 1 else grow c f t i) := th3.congr (fun i hi => by
        rw [List.length_map, List.take_length]
        by_cases z : fire c f i t = true
        · rw [if_pos z, if_pos ((gmem i).mpr ⟨hi, z⟩)]
        · rw [if_neg z, if_neg fun y => z ((gmem i).mp y).2]) fun i hi => by
        rw [List.length_map, List.take_length]
        by_cases z : fire c f (pr c.length i) t = true
        · rw [if_pos z, if_pos ((gmem _).mpr ⟨pr_lt n0, z⟩)]
        · rw [if_neg z, if_neg fun y => z ((gmem _).mp y).2]
    generalize hH3 : (fun i => if fire c f i t = true then (hrow c f t i).drop 1 else hrow c f t i) = H3 at th3
    generalize hG3 : (fun i => if fire c f (pr c.length i) t = true then (grow c f t i).drop 1 else grow c f t i) = G3 at th3
    have l3 : ∀ i, i < c.length → (H3 i).length ≤ 900 ∧ (G3 i).length ≤ 900 := fun i hi => by
      obtain ⟨s1, s2⟩ := sm i hi
      rw [← hH3, ← hG3]
      dsimp only
      constructor
      · split
        · rw [List.length_drop]; omega
        · omega
      · split
        · rw [List.length_drop]; omega
        · omega
    rw [e_sSeq]
    refine wp_live M.length (g.map fun i : Nat => D.int i) (fun m δ M' => (∃ x5 x6 x11, δ = [some (ec c), some (.ref r), some (.int t), some (.int c.length), some (.ref M.length), x5, x6, x7, x8, none, some (.ref o), x11]) ∧ (∃ Y, M' = M ++ Y) ∧ lstOf M' M.length = some (g.map fun i : Nat => D.int i) ∧
        Th M' o c.length (fun i => H3 i ++ if pr c.length i ∈ g.take m then [(t : Int) + (Cy c i : Nat)] else []) (fun i => G3 i ++ if i ∈ g.take m then [(t : Int) + (Bk c i : Nat)] else [])) (fun m δ M' hI => seq_of_lst hI.2.2.1)
      ⟨M3, dSeqSrc_lst rfl (seq_of_lst gl3), ⟨_, _, _, rfl⟩, hY3, gl3, th3.congr (fun i hi => by rw [List.take_zero, if_neg (by simp), List.append_nil]) fun i hi => by rw [List.take_zero, if_neg (by simp), List.append_nil]⟩ ?_ ?_
    · rintro m d hd δ M' ⟨⟨x5, x6, x11, rfl⟩, hY', gl, th⟩
      obtain ⟨i, rfl, hi, fi, ni, tk⟩ := gat hd
      have hs := su_lt (n := c.length) (i := i) n0
      have md : ∀ M, oMod (.int ((i : Int) + 1)) (.int c.length) M = some (.int ((su c.length i : Nat) : Int), M) := fun M => by rw [oMod_int (by omega), su_mod]
      have i0 : ∀ p M, oIx (ep p) (.int 0) M = some (.int p.1, M) := fun p M => by simp [ep]
      have i1 : ∀ p M, oIx (ep p) (.int 1) M = some (.int p.2.1, M) := fun p M => by simp [ep]
      have c1 := fun M => ix_ec hi M
      have c2 := fun M => ix_ec hs M
      have bb := (OkCF.b1 h hi).2
      have cc := (OkCF.c1 h hs).2
      have x1 := (th.row i hi).2.1
      try dsimp only at x1
      rw [if_neg ni, List.append_nil] at x1
      have ap1 : oApp (.ref (o + 2 + 3 * i)) [.int ((t : Int) + (Bk c i : Nat))] M' = some (.non, M'.set (o + 2 + 3 * i) (.lst (il (G3 i ++ [(t : Int) + (Bk c i : Nat)])))) := by
        rw [oApp_ref, x1, Option.bind_some, if_pos (by unfold il; rw [List.length_map, hz]; have := (l3 i hi).2; omega)]
        unfold il
        rw [List.map_append]
        rfl
      have th1 := th.setG hi (G3 i ++ [(t : Int) + (Bk c i : Nat)])
      have hY1 := pre (.lst (il (G3 i ++ [(t : Int) + (Bk c i : Nat)]))) [] hY' (show o < o + 2 + 3 * i by omega)
      rw [List.append_nil] at hY1
      have gl1' : lstOf (M'.set (o + 2 + 3 * i) (.lst (il (G3 i ++ [(t : Int) + (Bk c i : Nat)])))) M.length = some (g.map fun i : Nat => D.int i) := by
        rw [lst_set_ne (by omega)]
        exact gl
      have is1 : isLst (.ref (o + 2 + 3 * i)) M' = true := by rw [isLst_ref, seq_of_lst x1]; rfl
      generalize M'.set (o + 2 + 3 * i) (.lst (il (G3 i ++ [(t : Int) + (Bk c i : Nat)]))) = M1 at ap1 th1 hY1 gl1'
      have x2 := (th1.row _ hs).1
      try dsimp only at x2
      rw [pr_su hi, if_neg ni, List.append_nil] at x2
      have ap2 : oApp (.ref (o + 1 + 3 * su c.length i)) [.int ((t : Int) + (Cy c (su c.length i) : Nat))] M1 = some (.non, M1.set (o + 1 + 3 * su c.length i) (.lst (il (H3 (su c.length i) ++ [(t : Int) + (Cy c (su c.length i) : Nat)])))) := by
        rw [oApp_ref, x2, Option.bind_some, if_pos (by unfold il; rw [List.length_map, hz]; have := (l3 _ hs).1; omega)]
        unfold il
        rw [List.map_append]
        rfl
      have th2 := th1.setH hs (H3 (su c.length i) ++ [(t : Int) + (Cy c (su c.length i) : Nat)])
      have hY2 := pre (.lst (il (H3 (su c.length i) ++ [(t : Int) + (Cy c (su c.length i) : Nat)]))) [] hY1 (show o < o + 1 + 3 * su c.length i by omega)
      rw [List.append_nil] at hY2
      have gl2' : lstOf (M1.set (o + 1 + 3 * su c.length i) (.lst (il (H3 (su c.length i) ++ [(t : Int) + (Cy c (su c.length i) : Nat)])))) M.length = some (g.map fun i : Nat => D.int i) := by
        rw [lst_set_ne (by omega)]
        exact gl1'
      have is2 : isLst (.ref (o + 1 + 3 * su c.length i)) M1 = true := by rw [isLst_ref, seq_of_lst x2]; rfl
      generalize M1.set (o + 1 + 3 * su c.length i) (.lst (il (H3 (su c.length i) ++ [(t : Int) + (Cy c (su c.length i) : Nat)]))) = M2 at ap2 th2 hY2 gl2'
      simp only [e_gNm, onG_some, List.set, e_sSeq]
      refine wp_next (s_asg (d := .int (su c.length i : Nat)) (M1 := M') (by simp [md])) ?_
      simp only [List.set, e_sSeq]
      refine wp_next (s_drop (d := .non) (M1 := M1) (by rw [e_dMt]; simp [th.ix hi, th.ix1 hi, is1, c1, i1, ← bb, ap1])) ?_
      rw [e_sSeq]
      refine wp_next (s_drop (d := .non) (M1 := M2) (by rw [e_dMt]; simp [th1.ix hs, th1.ix0 hs, is2, c2, i0, ← cc, ap2])) ?_
      rw [e_sNil, step_nx]
      refine ⟨⟨_, _, _, rfl⟩, hY2, gl2', th2.congr (fun j hj => ?_) fun j hj => ?_⟩
      · rw [tk]
        by_cases q : j = su c.length i
        · subst q
          rw [if_pos rfl, pr_su hi, if_pos (List.mem_append_right _ List.mem_cons_self)]
        · have q' : pr c.length j ≠ i := fun z => q (by rw [← z, su_pr hj])
          rw [if_neg q]
          by_cases z : pr c.length j ∈ g.take m
          · rw [if_pos z, if_pos (List.mem_append_left _ z)]
          · rw [if_neg z, if_neg (by simp [z, q'])]
      · rw [tk]
        by_cases q : j = i
        · subst q
          rw [if_pos rfl, if_pos (List.mem_append_right _ List.mem_cons_self)]
        · rw [if_neg q]
          by_cases z : j ∈ g.take m
          · rw [if_pos z, if_pos (List.mem_append_left _ z)]
          · rw [if_neg z, if_neg (by simp [z, q])]
    rintro δ M4 ⟨⟨x5, x6, x11, rfl⟩, hY4, gl4, th4⟩
    obtain ⟨Y4, rfl⟩ := hY4
    have th5 : Th (M ++ Y4) o c.length (hrow c f (t + 1)) (grow c f (t + 1)) := th4.congr (fun i hi => by
        rw [List.length_map, List.take_length, hrow_step h hi, ← hH3]
        dsimp only
        congr 1
        by_cases z : fire c f (pr c.length i) t = true
        · rw [if_pos z, if_pos ((gmem _).mpr ⟨pr_lt n0, z⟩)]
        · rw [if_neg z, if_neg fun y => z ((gmem _).mp y).2]) fun i hi => by
        rw [List.length_map, List.take_length, grow_step h hi, ← hG3]
        dsimp only
        congr 1
        by_cases z : fire c f i t = true
        · rw [if_pos z, if_pos ((gmem _).mpr ⟨hi, z⟩)]
        · rw [if_neg z, if_neg fun y => z ((gmem _).mp y).2]
    have tt : oToTup [.ref M.length] (M ++ Y4) = some (eg g, M ++ Y4) := by rw [oToTup_ref, seq_of_lst gl4]; rfl
    refine wp_ret (d := .tup [.ref o, eg g]) (M := M ++ Y4) (s_ret (by simp [tt, hz])) ?_
    refine wp_of ⟨Y4, o, by omega, ?_, th5.at⟩
    rw [toR_rt]
    refine gc_keepT ?_
    show (decide (o < M.length) && _) = false
    rw [decide_eq_false (by omega), Bool.false_and]
end Lw
namespace Lw
open PySem Pd Hr
/-! ### dicts with standings as keys -/
def keyH (l : List Int) : NestedKey := .tup (l.map .num)
def keyP (p : List Int × List Int) : NestedKey := .tup [keyH p.1, keyH p.2]
def keyS (s : Stg) : NestedKey := .tup (s.map keyP)
theorem keyL_map {α : Type} {e : α → D} {k : α → NestedKey} (h : ∀ a, keyD (e a) = some (k a)) : ∀ l : List α, keyL (l.map e) = some (l.map k)
  | [] => rfl
  | a :: l => by
    rw [List.map_cons]
    unfold keyL
    rw [h a, keyL_map h l]
    rfl
theorem keyD_eh (l : List Int) : keyD (eh l) = some (keyH l) := by
  show (keyL (l.map D.int)).map NestedKey.tup = _
  rw [keyL_map (k := NestedKey.num) fun i => rfl]
  rfl
theorem keyD_epr (p : List Int × List Int) : keyD (epr p) = some (keyP p) := by
  show (keyL [eh p.1, eh p.2]).map NestedKey.tup = _
  unfold keyL
  rw [keyD_eh]
  unfold keyL
  rw [keyD_eh]
  rfl
theorem keyD_es (s : Stg) : keyD (es s) = some (keyS s) := by
  show (keyL (s.map epr)).map NestedKey.tup = _
  rw [keyL_map keyD_epr]
  rfl
theorem depth_map {α : Type} {k : α → NestedKey} {n : Nat} (h : ∀ a, (k a).depth ≤ n) : ∀ l : List α, NestedKey.depthAll (l.map k) ≤ n
  | [] => Nat.zero_le _
  | a :: l => by
    show max (k a).depth (NestedKey.depthAll (l.map k)) ≤ n
    have := h a
    have := depth_map h l
    omega
theorem depth_keyH (l : List Int) : (keyH l).depth ≤ 1 := Nat.succ_le_succ (depth_map (n := 0) (fun _ => Nat.le_refl _) l)
theorem depth_keyS (s : Stg) : (keyS s).depth ≤ 3 := by
  refine Nat.succ_le_succ (depth_map (n := 2) (fun p => ?_) s)
  show max (keyH p.1).depth (max (keyH p.2).depth 0) + 1 ≤ 2
  have := depth_keyH p.1
  have := depth_keyH p.2
  omega
theorem keyT_es (s : Stg) : keyT (es s) = some (keyS s) := by
  show (keyD (es s)).bind _ = _
  rw [keyD_es]
  show (if (keyS s).depth ≤ 8 then some (keyS s) else none) = _
  rw [if_pos (by have := depth_keyS s; omega)]
theorem map_inj {α β : Type} {f : α → β} (h : ∀ a b, f a = f b → a = b) : ∀ {l m : List α}, l.map f = m.map f → l = m
  | [], [], _ => rfl
  | [], _ :: _, e => by cases e
  | _ :: _, [], e => by cases e
  | a :: l, b :: m, e => by
    rw [List.map_cons, List.map_cons] at e
    injection e with e1 e2
    rw [h a b e1, map_inj h e2]
theorem keyH_inj {l m : List Int} (e : keyH l = keyH m) : l = m := by
  unfold keyH at e
  injection e with e
  exact map_inj (fun a b z => by injection z) e
theorem keyP_inj (p q : List Int × List Int) (e : keyP p = keyP q) : p = q := by
  unfold keyP at e
  injection e with e
  injection e with e1 e2
  injection e2 with e2 _
  exact Prod.ext (keyH_inj e1) (keyH_inj e2)
theorem keyS_inj {s s' : Stg} (e : keyS s = keyS s') : s = s' := by
  unfold keyS at e
  injection e with e
  exact map_inj keyP_inj e
/-! a dict of standings -/
theorem oIn_dct {M : Mem} {n : Nat} {kvs : List (D × D)} (h : dctOf M n = some kvs) (s : Stg) : oNin (es s) (.ref n) M = some (.bl (!(valD kvs (keyS s)).isSome), M) := by
  have sq : seqOf M n = none := by
    unfold dctOf at h
    split at h
    · rename_i e
      unfold seqOf
      rw [e]
    · cases h
  have i1 : inStr (es s) (.ref n) = none := rfl
  have i2 : inFlat (es s) (.ref n) M = none := rfl
  have i3 : inDeep (es s) (.ref n) M = none := by
    unfold inDeep
    dsimp only
    have : pyD M FU (.ref n) = none := by
      show pyD M (19 + 1) (.ref n) = none
      unfold pyD
      rw [sq]
    rw [this]
    cases pyD M FU (es s) <;> rfl
  have i4 : inDct (es s) (.ref n) M = some (valD kvs (keyS s)).isSome := by
    unfold inDct
    dsimp only
    rw [h, keyT_es]
  unfold oNin dInB
  rw [i1, i2]
  dsimp only
  rw [i3]
  dsimp only
  rw [i4]
  rfl
theorem oIx_dct {M : Mem} {n : Nat} {kvs : List (D × D)} (h : dctOf M n = some kvs) (s : Stg) {d : D} (hv : valD kvs (keyS s) = some d) : oIx (.ref n) (es s) M = some (d, M) := by
  show (match dctOf M n, keyT (es s) with
    | some kvs, some k => (valD kvs k).map fun d => (d, M)
    | _, _ => none) = _
  rw [h, keyT_es]
  dsimp only
  rw [hv]
  rfl
theorem gSb_dct {f i : EF D} {δ : DEnv} {M : Mem} {n : Nat} {kvs : List (D × D)} {s : Stg} {d : D} (hf : f δ M = .ok (.ref n) M) (hi : i δ M = .ok (es s) M) (h : dctOf M n = some kvs) (hl : kvs.length < 16777216) : gSb f i d δ M = some (δ, M.set n (.dct (putD kvs (es s) d (keyS s)))) := by
  unfold gSb
  rw [hf]
  dsimp only
  rw [hi]
  show (match dctOf M n, keyT (es s) with
    | some kvs, some k => if kvs.length < sizeLine then some (δ, M.set n (.dct (putD kvs (es s) d k))) else none
    | _, _ => none) = _
  rw [h, keyT_es]
  dsimp only
  rw [if_pos (by rw [sizeLine_val]; exact hl)]
theorem dctOf_lt {M : Mem} {n : Nat} {kvs : List (D × D)} (h : dctOf M n = some kvs) : n < M.length := by
  unfold dctOf at h
  split at h
  · rename_i e; exact (List.getElem?_eq_some_iff.mp e).1
  · cases h
theorem dctOf_app {M : Mem} {n : Nat} {kvs : List (D × D)} (G : Mem) (h : dctOf M n = some kvs) : dctOf (M ++ G) n = some kvs := by
  have := dctOf_lt h
  unfold dctOf at h ⊢
  rw [List.getElem?_append_left this]
  exact h
theorem dct_set_ne {M : Mem} {k n : Nat} {m : MO} (h : n ≠ k) : dctOf (M.set k m) n = dctOf M n := by
  unfold dctOf
  rw [List.getElem?_set_ne (Ne.symm h)]
theorem dct_set {M : Mem} {n : Nat} {kvs : List (D × D)} (h : n < M.length) : dctOf (M.set n (.dct kvs)) n = some kvs := by
  unfold dctOf
  rw [List.getElem?_set_self h]
/-- the standings met so far -/
def met (c : List P3) (f : List Int) (t : Nat) : List (D × D) := (List.range t).map fun u => (es (runL c f u), .int (u : Nat))
theorem met_len (c : List P3) (f : List Int) (t : Nat) : (met c f t).length = t := by unfold met; rw [List.length_map, List.length_range]
theorem met_any {c : List P3} {f : List Int} {t : Nat} {s : Stg} (h : ∀ u, u < t → runL c f u ≠ s) : ((met c f t).any fun p => decide (keyD p.1 = some (keyS s))) = false := by
  rw [List.any_eq_false]
  intro p hp
  unfold met at hp
  obtain ⟨u, hu, rfl⟩ := List.mem_map.mp hp
  intro z
  have z' := of_decide_eq_true z
  rw [keyD_es] at z'
  exact h u (List.mem_range.mp hu) (keyS_inj (Option.some.inj z'))
theorem met_none {c : List P3} {f : List Int} {t : Nat} {s : Stg} (h : ∀ u, u < t → runL c f u ≠ s) : valD (met c f t) (keyS s) = none := by
  have a := met_any h
  unfold valD
  rw [List.find?_eq_none.mpr fun p hp => by
    rw [List.any_eq_false] at a
    exact a p hp]
  rfl
theorem met_put {c : List P3} {f : List Int} {t : Nat} (h : ∀ u, u < t → runL c f u ≠ runL c f t) : putD (met c f t) (es (runL c f t)) (.int (t : Nat)) (keyS (runL c f t)) = met c f (t + 1) := by
  unfold putD
  rw [met_any h, if_neg Bool.false_ne_true]
  unfold met
  rw [List.range_succ, List.map_append]
  rfl
theorem met_succ (c : List P3) (f : List Int) (t : Nat) : met c f (t + 1) = met c f t ++ [(es (runL c f t), .int (t : Nat))] := by
  unfold met
  rw [List.range_succ, List.map_append]
  rfl
theorem valD_app {kvs more : List (D × D)} {k : NestedKey} : valD (kvs ++ more) k = (valD kvs k).or (valD more k) := by
  unfold valD
  rw [List.find?_append]
  cases kvs.find? fun p => decide (keyD p.1 = some k) <;> rfl
theorem met_some {c : List P3} {f : List Int} {l : Nat} {s : Stg} (e : runL c f l = s) (h : ∀ u, u < l → runL c f u ≠ s) : ∀ {t : Nat}, l < t → valD (met c f t) (keyS s) = some (.int (l : Nat))
  | 0, hl => absurd hl (Nat.not_lt_zero _)
  | t + 1, hl => by
    rw [met_succ, valD_app]
    by_cases q : l = t
    · subst q
      rw [met_none h]
      unfold valD
      rw [List.find?_cons]
      rw [show decide (keyD (es (runL c f l), D.int (l : Nat)).1 = some (keyS s)) = true from decide_eq_true (by rw [e]; exact keyD_es s)]
      rfl
    · rw [met_some e h (t := t) (by omega)]
      rfl
/-! ### till a standing comes again -/
structure AtA (M : Mem) (S : Nat → Prop) (r n : Nat) (H G : Nat → List Int) : Prop where
  r0 : S r
  ex : ∃ P : Nat → Nat, lstOf M r = some (refs P n) ∧ ∀ i, i < n → S (P i) ∧ ∃ a b, S a ∧ S b ∧ lstOf M (P i) = some [.ref a, .ref b] ∧ lstOf M a = some (il (H i)) ∧ lstOf M b = some (il (G i))
theorem At.lt {M : Mem} {lo r n : Nat} {H G : Nat → List Int} (a : At M lo r n H G) : AtA M (fun k => k < M.length) r n H G := by
  obtain ⟨P, h1, h2⟩ := a
  refine ⟨lstOf_lt h1, P, h1, fun i hi => ?_⟩
  obtain ⟨_, x, y, _, _, k1, k2, k3⟩ := h2 i hi
  exact ⟨lstOf_lt k1, x, y, lstOf_lt k2, lstOf_lt k3, k1, k2, k3⟩
theorem At.ge {M : Mem} {lo r n : Nat} {H G : Nat → List Int} (a : At M lo r n H G) (hr : lo ≤ r) : AtA M (fun k => lo ≤ k) r n H G := by
  obtain ⟨P, h1, h2⟩ := a
  refine ⟨hr, P, h1, fun i hi => ?_⟩
  obtain ⟨p0, x, y, q1, q2, k1, k2, k3⟩ := h2 i hi
  exact ⟨p0, x, y, q1, q2, k1, k2, k3⟩
theorem AtA.weak {M : Mem} {S S' : Nat → Prop} {r n : Nat} {H G : Nat → List Int} (a : AtA M S r n H G) (h : ∀ k, S k → S' k) : AtA M S' r n H G := by
  obtain ⟨r0, P, h1, h2⟩ := a
  refine ⟨h r r0, P, h1, fun i hi => ?_⟩
  obtain ⟨p0, x, y, q1, q2, k⟩ := h2 i hi
  exact ⟨h _ p0, x, y, h _ q1, h _ q2, k⟩
theorem AtA.app {M : Mem} {S : Nat → Prop} {r n : Nat} {H G : Nat → List Int} (a : AtA M S r n H G) (X : Mem) : AtA (M ++ X) S r n H G := by
  obtain ⟨r0, P, h1, h2⟩ := a
  refine ⟨r0, P, lstOf_app _ h1, fun i hi => ?_⟩
  obtain ⟨p0, x, y, q1, q2, k1, k2, k3⟩ := h2 i hi
  exact ⟨p0, x, y, q1, q2, lstOf_app _ k1, lstOf_app _ k2, lstOf_app _ k3⟩
theorem AtA.set {M : Mem} {S : Nat → Prop} {r n k : Nat} {m : MO} {H G : Nat → List Int} (a : AtA M S r n H G) (hk : ¬ S k) : AtA (M.set k m) S r n H G := by
  have ne : ∀ {j}, S j → j ≠ k := fun {j} hj z => hk (z ▸ hj)
  obtain ⟨r0, P, h1, h2⟩ := a
  refine ⟨r0, P, by rw [lst_set_ne (ne r0)]; exact h1, fun i hi => ?_⟩
  obtain ⟨p0, x, y, q1, q2, k1, k2, k3⟩ := h2 i hi
  exact ⟨p0, x, y, q1, q2, by rw [lst_set_ne (ne p0)]; exact k1, by rw [lst_set_ne (ne q1)]; exact k2, by rw [lst_set_ne (ne q2)]; exact k3⟩
theorem AtA.at {M : Mem} {S : Nat → Prop} {r n : Nat} {H G : Nat → List Int} (a : AtA M S r n H G) : At M 0 r n H G := by
  obtain ⟨r0, P, h1, h2⟩ := a
  refine ⟨P, h1, fun i hi => ?_⟩
  obtain ⟨p0, x, y, q1, q2, k⟩ := h2 i hi
  exact ⟨Nat.zero_le _, x, y, Nat.zero_le _, Nat.zero_le _, k⟩
def gvs (c : List P3) (f : List Int) (t : Nat) : List D := (List.range t).map fun u => eg (giversL (runL c f u))
def sts (c : List P3) (f : List Int) (t : Nat) : List D := (List.range t).map fun u => es (runL c f u)
theorem gvs_succ (c : List P3) (f : List Int) (t : Nat) : gvs c f (t + 1) = gvs c f t ++ [eg (giversL (runL c f t))] := by
  unfold gvs
  rw [List.range_succ, List.map_append]
  rfl
theorem sts_succ (c : List P3) (f : List Int) (t : Nat) : sts c f (t + 1) = sts c f t ++ [es (runL c f t)] := by
  unfold sts
  rw [List.range_succ, List.map_append]
  rfl
theorem gvs_len (c : List P3) (f : List Int) (t : Nat) : (gvs c f t).length = t := by unfold gvs; rw [List.length_map, List.length_range]
theorem sts_len (c : List P3) (f : List Int) (t : Nat) : (sts c f t).length = t := by unfold sts; rw [List.length_map, List.length_range]
theorem till_again_ok {c : List P3} {f : List Int} (h : OkCF c f) (k : Sm c) (hH1 : ∀ i, i < c.length → 1 ≤ Hd c i) (hw : ∀ i, i < c.length → (who c i).1 ≤ 9 ∧ (who c i).2.1 ≤ 9 ∧ (who c i).2.2 ≤ 3) (M : Mem) :
    ∃ m l G sr fr, l < m ∧ m ≤ 10000000 ∧ runL c f m = runL c f l ∧ (∀ a b, a < b → b < m → runL c f a ≠ runL c f b) ∧ f__law_till_again [ec c, ef f] M = .ok (.tup [.ref sr, .ref fr, .int l, .int ((m : Int) - l)]) (M ++ G) ∧ seqOf (M ++ G) sr = some (sts c f m) ∧ seqOf (M ++ G) fr = some (gvs c f m) := by
  have hz : sizeLine = 16777216 := sizeLine_val
  have n12 := k.n12
  obtain ⟨m, l, hlm, hmb, hml, dis⟩ := walk_ex h k hH1
  obtain ⟨G0, eb, at0⟩ := begun_ok h (by omega) (fun i hi => by have := (hw i hi).2.2; omega) M
  suffices hh : ∃ G sr fr, f__law_till_again [ec c, ef f] M = .ok (.tup [.ref sr, .ref fr, .int l, .int ((m : Int) - l)]) (M ++ G) ∧ seqOf (M ++ G) sr = some (sts c f m) ∧ seqOf (M ++ G) fr = some (gvs c f m) by
    obtain ⟨G, sr, fr, h1, h2, h3⟩ := hh
    exact ⟨m, l, G, sr, fr, hlm, hmb, hml, dis, h1, h2, h3⟩
  unfold f__law_till_again fnOf
  show ∃ G sr fr, gcR M (toR (d__law_till_again [some (ec c), some (ef f), none, none, none, none, none, none, none] M)) = _ ∧ _
  refine wp_to (r := d__law_till_again [some (ec c), some (ef f), none, none, none, none, none, none, none] M) (Q := fun z => ∃ G sr fr, gcR M (toR z) = .ok (.tup [.ref sr, .ref fr, .int l, .int ((m : Int) - l)]) (M ++ G) ∧ seqOf (M ++ G) sr = some (sts c f m) ∧ seqOf (M ++ G) fr = some (gvs c f m)) ?_
  unfold d__law_till_again
  rw [e_sSeq]
  refine wp_next (δ := [some (ec c), some (ef f), some (.ref M.length), some (.int 0), none, none, none, none, none]) (M := M ++ G0) (by simp [eb]) ?_
  rw [e_sSeq]
  have at1 := at0.lt
  obtain ⟨b, hb⟩ : ∃ b, (M ++ G0).length = b := ⟨_, rfl⟩
  rw [hb] at at1
  have hMb : M.length ≤ b := by rw [← hb, List.length_append]; omega
  have dd : ∀ δ M, dDct δ M = .ok (.ref M.length) (M ++ [.dct []]) := fun _ _ => rfl
  refine wp_next (δ := [some (ec c), some (ef f), some (.ref M.length), some (.int 0), some (.ref b), some (.ref (b + 1)), some (.ref (b + 2)), none, none]) (M := M ++ (G0 ++ [.lst [], .lst [], .dct []])) (by simp [dd, hz, ← hb]; omega) ?_
  rw [e_sSeq]
  have e3 : M ++ (G0 ++ [MO.lst [], .lst [], .dct []]) = (M ++ G0) ++ [MO.lst [], .lst [], .dct []] := (List.append_assoc _ _ _).symm
  refine wp_while (fun j δ M' => ∃ t r X x7, j = m - t ∧ t ≤ m ∧ δ = [some (ec c), some (ef f), some (.ref r), some (.int (t : Nat)), some (.ref b), some (.ref (b + 1)), some (.ref (b + 2)), x7, none] ∧ M' = M ++ X ∧ b + 2 < M'.length ∧ AtA M' (fun k => k ≠ b ∧ k ≠ b + 1 ∧ k ≠ b + 2) r c.length (hrow c f t) (grow c f t) ∧ lstOf M' b = some (sts c f t) ∧ lstOf M' (b + 1) = some (gvs c f t) ∧ dctOf M' (b + 2) = some (met c f t)) ?_ (m - 0) _ _ ⟨0, M.length, _, none, rfl, Nat.zero_le _, rfl, rfl, ?_, ?_, ?_, ?_, ?_⟩
  · rintro j δ _ ⟨t, r, X, x7, rfl, htm, rfl, rfl, hlt, at', ls, lg, dc⟩
    have sh := shape_ok h hw (by omega) at'.at
    have oin := oIn_dct dc (runL c f t)
    generalize hM' : M ++ X = M' at *
    by_cases q : t = m
    · subst q
      have vs := met_some (c := c) (f := f) (l := l) hml.symm (fun u hu => dis u l hu hlm |> fun z => by rw [hml]; exact z) hlm
      rw [vs] at oin
      have ix := oIx_dct dc (runL c f t) vs
      refine ⟨false, M', by simp [sh, oin], ?_⟩
      rw [if_neg Bool.false_ne_true, e_sSeq]
      refine wp_next (s_asg (d := .int l) (M1 := M') (by simp [sh, ix])) ?_
      simp only [List.set, e_sSeq]
      refine wp_ret (d := .tup [.ref b, .ref (b + 1), .int l, .int ((t : Int) - l)]) (M := M') (s_ret (by simp [hz])) ?_
      refine wp_of ⟨X, b, b + 1, ?_, ?_, ?_⟩
      · rw [toR_rt, ← hM']
        refine gc_keepT ?_
        show (decide (b < M.length) && _) = false
        rw [decide_eq_false (by omega), Bool.false_and]
      · rw [hM']; exact seq_of_lst ls
      · rw [hM']; exact seq_of_lst lg
    · have fresh : ∀ u, u < t → runL c f u ≠ runL c f t := fun u hu => dis u t hu (by omega)
      rw [met_none fresh] at oin
      refine ⟨true, M', by simp [sh, oin], ?_⟩
      rw [if_pos rfl, e_sSeq]
      have gs := gSb_dct (f := dVar 6) (i := dCall f__law_shape 2 (aCons (dVar 2) (aCons (dVar 3) aNil))) (δ := [some (ec c), some (ef f), some (.ref r), some (.int (t : Nat)), some (.ref b), some (.ref (b + 1)), some (.ref (b + 2)), x7, none]) (M := M') (s := runL c f t) (d := .int (t : Nat)) rfl (by simp [sh]) dc (by rw [met_len]; omega)
      rw [met_put fresh] at gs
      -- the dict
      have at1 : AtA (M'.set (b + 2) (.dct (met c f (t + 1)))) (fun k => k ≠ b ∧ k ≠ b + 1 ∧ k ≠ b + 2) r c.length (hrow c f t) (grow c f t) := at'.set fun z => z.2.2 rfl
      have ls1 : lstOf (M'.set (b + 2) (.dct (met c f (t + 1)))) b = some (sts c f t) := by rw [lst_set_ne (by omega)]; exact ls
      have lg1 : lstOf (M'.set (b + 2) (.dct (met c f (t + 1)))) (b + 1) = some (gvs c f t) := by rw [lst_set_ne (by omega)]; exact lg
      have dc1 : dctOf (M'.set (b + 2) (.dct (met c f (t + 1)))) (b + 2) = some (met c f (t + 1)) := dct_set hlt
      have p1 : ∃ X, M'.set (b + 2) (.dct (met c f (t + 1))) = M ++ X := ⟨X.set (b + 2 - M.length) (.dct (met c f (t + 1))), by rw [← hM', List.set_append_right _ _ (by omega)]⟩
      have l1 : b + 2 < (M'.set (b + 2) (.dct (met c f (t + 1)))).length := by rw [List.length_set]; exact hlt
      refine wp_next (δ := [some (ec c), some (ef f), some (.ref r), some (.int (t : Nat)), some (.ref b), some (.ref (b + 1)), some (.ref (b + 2)), x7, none]) (M := M'.set (b + 2) (.dct (met c f (t + 1)))) (by rw [e_sAsg]; simp [gs]) ?_
      generalize M'.set (b + 2) (.dct (met c f (t + 1))) = M1 at at1 ls1 lg1 dc1 p1 l1
      rw [e_sSeq]
      -- the standings
      have sh1 := shape_ok h hw (by omega) at1.at
      have is1 : isLst (.ref b) M1 = true := by rw [isLst_ref, seq_of_lst ls1]; rfl
      have ap1 : oApp (.ref b) [es (runL c f t)] M1 = some (.non, M1.set b (.lst (sts c f (t + 1)))) := by
        rw [oApp_ref, ls1, Option.bind_some, if_pos (by rw [sts_len, hz]; omega), sts_succ]
      refine wp_next (s_drop (d := .non) (M1 := M1.set b (.lst (sts c f (t + 1)))) (by rw [e_dMt]; simp [is1, sh1, ap1])) ?_
      have at2 : AtA (M1.set b (.lst (sts c f (t + 1)))) (fun k => k ≠ b ∧ k ≠ b + 1 ∧ k ≠ b + 2) r c.length (hrow c f t) (grow c f t) := at1.set fun z => z.1 rfl
      have ls2 : lstOf (M1.set b (.lst (sts c f (t + 1)))) b = some (sts c f (t + 1)) := lstOf_set (by omega)
      have lg2 : lstOf (M1.set b (.lst (sts c f (t + 1)))) (b + 1) = some (gvs c f t) := by rw [lst_set_ne (by omega)]; exact lg1
      have dc2 : dctOf (M1.set b (.lst (sts c f (t + 1)))) (b + 2) = some (met c f (t + 1)) := by rw [dct_set_ne (by omega)]; exact dc1
      have p2 : ∃ X, M1.set b (.lst (sts c f (t + 1))) = M ++ X := by
        obtain ⟨X, rfl⟩ := p1
        exact ⟨X.set (b - M.length) (.lst (sts c f (t + 1))), by rw [List.set_append_right _ _ (by omega)]⟩
      have l2 : b + 2 < (M1.set b (.lst (sts c f (t + 1)))).length := by rw [List.length_set]; exact l1
      generalize M1.set b (.lst (sts c f (t + 1))) = M2 at at2 ls2 lg2 dc2 p2 l2
      rw [e_sSeq]
      -- the beat
      obtain ⟨G, o, ho, e1, at3⟩ := one_beat_ok h hw (by omega) at2.at
      refine wp_next (δ := [some (ec c), some (ef f), some (.ref o), some (.int (t : Nat)), some (.ref b), some (.ref (b + 1)), some (.ref (b + 2)), some (eg (giversL (runL c f t))), none]) (M := M2 ++ G) (by simp [e1]) ?_
      have at4 : AtA (M2 ++ G) (fun k => k ≠ b ∧ k ≠ b + 1 ∧ k ≠ b + 2) o c.length (hrow c f (t + 1)) (grow c f (t + 1)) := (at3.ge (Nat.le_refl _)).weak fun k hk => by omega
      have ls3 := lstOf_app G ls2
      have lg3 := lstOf_app G lg2
      have dc3 := dctOf_app G dc2
      have p3 : ∃ X, M2 ++ G = M ++ X := by
        obtain ⟨X, rfl⟩ := p2
        exact ⟨X ++ G, List.append_assoc _ _ _⟩
      have l3 : b + 2 < (M2 ++ G).length := by rw [List.length_append]; omega
      generalize M2 ++ G = M3 at at4 ls3 lg3 dc3 p3 l3
      rw [e_sSeq]
      have is3 : isLst (.ref (b + 1)) M3 = true := by rw [isLst_ref, seq_of_lst lg3]; rfl
      have ap3 : oApp (.ref (b + 1)) [eg (giversL (runL c f t))] M3 = some (.non, M3.set (b + 1) (.lst (gvs c f (t + 1)))) := by
        rw [oApp_ref, lg3, Option.bind_some, if_pos (by rw [gvs_len, hz]; omega), gvs_succ]
      refine wp_next (s_drop (d := .non) (M1 := M3.set (b + 1) (.lst (gvs c f (t + 1)))) (by rw [e_dMt]; simp [is3, ap3])) ?_
      rw [e_sSeq]
      refine wp_next (s_asg (d := .int ((t + 1 : Nat) : Int)) (M1 := M3.set (b + 1) (.lst (gvs c f (t + 1)))) (by simp)) ?_
      simp only [List.set]
      rw [e_sNil, step_nx]
      obtain ⟨X3, rfl⟩ := p3
      refine ⟨m - (t + 1), by omega, t + 1, o, X3.set (b + 1 - M.length) (.lst (gvs c f (t + 1))), _, rfl, by omega, rfl, by rw [List.set_append_right _ _ (by omega)], by rw [List.length_set]; exact l3, at4.set fun z => z.2.1 rfl, ?_, lstOf_set (by omega), ?_⟩
      · rw [lst_set_ne (by omega)]; exact ls3
      · rw [dct_set_ne (by omega)]; exact dc3
  · rw [e3, List.length_append, hb]
    show b + 2 < b + 3
    omega
  · rw [e3]
    exact (at1.app _).weak fun k hk => by omega
  · rw [e3, ← hb, lstOf_new0]; rfl
  · rw [e3, ← hb, lstOf_new]; rfl
  · rw [e3, ← hb]
    show dctOf ((M ++ G0) ++ [MO.lst [], .lst [], .dct []]) ((M ++ G0).length + 2) = _
    unfold dctOf
    rw [List.getElem?_append_right (by omega), show (M ++ G0).length + 2 - (M ++ G0).length = 2 by omega]
    rfl
end Lw
namespace Lw
open PySem Pd
def et (cn : Str) (w : Str) (y : Str) : D := .tup [.str w, .bl (cn == y)]
def errL (cn : Str) : List D := [et cn "circle" "InvalidCircle", et cn "plan" "InvalidPlan", et cn "filling" "InvalidFilling", et cn "index" "InvalidIndex", et cn "number" "InvalidNumber", et cn "seen" "InvalidSeen", et cn "ready" "NotReady", et cn "undo" "NothingToUndo", et cn "many" "TooMany", et cn "text" "InvalidText"]
theorem isX_ok {e : Addr} {cn y : Str} {M : Mem} (h : goodX.contains cn = true) (hy : allX.contains y = true) : oIsiX e cn isx [.exn e cn, .gl y] M = some (.bl (cn == y), M) := by
  show (if e = e ∧ cn = cn then (isx cn y).map (fun b => (D.bl b, M)) else none) = _
  rw [if_pos ⟨rfl, rfl⟩]
  have : isx cn y = some (cn == y) := by
    unfold isx isxT
    rw [h, hy]
    rfl
  rw [this]
  rfl
theorem two_ok {e : Addr} {cn y1 y2 w1 w2 : Str} {M : Mem} {x : Option D} (h : goodX.contains cn = true) (h1 : allX.contains y1 = true) (h2 : allX.contains y2 = true) :
    dLst (aCons (dTup (aCons (dC (.str w1)) (aCons (dBlt (oIsiX e cn isx) (aCons (dVar 0) (aCons (dC (.gl y1)) aNil))) aNil))) (aCons (dTup (aCons (dC (.str w2)) (aCons (dBlt (oIsiX e cn isx) (aCons (dVar 0) (aCons (dC (.gl y2)) aNil))) aNil))) aNil)) [some (.exn e cn), x, none, none] M = .ok (.ref M.length) (M ++ [MO.lst [et cn w1 y1, et cn w2 y2]]) := by
  have z2 : 2 ≤ sizeLine := by decide
  simp [isX_ok (e := e) h h1, isX_ok (e := e) h h2, z2, et]
theorem more_ok {e : Addr} {cn y1 y2 w1 w2 : Str} {M : Mem} {cur : Nat} {L : List D} (h : goodX.contains cn = true) (h1 : allX.contains y1 = true) (h2 : allX.contains y2 = true) (hL : lstOf M cur = some L) (hl : L.length ≤ 100) :
    (sAsg (dBin oAdd (dVar 1) (dLst (aCons (dTup (aCons (dC (.str w1)) (aCons (dBlt (oIsiX e cn isx) (aCons (dVar 0) (aCons (dC (.gl y1)) aNil))) aNil))) (aCons (dTup (aCons (dC (.str w2)) (aCons (dBlt (oIsiX e cn isx) (aCons (dVar 0) (aCons (dC (.gl y2)) aNil))) aNil))) aNil)))) (gNm 1)) [some (.exn e cn), some (.ref cur), none, none] M =
      .nx [some (.exn e cn), some (.ref (M ++ [MO.lst [et cn w1 y1, et cn w2 y2]]).length), none, none] ((M ++ [MO.lst [et cn w1 y1, et cn w2 y2]]) ++ [MO.lst (L ++ [et cn w1 y1, et cn w2 y2])]) := by
  have hz : sizeLine = 16777216 := rfl
  rw [e_sAsg, e_dBin]
  simp only [e_dVar, List.getElem?_cons_succ, List.getElem?_cons_zero, varK_some, bind_ok]
  rw [two_ok h h1 h2, bind_ok]
  rw [oAdd_lst (lstOf_app _ hL) (lstOf_end rfl) (by simp; omega)]
  rfl
theorem tells : ∀ e cn M, kRes (kind goodX cn) M ≠ .bad → fnOf N__law_error.length (d__law_error e cn) [.exn e cn] M = kRes (kind goodX cn) M := fun e cn M hk => by
  have hg : goodX.contains cn = true := by
    unfold kind at hk
    by_cases h : goodX.contains cn = true
    · exact h
    · rw [if_neg h] at hk
      exact absurd rfl hk
  have z2 : 2 ≤ sizeLine := by decide
  have hz : sizeLine = 16777216 := rfl
  unfold fnOf
  simp only [d__law_error, N__law_error, e_sSeq, List.map_cons, List.map_nil, List.length_cons, List.length_nil, List.replicate, List.cons_append, List.nil_append]
  rw [e_sAsg, two_ok hg (by decide +kernel) (by decide +kernel), onV_ok]
  simp only [e_gNm, onG_some, seqK_nx, e_sSeq, List.set]
  rw [more_ok hg (by decide +kernel) (by decide +kernel) (lstOf_end rfl) (by simp)]
  simp only [seqK_nx, e_sSeq]
  rw [more_ok hg (by decide +kernel) (by decide +kernel) (lstOf_end rfl) (by simp)]
  simp only [seqK_nx, e_sSeq]
  rw [more_ok hg (by decide +kernel) (by decide +kernel) (lstOf_end rfl) (by simp)]
  simp only [seqK_nx, e_sSeq]
  rw [more_ok hg (by decide +kernel) (by decide +kernel) (lstOf_end rfl) (by simp)]
  simp only [seqK_nx, e_sSeq, List.cons_append, List.nil_append]
  rw [show [et cn "circle" "InvalidCircle", et cn "plan" "InvalidPlan", et cn "filling" "InvalidFilling", et cn "index" "InvalidIndex", et cn "number" "InvalidNumber", et cn "seen" "InvalidSeen", et cn "ready" "NotReady", et cn "undo" "NothingToUndo", et cn "many" "TooMany", et cn "text" "InvalidText"] = errL cn from rfl]
  generalize hM : (_ ++ [MO.lst [et cn "many" "TooMany", et cn "text" "InvalidText"]] : Mem) = M1
  have lc := dLc_live (own := [2, 3]) (src := dLive (dVar 1)) (g := gTpT 2 (gsCons (gNm 2) (gsCons (gNm 3) gsNil))) (tt := tV (dVar 3)) (te := dVar 2) (δ := [some (.exn e cn), some (.ref M1.length), none, none]) (M := M1 ++ [MO.lst (errL cn)]) (M1 := M1 ++ [MO.lst (errL cn)]) (n := M1.length) (l := errL cn)
    (fun d => match d with | .tup [_, .bl b] => b | _ => false) (fun d => match d with | .tup [w, _] => w | _ => .non) (dLive_ok (l := errL cn) rfl (seqOf_end rfl)) (seqOf_end rfl) (by show 10 ≤ sizeLine; decide)
    (fun d hd acc => by
      obtain ⟨w, y, rfl⟩ : ∃ w y, d = et cn w y := by
        simp only [errL, List.mem_cons, List.not_mem_nil, or_false] at hd
        rcases hd with h | h | h | h | h | h | h | h | h | h <;> exact ⟨_, _, h⟩
      exact ⟨_, rfl, rfl, fun _ => rfl⟩)
  have one : ((errL cn).filter fun d => match d with | .tup [_, .bl b] => b | _ => false).map (fun d => match d with | .tup [w, _] => w | _ => D.non) = [kindOf cn].map .str := by
    have hm : cn ∈ goodX := List.contains_iff_mem.mp hg
    simp only [goodX, List.mem_cons, List.not_mem_nil, or_false] at hm
    rcases hm with h | h | h <;> subst h <;> kernel_rfl
  rw [one] at lc
  have jn : oJoin (.str " ") [.ref (M1 ++ [MO.lst (errL cn)]).length] ((M1 ++ [MO.lst (errL cn)]) ++ [MO.lst ([kindOf cn].map .str)]) = some (.str (kindOf cn), (M1 ++ [MO.lst (errL cn)]) ++ [MO.lst ([kindOf cn].map .str)]) := by
    have hm : cn ∈ goodX := List.contains_iff_mem.mp hg
    rw [oJoin_lst (seqOf_end rfl) (by
      simp only [goodX, List.mem_cons, List.not_mem_nil, or_false] at hm
      rcases hm with h | h | h <;> subst h <;> decide +kernel)]
    congr 3
  have hkd : kRes (kind goodX cn) M = .ok (.str (kindOf cn)) M := by
    unfold kind
    rw [if_pos hg]
    rfl
  rw [hkd, e_sRet, e_dMt]
  simp only [e_dC, bind_ok, isStr, if_true, e_aCons, lc, e_aNil, jn, ofV_some, onV_ok, seqK_rt, toR_rt]
  obtain ⟨G, hG⟩ : ∃ G, M1 ++ [MO.lst (errL cn)] ++ [MO.lst ([kindOf cn].map .str)] = M ++ G := ⟨_, by rw [← hM]; simp only [List.append_assoc]; rfl⟩
  rw [hG]
  exact gc_str
end Lw
namespace Lw
open PySem Pd
theorem by_two_exc {x : Str} {φ : List D → Mem → Res D} {a b : D} {cn z : Str} {M : Mem} (hx : fnsOf G23 x = some (2, φ)) (h : φ [a, b] M = .exc ⟨cn, []⟩ M) (hk : kind goodX cn = some z) : f__law_by_two [.gl x, a, b] M = .ok (.str z) M := by
  have e : dHof F_refused (dCallV (fnsOf G23) 0 (aCons (dVar 1) (aCons (dVar 2) aNil))) [some (.gl x), some a, some b] M = .ok (.str z) M := by
    show refF "" (kind goodX) (dCallV (fnsOf G23) 0 (aCons (dVar 1) (aCons (dVar 2) aNil)) [some (.gl x), some a, some b] M) M = _
    have e1 : dCallV (fnsOf G23) 0 (aCons (dVar 1) (aCons (dVar 2) aNil)) [some (.gl x), some a, some b] M = .exc ⟨cn, []⟩ M := by
      show (match fnsOf G23 x with
        | some p => dCall p.2 p.1 (aCons (dVar 1) (aCons (dVar 2) aNil)) [some (.gl x), some a, some b] M
        | none => .bad) = _
      rw [hx]
      simp [h]
    rw [e1]
    show (if ([] : List (Str × D)) = [] then kRes (kind goodX cn) M else .bad) = _
    rw [if_pos rfl, hk]
    rfl
  unfold f__law_by_two fnOf
  simp [d__law_by_two, e]
theorem g2_is_right_filling : fnsOf G23 "is_right_filling" = some (2, f_is_right_filling) := by kernel_rfl
theorem g2_need_filling : fnsOf G23 "need_filling" = some (2, f_need_filling) := by kernel_rfl
theorem g2_first_standing : fnsOf G23 "first_standing" = some (2, f_first_standing) := by kernel_rfl
theorem g2_stepped : fnsOf G23 "stepped" = some (2, f_stepped) := by kernel_rfl
theorem g2_walked : fnsOf G23 "walked" = some (2, f_walked) := by kernel_rfl
theorem g2_times_of : fnsOf G23 "times_of" = some (2, f_times_of) := by kernel_rfl
theorem g2_fillings_of : fnsOf G23 "fillings_of" = some (2, f_fillings_of) := by kernel_rfl
theorem g2_round_of : fnsOf G23 "round_of" = some (2, f_round_of) := by kernel_rfl
theorem g2_longest_lead : fnsOf G23 "longest_lead" = some (2, f_longest_lead) := by kernel_rfl
theorem k_circle : kind goodX "InvalidCircle" = some "circle" := by kernel_rfl
theorem k_filling : kind goodX "InvalidFilling" = some "filling" := by kernel_rfl
theorem k_number : kind goodX "InvalidNumber" = some "number" := by kernel_rfl
theorem ne_str {z : Str} (h : PyData.strOk z = true) (M : Mem) : oNe (.str z) (.str z) M = some (.bl false, M) := by
  rw [oNe_str h h]
  simp
end Lw
namespace Lw
open PySem Pd Hr
theorem okC.sm {c : List P3} (hc : okC c) : Sm c := by
  refine ⟨hc.1.2, fun i hi => ?_, fun i hi => ?_⟩
  · obtain ⟨w1, w2, w3⟩ := okC.who hc hi
    unfold Cy Bk
    omega
  · obtain ⟨w1, w2, w3⟩ := okC.who hc hi
    unfold Hd
    omega
theorem okC.h1 {c : List P3} (hc : okC c) : ∀ i, i < c.length → 1 ≤ Hd c i := fun i hi => by
  obtain ⟨w1, w2, w3⟩ := okC.who hc hi
  unfold Hd
  omega
theorem okC.h9 {c : List P3} (hc : okC c) : ∀ i, i < c.length → (Hr.who c i).1 ≤ 9 ∧ (Hr.who c i).2.1 ≤ 9 ∧ (Hr.who c i).2.2 ≤ 3 := fun i hi => by
  obtain ⟨w1, w2, w3⟩ := okC.who hc hi
  omega
theorem cnt_drop (p : Nat → Bool) (l : Nat) : ∀ m, l ≤ m → (((List.range m).drop l).filter p).length = cnt p m - cnt p l
  | 0, h => by
    rw [show l = 0 by omega]
    rfl
  | m + 1, h => by
    by_cases e : l = m + 1
    · subst e
      rw [List.drop_eq_nil_of_le (by rw [List.length_range]; exact Nat.le_refl _), Nat.sub_self]
      rfl
    · have ih := cnt_drop p l m (by omega)
      have mo := cnt_mono p (show l ≤ m by omega)
      rw [List.range_succ, List.drop_append_of_le_length (by rw [List.length_range]; omega), List.filter_append, List.length_append, ih]
      have e1 : cnt p (m + 1) = cnt p m + if p m = true then 1 else 0 := rfl
      rw [e1]
      cases hp : p m
      · simp [hp]
      · simp [hp]
        omega
def isI (i : Nat) (d : D) : Bool := match d with
  | .tup x => (match oIn (.int i) (.tup x) [] with
    | some (.bl b, _) => b
    | _ => false)
  | _ => false
theorem isI_eg (i : Nat) (g : List Nat) : isI i (eg g) = decide (i ∈ g) := by
  have e : (g.map fun i : Nat => D.int i) = (g.map fun i : Nat => (i : Int)).map D.int := by rw [List.map_map]; rfl
  show (match oIn (.int i) (.tup (g.map fun i : Nat => D.int i)) [] with
    | some (.bl b, _) => b
    | _ => false) = _
  rw [e, oIn_ints]
  dsimp only
  refine decide_eq_decide.mpr ⟨fun h => ?_, fun h => List.mem_map.mpr ⟨i, h, rfl⟩⟩
  obtain ⟨j, hj, z⟩ := List.mem_map.mp h
  rwa [show i = j by omega]
theorem inI_eg (i : Nat) (g : List Nat) (M : Mem) : oIn (.int i) (eg g) M = some (.bl (isI i (eg g)), M) := by
  have e : (g.map fun i : Nat => D.int i) = (g.map fun i : Nat => (i : Int)).map D.int := by rw [List.map_map]; rfl
  rw [isI_eg]
  show oIn (.int i) (.tup (g.map fun i : Nat => D.int i)) M = _
  rw [e, oIn_ints]
  congr 3
  refine decide_eq_decide.mpr ⟨fun h => ?_, fun h => List.mem_map.mpr ⟨i, h, rfl⟩⟩
  obtain ⟨j, hj, z⟩ := List.mem_map.mp h
  rwa [show i = j by omega]
theorem gvs_count (c : List P3) (f : List Int) (i : Nat) {l m : Nat} (h : l ≤ m) (g : D → D) : ((((gvs c f m).drop l).filter (isI i)).map g).length = N c f i m - N c f i l := by
  rw [List.length_map]
  unfold gvs
  rw [← List.map_drop, List.filter_map, List.length_map]
  rw [show (isI i ∘ fun u => eg (giversL (runL c f u))) = fire c f i from funext fun u => isI_eg i _]
  exact cnt_drop _ l m h
/-! a dict of standings and numbers -/
def Has (kv : List (D × D)) (s : Stg) : Prop := ∃ p ∈ kv, keyD p.1 = some (keyS s)
theorem has_some {kv : List (D × D)} {s : Stg} : (valD kv (keyS s)).isSome = true ↔ Has kv s := by
  unfold valD Has
  rw [Option.isSome_map, List.find?_isSome]
  exact ⟨fun ⟨p, hp, e⟩ => ⟨p, hp, of_decide_eq_true e⟩, fun ⟨p, hp, e⟩ => ⟨p, hp, decide_eq_true e⟩⟩
theorem has_any {kv : List (D × D)} {s : Stg} : (kv.any fun p => decide (keyD p.1 = some (keyS s))) = true ↔ Has kv s := by
  unfold Has
  rw [List.any_eq_true]
  exact ⟨fun ⟨p, hp, e⟩ => ⟨p, hp, of_decide_eq_true e⟩, fun ⟨p, hp, e⟩ => ⟨p, hp, decide_eq_true e⟩⟩
theorem has_put {kv : List (D × D)} {s s' : Stg} {d : D} : Has (putD kv (es s) d (keyS s)) s' ↔ Has kv s' ∨ s' = s := by
  unfold putD
  by_cases h : (kv.any fun p => decide (keyD p.1 = some (keyS s))) = true
  · rw [if_pos h]
    have hs := has_any.mp h
    constructor
    · rintro ⟨p, hp, e⟩
      obtain ⟨q, hq, rfl⟩ := List.mem_map.mp hp
      refine .inl ⟨q, hq, ?_⟩
      by_cases g : keyD q.1 = some (keyS s)
      · rw [if_pos g] at e; exact e
      · rw [if_neg g] at e; exact e
    · rintro (⟨p, hp, e⟩ | e)
      · refine ⟨_, List.mem_map.mpr ⟨p, hp, rfl⟩, ?_⟩
        by_cases g : keyD p.1 = some (keyS s)
        · rw [if_pos g]; exact e
        · rw [if_neg g]; exact e
      · subst e
        obtain ⟨p, hp, e⟩ := hs
        refine ⟨_, List.mem_map.mpr ⟨p, hp, rfl⟩, ?_⟩
        rw [if_pos e]
        exact e
  · rw [if_neg h]
    constructor
    · rintro ⟨p, hp, e⟩
      rcases List.mem_append.mp hp with hp | hp
      · exact .inl ⟨p, hp, e⟩
      · have := List.mem_singleton.mp hp
        subst this
        rw [keyD_es] at e
        exact .inr (keyS_inj (Option.some.inj e)).symm
    · rintro (⟨p, hp, e⟩ | e)
      · exact ⟨p, List.mem_append_left _ hp, e⟩
      · subst e
        exact ⟨_, List.mem_append_right _ List.mem_cons_self, keyD_es _⟩
theorem put_len {kv : List (D × D)} {d v : D} {k : NestedKey} : (putD kv d v k).length ≤ kv.length + 1 := by
  unfold putD
  split
  · rw [List.length_map]; omega
  · simp
/-- all that the dict holds are leads -/
def Ent (c : List P3) (kv : List (D × D)) : Prop := ∀ p ∈ kv, ∃ (s : Stg) (n : Nat), p = (es s, .int n) ∧ Ld c s n
theorem Ent.put {c : List P3} {kv : List (D × D)} {s : Stg} {n : Nat} (h : Ent c kv) (l : Ld c s n) : Ent c (putD kv (es s) (.int n) (keyS s)) := by
  intro p hp
  unfold putD at hp
  split at hp
  · obtain ⟨q, hq, rfl⟩ := List.mem_map.mp hp
    obtain ⟨s', n', rfl, l'⟩ := h q hq
    by_cases g : keyD (es s') = some (keyS s)
    · rw [keyD_es] at g
      have := keyS_inj (Option.some.inj g)
      subst this
      rw [if_pos (keyD_es _)]
      exact ⟨s', n, rfl, l⟩
    · rw [if_neg g]
      exact ⟨s', n', rfl, l'⟩
  · rcases List.mem_append.mp hp with hp | hp
    · exact h p hp
    · exact ⟨s, n, List.mem_singleton.mp hp, l⟩
theorem Ent.val {c : List P3} {kv : List (D × D)} {s : Stg} (h : Ent c kv) (hs : Has kv s) : ∃ n : Nat, valD kv (keyS s) = some (.int n) ∧ Ld c s n := by
  have := has_some.mpr hs
  obtain ⟨d, e⟩ := Option.isSome_iff_exists.mp this
  have e' := e
  unfold valD at e
  obtain ⟨p, hp, e2⟩ := Option.map_eq_some_iff.mp e
  have k0 := List.find?_some hp
  have k : keyD p.1 = some (keyS s) := of_decide_eq_true k0
  obtain ⟨s', n, rfl, l⟩ := h p (List.mem_of_find?_eq_some hp)
  rw [keyD_es] at k
  have := keyS_inj (Option.some.inj k)
  subst this
  exact ⟨n, by rw [e', ← e2], l⟩
theorem has_none {kv : List (D × D)} {s : Stg} (h : ¬ Has kv s) : valD kv (keyS s) = none := by
  cases e : valD kv (keyS s) with
  | none => rfl
  | some d => exact absurd (has_some.mp (by rw [e]; rfl)) h
theorem below_kv {c : List P3} {kv : List (D × D)} (h : Ent c kv) (n : Nat) : belowM n (.dct kv) = true := by
  have : ∀ kv : List (D × D), Ent c kv → belowK n kv = true := by
    intro kv
    induction kv with
    | nil => intro _; rfl
    | cons p kv ih =>
      intro h
      obtain ⟨s, m, rfl, _⟩ := h p List.mem_cons_self
      unfold belowK
      simp only [below_es, ih fun q hq => h q (List.mem_cons_of_mem _ hq)]
      rfl
  exact this kv h
theorem inB_dct {M : Mem} {n : Nat} {kvs : List (D × D)} (h : dctOf M n = some kvs) (s : Stg) : oIn (es s) (.ref n) M = some (.bl (valD kvs (keyS s)).isSome, M) := by
  have e := oIn_dct h s
  unfold oNin at e
  unfold oIn
  cases q : dInB (es s) (.ref n) M with
  | none => rw [q] at e; cases e
  | some b =>
    rw [q] at e
    have e' : some (D.bl (!b), M) = some (D.bl (!(valD kvs (keyS s)).isSome), M) := e
    injection e' with e'
    injection e' with e1 _
    injection e1 with e1
    show some (D.bl b, M) = _
    cases b <;> cases h : (valD kvs (keyS s)).isSome <;> rw [h] at e1 <;> simp_all
theorem oGet_dct {M : Mem} {n : Nat} {kvs : List (D × D)} (h : dctOf M n = some kvs) (s : Stg) (z : D) : oGet (.ref n) [es s, z] M = some ((valD kvs (keyS s)).getD z, M) := by
  show (match dctOf M n, keyT (es s) with
    | some kvs, some kk => some ((valD kvs kk).getD z, M)
    | _, _ => none) = _
  rw [h, keyT_es]
theorem isDct_ref {M : Mem} {n : Nat} {kvs : List (D × D)} (h : dctOf M n = some kvs) : isDct (.ref n) M = true := by
  show (dctOf M n).isSome = true
  rw [h]
  rfl
end Lw
namespace Lw
open PySem Pd Hr
theorem walked_ok {c : List P3} {f : List Int} (h : OkCF c f) (hc : c.length ≤ 1000) (hw : ∀ i, i < c.length → (who c i).1 ≤ 9 ∧ (who c i).2.1 ≤ 9 ∧ (who c i).2.2 ≤ 3) {m l : Nat} (hlm : l < m) (hmb : m ≤ 10000000) (hml : runL c f m = runL c f l)
    (dis : ∀ a b, a < b → b < m → runL c f a ≠ runL c f b) (M : Mem) :
    ∃ G sr fr, f_walked [ec c, ef f] M = .ok (.tup [.ref sr, .ref fr, .int l, .int ((m : Int) - l)]) (M ++ G) ∧ seqOf (M ++ G) sr = some (sts c f m) ∧ seqOf (M ++ G) fr = some (gvs c f m) := by
  have hz : sizeLine = 16777216 := sizeLine_val
  have n0 := h.n0
  have fs := fun M => first_standing_ok h hc (fun i hi => by have := (hw i hi).2.2; omega) M
  unfold f_walked fnOf
  show ∃ G sr fr, gcR M (toR (d_walked [some (ec c), some (ef f), none, none, none, none, none, none] M)) = _ ∧ _
  refine wp_to (r := d_walked [some (ec c), some (ef f), none, none, none, none, none, none] M) (Q := fun z => ∃ G sr fr, gcR M (toR z) = .ok (.tup [.ref sr, .ref fr, .int l, .int ((m : Int) - l)]) (M ++ G) ∧ seqOf (M ++ G) sr = some (sts c f m) ∧ seqOf (M ++ G) fr = some (gvs c f m)) ?_
  unfold d_walked
  rw [e_sSeq]
  refine wp_next (s_asg (d := es (runL c f 0)) (M1 := M) (by simp [fs]; rfl)) ?_
  simp only [List.set]
  rw [e_sSeq]
  have dd : ∀ δ M, dDct δ M = .ok (.ref M.length) (M ++ [.dct []]) := fun _ _ => rfl
  refine wp_next (δ := [some (ec c), some (ef f), some (es (runL c f 0)), some (.ref M.length), some (.ref (M.length + 1)), some (.ref (M.length + 2)), none, none]) (M := M ++ [.lst [], .lst [], .dct []]) (by simp [dd, hz]) ?_
  obtain ⟨b, hb⟩ : ∃ b, M.length = b := ⟨_, rfl⟩
  rw [hb, e_sSeq]
  refine wp_while (fun j δ M' => ∃ t X x6, j = m - t ∧ t ≤ m ∧ δ = [some (ec c), some (ef f), some (es (runL c f t)), some (.ref b), some (.ref (b + 1)), some (.ref (b + 2)), x6, none] ∧ M' = M ++ X ∧ b + 2 < M'.length ∧ lstOf M' b = some (sts c f t) ∧ lstOf M' (b + 1) = some (gvs c f t) ∧ dctOf M' (b + 2) = some (met c f t)) ?_ (m - 0) _ _ ⟨0, _, none, rfl, Nat.zero_le _, rfl, rfl, ?_, ?_, ?_, ?_⟩
  · rintro j δ _ ⟨t, X, x6, rfl, htm, rfl, rfl, hlt, ls, lg, dc⟩
    have oin := oIn_dct dc (runL c f t)
    generalize hM' : M ++ X = M' at *
    by_cases q : t = m
    · subst q
      have vs := met_some (c := c) (f := f) (l := l) hml.symm (fun u hu => dis u l hu hlm |> fun z => by rw [hml]; exact z) hlm
      rw [vs] at oin
      have ix := oIx_dct dc (runL c f t) vs
      refine ⟨false, M', by simp [oin], ?_⟩
      rw [if_neg Bool.false_ne_true, e_sSeq]
      refine wp_next (s_asg (d := .int l) (M1 := M') (by simp [ix])) ?_
      simp only [List.set, e_sSeq]
      have le := oLen_lst (seq_of_lst ls)
      rw [sts_len] at le
      refine wp_ret (d := .tup [.ref b, .ref (b + 1), .int l, .int ((t : Int) - l)]) (M := M') (s_ret (by simp [hz, le])) ?_
      refine wp_of ⟨X, b, b + 1, ?_, ?_, ?_⟩
      · rw [toR_rt, ← hM']
        refine gc_keepT ?_
        show (decide (b < M.length) && _) = false
        rw [decide_eq_false (by omega), Bool.false_and]
      · rw [hM']; exact seq_of_lst ls
      · rw [hM']; exact seq_of_lst lg
    · have fresh : ∀ u, u < t → runL c f u ≠ runL c f t := fun u hu => dis u t hu (by omega)
      rw [met_none fresh] at oin
      refine ⟨true, M', by simp [oin], ?_⟩
      rw [if_pos rfl, e_sSeq]
      have le := oLen_lst (seq_of_lst ls)
      rw [sts_len] at le
      have gs := gSb_dct (f := dVar 5) (i := dVar 2) (δ := [some (ec c), some (ef f), some (es (runL c f t)), some (.ref b), some (.ref (b + 1)), some (.ref (b + 2)), x6, none]) (M := M') (s := runL c f t) (d := .int (t : Nat)) rfl rfl dc (by rw [met_len]; omega)
      rw [met_put fresh] at gs
      have ls1 : lstOf (M'.set (b + 2) (.dct (met c f (t + 1)))) b = some (sts c f t) := by rw [lst_set_ne (by omega)]; exact ls
      have lg1 : lstOf (M'.set (b + 2) (.dct (met c f (t + 1)))) (b + 1) = some (gvs c f t) := by rw [lst_set_ne (by omega)]; exact lg
      have dc1 : dctOf (M'.set (b + 2) (.dct (met c f (t + 1)))) (b + 2) = some (met c f (t + 1)) := dct_set hlt
      have p1 : ∃ X, M'.set (b + 2) (.dct (met c f (t + 1))) = M ++ X := ⟨X.set (b + 2 - M.length) (.dct (met c f (t + 1))), by rw [← hM', List.set_append_right _ _ (by omega)]⟩
      have l1 : b + 2 < (M'.set (b + 2) (.dct (met c f (t + 1)))).length := by rw [List.length_set]; exact hlt
      refine wp_next (δ := [some (ec c), some (ef f), some (es (runL c f t)), some (.ref b), some (.ref (b + 1)), some (.ref (b + 2)), x6, none]) (M := M'.set (b + 2) (.dct (met c f (t + 1)))) (by rw [e_sAsg]; simp [gs, le]) ?_
      generalize M'.set (b + 2) (.dct (met c f (t + 1))) = M1 at ls1 lg1 dc1 p1 l1
      rw [e_sSeq]
      have is1 : isLst (.ref b) M1 = true := by rw [isLst_ref, seq_of_lst ls1]; rfl
      have ap1 : oApp (.ref b) [es (runL c f t)] M1 = some (.non, M1.set b (.lst (sts c f (t + 1)))) := by
        rw [oApp_ref, ls1, Option.bind_some, if_pos (by rw [sts_len, hz]; omega), sts_succ]
      refine wp_next (s_drop (d := .non) (M1 := M1.set b (.lst (sts c f (t + 1)))) (by rw [e_dMt]; simp [is1, ap1])) ?_
      have ls2 : lstOf (M1.set b (.lst (sts c f (t + 1)))) b = some (sts c f (t + 1)) := lstOf_set (by omega)
      have lg2 : lstOf (M1.set b (.lst (sts c f (t + 1)))) (b + 1) = some (gvs c f t) := by rw [lst_set_ne (by omega)]; exact lg1
      have dc2 : dctOf (M1.set b (.lst (sts c f (t + 1)))) (b + 2) = some (met c f (t + 1)) := by rw [dct_set_ne (by omega)]; exact dc1
      have p2 : ∃ X, M1.set b (.lst (sts c f (t + 1))) = M ++ X := by
        obtain ⟨X, rfl⟩ := p1
        exact ⟨X.set (b - M.length) (.lst (sts c f (t + 1))), by rw [List.set_append_right _ _ (by omega)]⟩
      have l2 : b + 2 < (M1.set b (.lst (sts c f (t + 1)))).length := by rw [List.length_set]; exact l1
      generalize M1.set b (.lst (sts c f (t + 1))) = M2 at ls2 lg2 dc2 p2 l2
      rw [e_sSeq]
      have st := fun M => stepped_ok (c := c) (s := runL c f t) n0 hc (len_run t) (run_small h hw t) M
      refine wp_next (δ := [some (ec c), some (ef f), some (es (runL c f (t + 1))), some (.ref b), some (.ref (b + 1)), some (.ref (b + 2)), some (eg (giversL (runL c f t))), none]) (M := M2) (by simp [st]; rfl) ?_
      rw [e_sSeq]
      have is3 : isLst (.ref (b + 1)) M2 = true := by rw [isLst_ref, seq_of_lst lg2]; rfl
      have ap3 : oApp (.ref (b + 1)) [eg (giversL (runL c f t))] M2 = some (.non, M2.set (b + 1) (.lst (gvs c f (t + 1)))) := by
        rw [oApp_ref, lg2, Option.bind_some, if_pos (by rw [gvs_len, hz]; omega), gvs_succ]
      refine wp_next (s_drop (d := .non) (M1 := M2.set (b + 1) (.lst (gvs c f (t + 1)))) (by rw [e_dMt]; simp [is3, ap3])) ?_
      rw [e_sNil, step_nx]
      obtain ⟨X3, rfl⟩ := p2
      refine ⟨m - (t + 1), by omega, t + 1, X3.set (b + 1 - M.length) (.lst (gvs c f (t + 1))), _, rfl, by omega, rfl, by rw [List.set_append_right _ _ (by omega)], by rw [List.length_set]; exact l2, ?_, lstOf_set (by omega), ?_⟩
      · rw [lst_set_ne (by omega)]; exact ls2
      · rw [dct_set_ne (by omega)]; exact dc2
  · rw [List.length_append, hb]
    show b + 2 < b + 3
    omega
  · rw [← hb, lstOf_new0]; rfl
  · rw [← hb, lstOf_new]; rfl
  · rw [← hb]
    show dctOf (M ++ [MO.lst [], .lst [], .dct []]) (M.length + 2) = _
    unfold dctOf
    rw [List.getElem?_append_right (by omega), show M.length + 2 - M.length = 2 by omega]
    rfl
/-- those that hand on, from the lead on: how often the first of them -/
theorem src_from {v w : Nat} {fr l : Nat} {δ : DEnv} {M : Mem} {L : List D} (h1 : δ[v]? = some (some (.ref fr))) (h2 : δ[w]? = some (some (.int (l : Nat)))) (hs : seqOf M fr = some L) : dSl (dVar v) (dPart (dVar w)) dNoP δ M = .ok (.ref M.length) (M ++ [.lst (L.drop l)]) := by
  have sl : oSl (.ref fr) (some (l : Int)) none M = some (.ref M.length, M ++ [.lst (L.drop l)]) := by rw [oSl_lst hs, cutD_from]
  simp [h1, h2, sl]
theorem times_of_ok {c : List P3} {f : List Int} {k l m : Nat} {M : Mem} (hl : l ≤ m) (hm : m ≤ 10000000) (hs : seqOf M k = some ((gvs c f m).drop l)) : f_times_of [.ref k, .int 0] M = .ok (.int ((N c f 0 m - N c f 0 l : Nat) : Int)) M := by
  have hz : sizeLine = 16777216 := sizeLine_val
  have hgl : ((gvs c f m).drop l).length ≤ m := by rw [List.length_drop, gvs_len]; omega
  have inner : dLc [2] (dSeqSrc (dVar 0)) (gNm 2) (tV (dBin oIn (dVar 1) (dVar 2))) (dVar 2) [some (.ref k), some (.int 0), none] M = .ok (.ref M.length) (M ++ [.lst ((((gvs c f m).drop l).filter (isI 0)).map fun d => d)]) := by
    rw [dLc_live (n := k) (M1 := M) (l := (gvs c f m).drop l) (isI 0) (fun d => d) (dSeqSrc_lst rfl hs) hs (by omega) fun d hd acc => ?_]
    unfold gvs at hd
    rw [← List.map_drop] at hd
    obtain ⟨u, _, rfl⟩ := List.mem_map.mp hd
    have i0 := fun M => inI_eg 0 (giversL (runL c f u)) M
    exact ⟨_, rfl, by simp [wipeD]; exact congrArg (fun z => (ofV z).bind tvK) (i0 _) |>.trans (by simp), fun _ => by simp [wipeD]⟩
  have ct := gvs_count c f 0 hl (fun d => d)
  have ln : oLen [.ref M.length] (M ++ [.lst ((((gvs c f m).drop l).filter (isI 0)).map fun d => d)]) = some (.int ((N c f 0 m - N c f 0 l : Nat) : Int), M ++ [.lst ((((gvs c f m).drop l).filter (isI 0)).map fun d => d)]) := by
    rw [oLen_lst (seqOf_end rfl), ct]
  unfold f_times_of
  refine fn_of ?_
  unfold d_times_of
  show WP ((sSeq _ _) [some (.ref k), some (.int 0), none] M) _
  rw [e_sSeq, e_sRet, e_dBlt, e_aCons, inner]
  simp only [bind_ok, e_aNil, ln, ofV_some, onV_ok, seqK_rt, wp_rt]
  exact gc_int
theorem round_of_ok {c : List P3} {f : List Int} (hc : okC c) (hf : okF c f) {m l : Nat} (hlm : l < m) (hmb : m ≤ 10000000) (hml : runL c f m = runL c f l) (dis : ∀ a b, a < b → b < m → runL c f a ≠ runL c f b) (M : Mem) :
    f_round_of [ec c, ef f] M = .ok (.tup [.int l, .int ((m : Int) - l), .int ((N c f 0 m - N c f 0 l : Nat) : Int)]) M := by
  have hz : sizeLine = 16777216 := sizeLine_val
  have cf := okCF_of hc hf
  have nc := need_circle_ok hc
  have nf := need_filling_ok hc hf
  obtain ⟨G, sr, fr, e, s1, s2⟩ := walked_ok cf (by have := hc.1.2; omega) hc.h9 hlm hmb hml dis M
  unfold f_round_of
  refine fn_of ?_
  unfold d_round_of
  show WP ((sSeq _ _) [some (ec c), some (ef f), none, none, none, none] M) _
  rw [e_sSeq]
  refine wp_next (s_drop (d := .non) (M1 := M) (by simp [nc])) ?_
  rw [e_sSeq]
  refine wp_next (s_drop (d := .non) (M1 := M) (by simp [nf])) ?_
  rw [e_sSeq]
  refine wp_next (δ := [some (ec c), some (ef f), some (.ref sr), some (.ref fr), some (.int l), some (.int ((m : Int) - l))]) (M := M ++ G) (by simp [e]) ?_
  rw [e_sSeq]
  generalize hX : M ++ G = X at s1 s2
  have sf := src_from (v := 3) (w := 4) (δ := [some (ec c), some (ef f), some (.ref sr), some (.ref fr), some (.int l), some (.int ((m : Int) - l))]) (l := l) rfl rfl s2
  have to := times_of_ok (c := c) (f := f) (M := X ++ [.lst ((gvs c f m).drop l)]) (k := X.length) (Nat.le_of_lt hlm) hmb (seqOf_end rfl)
  have tc : dCall f_times_of 2 (aCons (dSl (dVar 3) (dPart (dVar 4)) dNoP) (aCons (dC (.int 0)) aNil)) [some (ec c), some (ef f), some (.ref sr), some (.ref fr), some (.int l), some (.int ((m : Int) - l))] X = .ok (.int ((N c f 0 m - N c f 0 l : Nat) : Int)) (X ++ [.lst ((gvs c f m).drop l)]) := by
    rw [e_dCall, e_aCons, sf]
    simp [to]
  refine wp_ret (d := .tup [.int l, .int ((m : Int) - l), .int ((N c f 0 m - N c f 0 l : Nat) : Int)]) (M := X ++ [.lst ((gvs c f m).drop l)]) (s_ret (by simp [-e_dCall, tc, hz])) ?_
  rw [wp_rt, ← hX, List.append_assoc]
  exact gc_tup rfl
end Lw
namespace Lw
open PySem Pd Hr
theorem rev_get {c : List P3} {f : List Int} {j i : Nat} {d : D} (h : (sts c f j).reverse[i]? = some d) : i < j ∧ d = es (runL c f (j - 1 - i)) := by
  have hi : i < j := by
    have := (List.getElem?_eq_some_iff.mp h).1
    rwa [List.length_reverse, sts_len] at this
  refine ⟨hi, ?_⟩
  rw [List.getElem?_reverse (by rw [sts_len]; exact hi), sts_len] at h
  unfold sts at h
  rw [List.getElem?_map, List.getElem?_range (by omega)] at h
  exact (Option.some.inj h).symm
theorem drop_get {c : List P3} {f : List Int} {m l i : Nat} {d : D} (h : ((sts c f m).drop l)[i]? = some d) : l + i < m ∧ d = es (runL c f (l + i)) := by
  rw [List.getElem?_drop] at h
  have hi : l + i < m := by
    have := (List.getElem?_eq_some_iff.mp h).1
    rwa [sts_len] at this
  refine ⟨hi, ?_⟩
  unfold sts at h
  rw [List.getElem?_map, List.getElem?_range hi] at h
  exact (Option.some.inj h).symm
theorem take_sts {c : List P3} {f : List Int} {m l : Nat} (h : l ≤ m) : (sts c f m).take l = sts c f l := by
  unfold sts
  rw [← List.map_take, List.take_range, Nat.min_eq_left h]
/-- the store: the leads are changed, things are new -/
def Wr (M : Mem) (r : Nat) (kv : List (D × D)) (M' : Mem) : Prop := ∃ X, M' = M.set r (.dct kv) ++ X
theorem Wr.dct {M M' : Mem} {r : Nat} {kv : List (D × D)} (h : Wr M r kv M') (hr : r < M.length) : dctOf M' r = some kv := by
  obtain ⟨X, rfl⟩ := h
  exact dctOf_app _ (dct_set hr)
theorem Wr.set {M M' : Mem} {r : Nat} {kv kv' : List (D × D)} (h : Wr M r kv M') (hr : r < M.length) : Wr M r kv' (M'.set r (.dct kv')) := by
  obtain ⟨X, rfl⟩ := h
  exact ⟨X, by rw [List.set_append_left _ _ (by rw [List.length_set]; exact hr), List.set_set]⟩
theorem Wr.app {M M' : Mem} {r : Nat} {kv : List (D × D)} (h : Wr M r kv M') (X : Mem) : Wr M r kv (M' ++ X) := by
  obtain ⟨Y, rfl⟩ := h
  exact ⟨Y ++ X, List.append_assoc _ _ _⟩
theorem Wr.len {M M' : Mem} {r : Nat} {kv : List (D × D)} (h : Wr M r kv M') : M.length ≤ M'.length := by
  obtain ⟨X, rfl⟩ := h
  rw [List.length_append, List.length_set]
  omega
theorem Wr.of {M X : Mem} {r : Nat} {kv : List (D × D)} (h : dctOf M r = some kv) : Wr M r kv (M ++ X) := by
  refine ⟨X, ?_⟩
  have : M[r]? = some (.dct kv) := by
    unfold dctOf at h
    split at h
    · rename_i e; cases h; exact e
    · cases h
  obtain ⟨hs, e⟩ := List.getElem?_eq_some_iff.mp this
  rw [← e, List.set_getElem_self hs]
noncomputable def tailDS : DS := (sSeq (sFor (dSeqSrc (dBin oRv (dVar 3) (dUn oNeg (dC (.int 1))))) (gNm 6) (sSeq (sAsg (dBin oAdd (dVar 5) (dC (.int 1))) (gNm 5)) (sSeq (sAsg (dVar 5) (gSb (dVar 2) (dVar 6))) (sNil)))) (sSeq (sRet (dVar 5)) (sNil)))
theorem tail_ok {c : List P3} {f : List Int} {M M' : Mem} {r p j n : Nat} {kv0 : List (D × D)} {a0 a1 a4 a6 : Option D} (hr : r < M.length) (wr : Wr M r kv0 M') (hp : seqOf M' p = some (sts c f j)) (ld : ∀ u, u ≤ j → Ld c (runL c f u) (n + (j - u)))
    (ent : Ent c kv0) (hlen : kv0.length + j < 16777216) :
    ∃ kv M2, tailDS [a0, a1, some (.ref r), some (.ref p), a4, some (.int n), a6] M' = .rt (.int ((n + j : Nat) : Int)) M2 ∧ Wr M r kv M2 ∧ Ent c kv ∧ (∀ s, Has kv s ↔ Has kv0 s ∨ ∃ u, u < j ∧ s = runL c f u) ∧ kv.length ≤ kv0.length + j := by
  have hpl := seqOf_lt hp
  refine wp_to (r := tailDS [a0, a1, some (.ref r), some (.ref p), a4, some (.int n), a6] M') (Q := fun z => ∃ kv M2, z = .rt (.int ((n + j : Nat) : Int)) M2 ∧ Wr M r kv M2 ∧ Ent c kv ∧ (∀ s, Has kv s ↔ Has kv0 s ∨ ∃ u, u < j ∧ s = runL c f u) ∧ kv.length ≤ kv0.length + j) ?_
  unfold tailDS
  rw [e_sSeq]
  have rv : oRv (.ref p) (.int (-1)) M' = some (.ref M'.length, M' ++ [.lst (sts c f j).reverse]) := by rw [oRv_ref, hp]; rfl
  have src : dSeqSrc (dBin oRv (dVar 3) (dUn oNeg (dC (.int 1)))) [a0, a1, some (.ref r), some (.ref p), a4, some (.int n), a6] M' = .ok (.live M'.length) (M' ++ [.lst (sts c f j).reverse]) := dSeqSrc_lst (by simp [rv]) (seqOf_end rfl)
  have rl : r < M'.length := Nat.lt_of_lt_of_le hr wr.len
  obtain ⟨q, hq⟩ : ∃ q, M'.length = q := ⟨_, rfl⟩
  rw [hq] at src rl
  refine wp_live q (sts c f j).reverse (fun i δ M2 => (∃ x6, δ = [a0, a1, some (.ref r), some (.ref p), a4, some (.int ((n + i : Nat) : Int)), x6]) ∧ seqOf M2 q = some (sts c f j).reverse ∧ ∃ kv, Wr M r kv M2 ∧ Ent c kv ∧ (∀ s, Has kv s ↔ Has kv0 s ∨ ∃ u, j - i ≤ u ∧ u < j ∧ s = runL c f u) ∧ kv.length ≤ kv0.length + i) (fun _ _ _ h => h.2.1) ⟨_, src, ⟨_, rfl⟩, seqOf_end hq.symm, kv0, wr.app _, ent, fun s => ?_, Nat.le_refl _⟩ ?_ ?_
  · constructor
    · exact .inl
    · rintro (h | ⟨u, h1, h2, _⟩)
      · exact h
      · omega
  · rintro i d hd δ M2 ⟨⟨x6, rfl⟩, sq, kv, wk, ek, hk, lk⟩
    obtain ⟨hi, rfl⟩ := rev_get hd
    have dc := wk.dct hr
    have l1 := ld (j - 1 - i) (by omega)
    rw [show n + (j - (j - 1 - i)) = n + (i + 1) by omega] at l1
    have gs := gSb_dct (f := dVar 2) (i := dVar 6) (δ := [a0, a1, some (.ref r), some (.ref p), a4, some (.int ((n + (i + 1) : Nat) : Int)), some (es (runL c f (j - 1 - i)))]) (M := M2) (s := runL c f (j - 1 - i)) (d := .int ((n + (i + 1) : Nat) : Int)) rfl rfl dc (by omega)
    simp only [onG_some, e_gNm, List.set, e_sSeq]
    refine wp_next (δ := [a0, a1, some (.ref r), some (.ref p), a4, some (.int ((n + (i + 1) : Nat) : Int)), some (es (runL c f (j - 1 - i)))]) (M := M2) (by simp; omega) ?_
    refine wp_next (δ := [a0, a1, some (.ref r), some (.ref p), a4, some (.int ((n + (i + 1) : Nat) : Int)), some (es (runL c f (j - 1 - i)))]) (M := M2.set r (.dct (putD kv (es (runL c f (j - 1 - i))) (.int ((n + (i + 1) : Nat) : Int)) (keyS (runL c f (j - 1 - i)))))) (by rw [e_sAsg, e_dVar]; simp only [List.getElem?_cons_succ, List.getElem?_cons_zero, varK_some, onV_ok, gs, onG_some]) ?_
    rw [e_sNil, step_nx]
    refine ⟨⟨_, rfl⟩, by rw [seqOf_set_ne (by omega)]; exact sq, _, wk.set hr, ek.put l1, fun s => ?_, Nat.le_trans put_len (by omega)⟩
    rw [has_put, hk]
    constructor
    · rintro ((h | ⟨u, h1, h2, h3⟩) | h)
      · exact .inl h
      · exact .inr ⟨u, by omega, h2, h3⟩
      · exact .inr ⟨j - 1 - i, by omega, by omega, h⟩
    · rintro (h | ⟨u, h1, h2, h3⟩)
      · exact .inl (.inl h)
      · by_cases g : u = j - 1 - i
        · subst g; exact .inr h3
        · exact .inl (.inr ⟨u, by omega, h2, h3⟩)
  · rintro δ M2 ⟨⟨x6, rfl⟩, sq, kv, wk, ek, hk, lk⟩
    rw [List.length_reverse, sts_len] at hk lk ⊢
    rw [e_sSeq]
    refine wp_ret (d := .int ((n + j : Nat) : Int)) (M := M2) (s_ret (by simp)) ?_
    refine wp_of ⟨kv, M2, rfl, wk, ek, fun s => ?_, lk⟩
    rw [hk]
    constructor
    · rintro (h | ⟨u, h1, h2, h3⟩)
      · exact .inl h
      · exact .inr ⟨u, h2, h3⟩
    · rintro (h | ⟨u, h2, h3⟩)
      · exact .inl h
      · exact .inr ⟨u, by omega, h2, h3⟩
/-- a dict of leads: with a standing it holds the next one -/
structure Lk (c : List P3) (kv : List (D × D)) : Prop where
  ent : Ent c kv
  cl : ∀ s, Has kv s → Has kv (stepL c s)
noncomputable def zeroDS : DS := (sSeq (sFor (dSeqSrc (dSl (dVar 3) (dPart (dBin oIx (dVar 4) (dVar 1))) dNoP)) (gNm 6) (sSeq (sAsg (dC (.int 0)) (gSb (dVar 2) (dVar 6))) (sNil))) (sSeq (sAsg (dSl (dVar 3) dNoP (dPart (dBin oIx (dVar 4) (dVar 1)))) (gNm 3)) (sNil)))
theorem zero_ok {c : List P3} {f : List Int} {M M' : Mem} {r p k m l : Nat} {kvs : List (D × D)} {x0 x5 x6 : Option D} (hr : r < M.length) (hlm : l < m) (hml : runL c f m = runL c f l) (dis : ∀ a b, a < b → b < m → runL c f a ≠ runL c f b)
    (wr : Wr M r kvs M') (hp : lstOf M' p = some (sts c f m)) (hpr : p ≠ r) (hk : dctOf M' k = some (met c f m)) (hkr : k ≠ r) (ent : Ent c kvs) (hlen : kvs.length + m < 16777216) :
    ∃ kv M2 x6' p', zeroDS [x0, some (es (runL c f m)), some (.ref r), some (.ref p), some (.ref k), x5, x6] M' = .nx [x0, some (es (runL c f m)), some (.ref r), some (.ref p'), some (.ref k), x5, x6'] M2 ∧ seqOf M2 p' = some (sts c f l) ∧ Wr M r kv M2 ∧ Ent c kv ∧ (∀ s, Has kv s ↔ Has kvs s ∨ ∃ u, l ≤ u ∧ u < m ∧ s = runL c f u) ∧ kv.length ≤ kvs.length + (m - l) := by
  refine wp_to (r := zeroDS [x0, some (es (runL c f m)), some (.ref r), some (.ref p), some (.ref k), x5, x6] M') (Q := fun z => ∃ kv M2 x6' p', z = .nx [x0, some (es (runL c f m)), some (.ref r), some (.ref p'), some (.ref k), x5, x6'] M2 ∧ seqOf M2 p' = some (sts c f l) ∧ Wr M r kv M2 ∧ Ent c kv ∧ (∀ s, Has kv s ↔ Has kvs s ∨ ∃ u, l ≤ u ∧ u < m ∧ s = runL c f u) ∧ kv.length ≤ kvs.length + (m - l)) ?_
  unfold zeroDS
  rw [e_sSeq]
  have vs := met_some (c := c) (f := f) (l := l) hml.symm (fun u hu => dis u l hu hlm |> fun z => by rw [hml]; exact z) hlm
  have ix := oIx_dct hk (runL c f m) vs
  have hp' := seq_of_lst hp
  have sl : oSl (.ref p) (some (l : Int)) none M' = some (.ref M'.length, M' ++ [.lst ((sts c f m).drop l)]) := by rw [oSl_lst hp', cutD_from]
  have src : dSeqSrc (dSl (dVar 3) (dPart (dBin oIx (dVar 4) (dVar 1))) dNoP) [x0, some (es (runL c f m)), some (.ref r), some (.ref p), some (.ref k), x5, x6] M' = .ok (.live M'.length) (M' ++ [.lst ((sts c f m).drop l)]) := dSeqSrc_lst (by simp [ix, sl]) (seqOf_end rfl)
  have rl : r < M'.length := Nat.lt_of_lt_of_le hr wr.len
  have pl := lstOf_lt hp
  have kl := dctOf_lt hk
  obtain ⟨q, hq⟩ : ∃ q, M'.length = q := ⟨_, rfl⟩
  rw [hq] at src rl
  have lz : ((sts c f m).drop l).length = m - l := by rw [List.length_drop, sts_len]
  refine wp_live q ((sts c f m).drop l) (fun i δ M2 => (∃ x6, δ = [x0, some (es (runL c f m)), some (.ref r), some (.ref p), some (.ref k), x5, x6]) ∧ seqOf M2 q = some ((sts c f m).drop l) ∧ lstOf M2 p = some (sts c f m) ∧ dctOf M2 k = some (met c f m) ∧ ∃ kv, Wr M r kv M2 ∧ Ent c kv ∧ (∀ s, Has kv s ↔ Has kvs s ∨ ∃ u, l ≤ u ∧ u < l + i ∧ s = runL c f u) ∧ kv.length ≤ kvs.length + i) (fun _ _ _ h => h.2.1)
    ⟨_, src, ⟨_, rfl⟩, seqOf_end hq.symm, lstOf_app _ hp, dctOf_app _ hk, kvs, wr.app _, ent, fun s => ?_, Nat.le_refl _⟩ ?_ ?_
  · constructor
    · exact .inl
    · rintro (h | ⟨u, h1, h2, _⟩)
      · exact h
      · omega
  · rintro i d hd δ M2 ⟨⟨x6, rfl⟩, sq, lp, dk, kv, wk, ek, hkk, lk⟩
    obtain ⟨hi, rfl⟩ := drop_get hd
    have dc := wk.dct hr
    have l1 : Ld c (runL c f (l + i)) 0 := by
      have := ld_run (u := l + i) hlm hml dis
      rwa [show l - (l + i) = 0 by omega] at this
    have gs := gSb_dct (f := dVar 2) (i := dVar 6) (δ := [x0, some (es (runL c f m)), some (.ref r), some (.ref p), some (.ref k), x5, some (es (runL c f (l + i)))]) (M := M2) (s := runL c f (l + i)) (d := .int ((0 : Nat) : Int)) rfl rfl dc (by omega)
    simp only [onG_some, e_gNm, List.set, e_sSeq]
    refine wp_next (δ := [x0, some (es (runL c f m)), some (.ref r), some (.ref p), some (.ref k), x5, some (es (runL c f (l + i)))]) (M := M2.set r (.dct (putD kv (es (runL c f (l + i))) (.int ((0 : Nat) : Int)) (keyS (runL c f (l + i)))))) (by
      rw [e_sAsg, e_dC, onV_ok]
      show onG (gSb (dVar 2) (dVar 6) (.int ((0 : Nat) : Int)) _ _) _ = _
      rw [gs]; rfl) ?_
    rw [e_sNil, step_nx]
    refine ⟨⟨_, rfl⟩, by rw [seqOf_set_ne (by omega)]; exact sq, by rw [lst_set_ne hpr]; exact lp, by rw [dct_set_ne hkr]; exact dk, _, wk.set hr, ek.put l1, fun s => ?_, Nat.le_trans put_len (by omega)⟩
    rw [has_put, hkk]
    constructor
    · rintro ((h | ⟨u, h1, h2, h3⟩) | h)
      · exact .inl h
      · exact .inr ⟨u, h1, by omega, h3⟩
      · exact .inr ⟨l + i, by omega, by omega, h⟩
    · rintro (h | ⟨u, h1, h2, h3⟩)
      · exact .inl (.inl h)
      · by_cases g : u = l + i
        · subst g; exact .inr h3
        · exact .inl (.inr ⟨u, h1, by omega, h3⟩)
  · rintro δ M2 ⟨⟨x6, rfl⟩, sq, lp, dk, kv, wk, ek, hkk, lk⟩
    rw [lz] at hkk lk
    have ix2 := oIx_dct dk (runL c f m) vs
    have sl2 : oSl (.ref p) none (some (l : Int)) M2 = some (.ref M2.length, M2 ++ [.lst (sts c f l)]) := by rw [oSl_lst (seq_of_lst lp), cutD_to, take_sts (Nat.le_of_lt hlm)]
    rw [e_sSeq]
    refine wp_next (δ := [x0, some (es (runL c f m)), some (.ref r), some (.ref M2.length), some (.ref k), x5, x6]) (M := M2 ++ [.lst (sts c f l)]) (by simp [ix2, sl2]) ?_
    rw [e_sNil]
    refine wp_of ⟨kv, _, x6, M2.length, rfl, seqOf_end rfl, wk.app _, ek, fun s => ?_, lk⟩
    rw [hkk]
    constructor
    · rintro (h | ⟨u, h1, h2, h3⟩)
      · exact .inl h
      · exact .inr ⟨u, h1, by omega, h3⟩
    · rintro (h | ⟨u, h1, h2, h3⟩)
      · exact .inl h
      · exact .inr ⟨u, h1, by omega, h3⟩
theorem lead_from_ok {c : List P3} {f : List Int} (h : OkCF c f) (hc : c.length ≤ 1000) (hw : ∀ i, i < c.length → (who c i).1 ≤ 9 ∧ (who c i).2.1 ≤ 9 ∧ (who c i).2.2 ≤ 3) {m l : Nat} (hlm : l < m) (hml : runL c f m = runL c f l)
    (dis : ∀ a b, a < b → b < m → runL c f a ≠ runL c f b) {M : Mem} {r : Nat} {kvs : List (D × D)} (hd : dctOf M r = some kvs) (lk : Lk c kvs) (hlen : kvs.length + m < 16777216) :
    ∃ kv, f_lead_from [ec c, es (runL c f 0), .ref r] M = .ok (.int l) (M.set r (.dct kv)) ∧ Lk c kv ∧ kv.length ≤ kvs.length + m := by
  have hz : sizeLine = 16777216 := sizeLine_val
  have n0 := h.n0
  have hr := dctOf_lt hd
  have key : WP (d_lead_from [some (ec c), some (es (runL c f 0)), some (.ref r), none, none, none, none] M) (fun z => ∃ kv M2, z = .rt (.int l) M2 ∧ Wr M r kv M2 ∧ Lk c kv ∧ kv.length ≤ kvs.length + m) := by
    unfold d_lead_from
    rw [e_sSeq]
    have dd : ∀ δ M, dDct δ M = .ok (.ref M.length) (M ++ [.dct []]) := fun _ _ => rfl
    refine wp_next (δ := [some (ec c), some (es (runL c f 0)), some (.ref r), some (.ref M.length), some (.ref (M.length + 1)), none, none]) (M := M ++ [.lst [], .dct []]) (by simp [dd, hz]) ?_
    obtain ⟨b, hb⟩ : ∃ b, M.length = b := ⟨_, rfl⟩
    rw [hb, e_sSeq]
    refine wp_while (fun j δ M' => ∃ t X, j = m - t ∧ t ≤ m ∧ δ = [some (ec c), some (es (runL c f t)), some (.ref r), some (.ref b), some (.ref (b + 1)), none, none] ∧ M' = M ++ X ∧ b + 1 < M'.length ∧ lstOf M' b = some (sts c f t) ∧ dctOf M' (b + 1) = some (met c f t) ∧ ∀ u, u < t → ¬ Has kvs (runL c f u)) ?_ (m - 0) _ _ ⟨0, _, rfl, Nat.zero_le _, rfl, rfl, ?_, ?_, ?_, fun u hu => by omega⟩
    · rintro j δ _ ⟨t, X, rfl, htm, rfl, rfl, hlt, ls, dc, no⟩
      have oin := oIn_dct dc (runL c f t)
      have dr : dctOf (M ++ X) r = some kvs := dctOf_app X hd
      have wr : Wr M r kvs (M ++ X) := Wr.of hd
      have oin2 := oIn_dct dr (runL c f t)
      have ge := oGet_dct dr (runL c f t) (.int 0)
      have ib := inB_dct dc (runL c f t)
      have isd := isDct_ref dr
      generalize hM' : M ++ X = M' at *
      by_cases q : t = m
      · -- a standing of the line again
        subst q
        have vs := met_some (c := c) (f := f) (l := l) hml.symm (fun u hu => dis u l hu hlm |> fun z => by rw [hml]; exact z) hlm
        rw [vs] at oin ib
        have nh : ¬ Has kvs (runL c f t) := by rw [hml]; exact no l hlm
        rw [has_none nh] at ge
        refine ⟨false, M', by simp [oin], ?_⟩
        rw [if_neg Bool.false_ne_true, e_sSeq]
        refine wp_next (s_asg (d := .int 0) (M1 := M') (by rw [e_dMt]; simp [isd, ge])) ?_
        simp only [List.set, e_sSeq]
        obtain ⟨kv1, M2, x6, p', ez, z1, z2, z3, z4, z5⟩ := zero_ok (x0 := some (ec c)) (x5 := some (.int 0)) (x6 := none) (p := b) (k := b + 1) hr hlm hml dis wr ls (by omega) dc (by omega) lk.ent hlen
        rw [s_if (t := true) (M1 := M') (by simp [ib]), if_pos rfl]
        refine wp_next (show zeroDS _ _ = _ from ez) ?_
        obtain ⟨kv, M3, et, t1, t2, t3, t4⟩ := tail_ok (a0 := some (ec c)) (a1 := some (es (runL c f t))) (a4 := some (.ref (b + 1))) (a6 := x6) (n := 0) hr z2 z1 (fun u hu => by rw [Nat.zero_add]; exact ld_run hlm hml dis) z3 (by omega)
        show WP (tailDS _ _) _
        rw [show (0 : Int) = ((0 : Nat) : Int) from rfl, et]
        refine wp_of ⟨kv, M3, by rw [Nat.zero_add], t1, ⟨t2, fun s hs => ?_⟩, by omega⟩
        rw [t3, z4] at hs ⊢
        rcases hs with (hs | ⟨u, h1, h2, rfl⟩) | ⟨u, h1, rfl⟩
        · exact .inl (.inl (lk.cl s hs))
        · by_cases g : u + 1 = t
          · refine .inl (.inr ⟨l, Nat.le_refl _, hlm, ?_⟩)
            show runL c f (u + 1) = _
            rw [g, hml]
          · exact .inl (.inr ⟨u + 1, by omega, by omega, rfl⟩)
        · by_cases g : u + 1 = l
          · refine .inl (.inr ⟨l, Nat.le_refl _, hlm, ?_⟩)
            show runL c f (u + 1) = _
            rw [g]
          · exact .inr ⟨u + 1, by omega, rfl⟩
      · have fresh : ∀ u, u < t → runL c f u ≠ runL c f t := fun u hu => dis u t hu (by omega)
        rw [met_none fresh] at oin ib
        by_cases hh : Has kvs (runL c f t)
        · -- its lead is known
          obtain ⟨n, ev, ln⟩ := lk.ent.val hh
          rw [ev] at oin2 ge
          refine ⟨false, M', by simp [oin, oin2], ?_⟩
          rw [if_neg Bool.false_ne_true, e_sSeq]
          refine wp_next (s_asg (d := .int n) (M1 := M') (by rw [e_dMt]; simp [isd, ge])) ?_
          simp only [List.set, e_sSeq]
          rw [s_if (t := false) (M1 := M') (by simp [ib]), if_neg Bool.false_ne_true, e_sNil, seqK_nx]
          have np := not_per lk.cl hh no
          have tl : t ≤ l := by
            by_cases g : t ≤ l
            · exact g
            · exact absurd (per_after hlm hml (Nat.le_refl l)) (np l (by omega))
          have en : n = l - t := ln.uniq (ld_run hlm hml dis)
          obtain ⟨kv, M3, et, t1, t2, t3, t4⟩ := tail_ok (a0 := some (ec c)) (a1 := some (es (runL c f t))) (a4 := some (.ref (b + 1))) (a6 := none) (n := n) hr wr (seq_of_lst ls) (fun u hu => ld_back ln np hu) lk.ent (by omega)
          show WP (tailDS _ _) _
          rw [et]
          refine wp_of ⟨kv, M3, by rw [show n + t = l by omega], t1, ⟨t2, fun s hs => ?_⟩, by omega⟩
          rw [t3] at hs ⊢
          rcases hs with hs | ⟨u, h1, rfl⟩
          · exact .inl (lk.cl s hs)
          · by_cases g : u + 1 = t
            · left
              show Has kvs (runL c f (u + 1))
              rw [g]
              exact hh
            · exact .inr ⟨u + 1, by omega, rfl⟩
        · rw [has_none hh] at oin2
          refine ⟨true, M', by simp [oin, oin2], ?_⟩
          rw [if_pos rfl, e_sSeq]
          have le := oLen_lst (seq_of_lst ls)
          rw [sts_len] at le
          have gs := gSb_dct (f := dVar 4) (i := dVar 1) (δ := [some (ec c), some (es (runL c f t)), some (.ref r), some (.ref b), some (.ref (b + 1)), none, none]) (M := M') (s := runL c f t) (d := .int (t : Nat)) rfl rfl dc (by rw [met_len]; omega)
          rw [met_put fresh] at gs
          have ls1 : lstOf (M'.set (b + 1) (.dct (met c f (t + 1)))) b = some (sts c f t) := by rw [lst_set_ne (by omega)]; exact ls
          have dc1 : dctOf (M'.set (b + 1) (.dct (met c f (t + 1)))) (b + 1) = some (met c f (t + 1)) := dct_set hlt
          have p1 : ∃ X, M'.set (b + 1) (.dct (met c f (t + 1))) = M ++ X := ⟨X.set (b + 1 - M.length) (.dct (met c f (t + 1))), by rw [← hM', List.set_append_right _ _ (by omega)]⟩
          have l1 : b + 1 < (M'.set (b + 1) (.dct (met c f (t + 1)))).length := by rw [List.length_set]; exact hlt
          refine wp_next (δ := [some (ec c), some (es (runL c f t)), some (.ref r), some (.ref b), some (.ref (b + 1)), none, none]) (M := M'.set (b + 1) (.dct (met c f (t + 1)))) (by rw [e_sAsg]; simp [gs, le]) ?_
          generalize M'.set (b + 1) (.dct (met c f (t + 1))) = M1 at ls1 dc1 p1 l1
          rw [e_sSeq]
          have is1 : isLst (.ref b) M1 = true := by rw [isLst_ref, seq_of_lst ls1]; rfl
          have ap1 : oApp (.ref b) [es (runL c f t)] M1 = some (.non, M1.set b (.lst (sts c f (t + 1)))) := by
            rw [oApp_ref, ls1, Option.bind_some, if_pos (by rw [sts_len, hz]; omega), sts_succ]
          refine wp_next (s_drop (d := .non) (M1 := M1.set b (.lst (sts c f (t + 1)))) (by rw [e_dMt]; simp [is1, ap1])) ?_
          have ls2 : lstOf (M1.set b (.lst (sts c f (t + 1)))) b = some (sts c f (t + 1)) := lstOf_set (by omega)
          have dc2 : dctOf (M1.set b (.lst (sts c f (t + 1)))) (b + 1) = some (met c f (t + 1)) := by rw [dct_set_ne (by omega)]; exact dc1
          have l2 : b + 1 < (M1.set b (.lst (sts c f (t + 1)))).length := by rw [List.length_set]; exact l1
          obtain ⟨X, rfl⟩ := p1
          rw [List.set_append_right _ _ (by omega)] at ls2 dc2 l2 ⊢
          rw [e_sSeq]
          have st := fun M => stepped_ok (c := c) (s := runL c f t) n0 hc (len_run t) (run_small h hw t) M
          refine wp_next (s_asg (d := es (runL c f (t + 1))) (M1 := M ++ X.set (b - M.length) (.lst (sts c f (t + 1)))) (by simp [st]; rfl)) ?_
          simp only [List.set]
          rw [e_sNil, step_nx]
          refine ⟨m - (t + 1), by omega, t + 1, _, rfl, by omega, rfl, rfl, l2, ls2, dc2, fun u hu => ?_⟩
          by_cases g : u = t
          · subst g; exact hh
          · exact no u (by omega)
    · rw [List.length_append, hb]
      show b + 1 < b + 2
      omega
    · rw [← hb, lstOf_new0]; rfl
    · rw [← hb]
      show dctOf (M ++ [MO.lst [], .dct []]) (M.length + 1) = _
      unfold dctOf
      rw [List.getElem?_append_right (by omega), show M.length + 1 - M.length = 1 by omega]
      rfl
  obtain ⟨kv, M2, e, ⟨X, rfl⟩, lk', hl⟩ := wp_to key
  refine ⟨kv, ?_, lk', hl⟩
  unfold f_lead_from fnOf
  show gcR M (toR (d_lead_from [some (ec c), some (es (runL c f 0)), some (.ref r), none, none, none, none] M)) = _
  rw [e, toR_rt]
  exact gc_set (below_kv lk'.ent _) rfl
end Lw
namespace Lw
open PySem Pd Hr
/-! ### all fillings -/
def exts (F : List (List Int)) (h : Nat) : List (List Int) := F.flatMap fun f => (List.range (h + 1)).map fun k : Nat => f ++ [(k : Int)]
def allF : List P3 → List (List Int) → List (List Int)
  | [], F => F
  | p :: c, F => allF c (exts F p.2.2.toNat)
def GoodL : List P3 → List Int → Prop
  | [], f => f = []
  | p :: c, f => ∃ x r, f = x :: r ∧ 0 ≤ x ∧ x ≤ p.2.2 ∧ GoodL c r
theorem mem_exts {F : List (List Int)} {h : Nat} {f : List Int} : f ∈ exts F h ↔ ∃ g ∈ F, ∃ k : Nat, k ≤ h ∧ f = g ++ [(k : Int)] := by
  unfold exts
  rw [List.mem_flatMap]
  constructor
  · rintro ⟨g, hg, hf⟩
    obtain ⟨k, hk, rfl⟩ := List.mem_map.mp hf
    exact ⟨g, hg, k, by have := List.mem_range.mp hk; omega, rfl⟩
  · rintro ⟨g, hg, k, hk, rfl⟩
    exact ⟨g, hg, List.mem_map.mpr ⟨k, List.mem_range.mpr (by omega), rfl⟩⟩
theorem mem_allF : ∀ {c : List P3} (h : ∀ p ∈ c, 0 ≤ p.2.2) {F : List (List Int)} {f : List Int}, f ∈ allF c F ↔ ∃ g ∈ F, ∃ t, GoodL c t ∧ f = g ++ t
  | [], _, F, f => by
    constructor
    · intro hf
      exact ⟨f, hf, [], rfl, (List.append_nil f).symm⟩
    · rintro ⟨g, hg, t, ht, rfl⟩
      have : t = [] := ht
      subst this
      rw [List.append_nil]
      exact hg
  | p :: c, h, F, f => by
    show f ∈ allF c (exts F p.2.2.toNat) ↔ _
    rw [mem_allF fun q hq => h q (List.mem_cons_of_mem _ hq)]
    have hp := h p List.mem_cons_self
    constructor
    · rintro ⟨g, hg, t, ht, rfl⟩
      obtain ⟨g', hg', k, hk, rfl⟩ := mem_exts.mp hg
      exact ⟨g', hg', (k : Int) :: t, ⟨_, _, rfl, by omega, by omega, ht⟩, by simp⟩
    · rintro ⟨g, hg, t, ⟨x, r, rfl, x0, x1, hr⟩, rfl⟩
      refine ⟨g ++ [x], mem_exts.mpr ⟨g, hg, x.toNat, by omega, by rw [show ((x.toNat : Nat) : Int) = x by omega]⟩, r, hr, by simp⟩
theorem GoodL.okF : ∀ {c : List P3} {f : List Int}, GoodL c f → okF c f
  | [], f, h => by
    have : f = [] := h
    subst this
    exact ⟨rfl, fun i hi => nomatch hi⟩
  | p :: c, f, h => by
    obtain ⟨x, r, rfl, x0, x1, hr⟩ := h
    obtain ⟨h1, h2⟩ := GoodL.okF hr
    refine ⟨by rw [List.length_cons, List.length_cons, h1], fun i hi => ?_⟩
    cases i with
    | zero => exact ⟨x0, x1⟩
    | succ i =>
      have hi' : i < c.length := by rw [List.length_cons] at hi; omega
      have w : who (p :: c) (i + 1) = who c i := rfl
      have g : (x :: r).getD (i + 1) 0 = r.getD i 0 := rfl
      rw [w, g]
      exact h2 i hi'
theorem hands_cons (p : P3) (c : List P3) : handsI (p :: c) = p.2.2 + handsI c := rfl
theorem GoodL.sum_le : ∀ {c : List P3} {f : List Int}, GoodL c f → 0 ≤ f.sum ∧ f.sum ≤ handsI c
  | [], f, h => by
    have : f = [] := h
    subst this
    exact ⟨Int.le_refl _, Int.le_refl _⟩
  | p :: c, f, h => by
    obtain ⟨x, r, rfl, x0, x1, hr⟩ := h
    obtain ⟨a, b⟩ := GoodL.sum_le hr
    rw [hands_cons, List.sum_cons]
    omega
theorem good_ex : ∀ {c : List P3} (h : ∀ p ∈ c, 0 ≤ p.2.2) {b : Int}, 0 ≤ b → b ≤ handsI c → ∃ t, GoodL c t ∧ t.sum = b
  | [], _, b, h0, h1 => by
    have : handsI [] = 0 := rfl
    exact ⟨[], rfl, by show (0 : Int) = b; omega⟩
  | p :: c, h, b, h0, h1 => by
    rw [hands_cons] at h1
    have hp := h p List.mem_cons_self
    have hc : 0 ≤ handsI c := by
      have : ∀ c : List P3, (∀ p ∈ c, 0 ≤ p.2.2) → 0 ≤ handsI c := by
        intro c
        induction c with
        | nil => intro _; exact Int.le_refl _
        | cons q c ih =>
          intro hq
          rw [hands_cons]
          have := ih fun z hz => hq z (List.mem_cons_of_mem _ hz)
          have := hq q List.mem_cons_self
          omega
      exact this c fun q hq => h q (List.mem_cons_of_mem _ hq)
    by_cases g : b ≤ p.2.2
    · obtain ⟨t, ht, e⟩ := good_ex (fun q hq => h q (List.mem_cons_of_mem _ hq)) (b := 0) (Int.le_refl _) hc
      exact ⟨b :: t, ⟨_, _, rfl, h0, g, ht⟩, by rw [List.sum_cons, e]; omega⟩
    · obtain ⟨t, ht, e⟩ := good_ex (fun q hq => h q (List.mem_cons_of_mem _ hq)) (b := b - p.2.2) (by omega) (by omega)
      exact ⟨p.2.2 :: t, ⟨_, _, rfl, hp, Int.le_refl _, ht⟩, by rw [List.sum_cons, e]; omega⟩
theorem exts_len {F : List (List Int)} {h : Nat} : (exts F h).length = F.length * (h + 1) := by
  unfold exts
  induction F with
  | nil => simp
  | cons f F ih =>
    rw [List.flatMap_cons, List.length_append, ih, List.length_map, List.length_range, List.length_cons, Nat.succ_mul]
    omega
theorem exts_succ {F : List (List Int)} {h j : Nat} {f : List Int} (e : F[j]? = some f) : exts (F.take (j + 1)) h = exts (F.take j) h ++ (List.range (h + 1)).map fun k : Nat => f ++ [(k : Int)] := by
  obtain ⟨hj, e'⟩ := List.getElem?_eq_some_iff.mp e
  rw [List.take_succ_eq_append_getElem hj, e']
  unfold exts
  rw [List.flatMap_append]
  simp
theorem allF_snoc : ∀ (c : List P3) (p : P3) (F : List (List Int)), allF (c ++ [p]) F = exts (allF c F) p.2.2.toNat
  | [], p, F => rfl
  | q :: c, p, F => allF_snoc c p (exts F q.2.2.toNat)
theorem allF_take {c : List P3} {i : Nat} {p : P3} {F : List (List Int)} (e : c[i]? = some p) : allF (c.take (i + 1)) F = exts (allF (c.take i) F) p.2.2.toNat := by
  obtain ⟨hi, e'⟩ := List.getElem?_eq_some_iff.mp e
  rw [List.take_succ_eq_append_getElem hi, e', allF_snoc]
/-- hands at most two, people at most three -/
structure Sml (c : List P3) : Prop where
  n3 : c.length ≤ 3
  h2 : ∀ p ∈ c, 1 ≤ p.2.2 ∧ p.2.2 ≤ 2
theorem Sml.nn {c : List P3} (h : Sml c) : ∀ p ∈ c, 0 ≤ p.2.2 := fun p hp => by have := h.h2 p hp; omega
theorem allF_len {c : List P3} (h : ∀ p ∈ c, 1 ≤ p.2.2 ∧ p.2.2 ≤ 2) : ∀ i, i ≤ c.length → (allF (c.take i) [[]]).length ≤ 3 ^ i
  | 0, _ => by simp [allF]
  | i + 1, hi => by
    have ih := allF_len h i (by omega)
    have e : c[i]? = some c[i] := List.getElem?_eq_getElem (by omega)
    rw [allF_take e, exts_len]
    have := h c[i] (List.getElem_mem _)
    have l : c[i].2.2.toNat + 1 ≤ 3 := by omega
    calc (allF (c.take i) [[]]).length * (c[i].2.2.toNat + 1) ≤ 3 ^ i * 3 := Nat.mul_le_mul ih l
      _ = 3 ^ (i + 1) := (Nat.pow_succ 3 i).symm
theorem Sml.len {c : List P3} (h : Sml c) {i : Nat} (hi : i ≤ c.length) : (allF (c.take i) [[]]).length ≤ 27 := by
  have a := allF_len h.h2 i hi
  have b : 3 ^ i ≤ 3 ^ 3 := Nat.pow_le_pow_right (by decide) (by have := h.n3; omega)
  omega
def fills (c : List P3) (b : Int) : List (List Int) := (allF c [[]]).filter fun f => decide (f.sum = b)
theorem mem_fills {c : List P3} (h : ∀ p ∈ c, 0 ≤ p.2.2) {b : Int} {f : List Int} (hf : f ∈ fills c b) : GoodL c f ∧ f.sum = b := by
  obtain ⟨h1, h2⟩ := List.mem_filter.mp hf
  obtain ⟨g, hg, t, ht, rfl⟩ := (mem_allF h).mp h1
  rw [List.mem_singleton.mp hg, List.nil_append] at h2 ⊢
  exact ⟨ht, of_decide_eq_true h2⟩
theorem fills_some {c : List P3} (h : ∀ p ∈ c, 0 ≤ p.2.2) {b : Int} (h0 : 0 ≤ b) (h1 : b ≤ handsI c) : fills c b ≠ [] := by
  obtain ⟨t, ht, e⟩ := good_ex h h0 h1
  have : t ∈ fills c b := List.mem_filter.mpr ⟨(mem_allF h).mpr ⟨[], List.mem_singleton.mpr rfl, t, ht, rfl⟩, decide_eq_true e⟩
  intro z
  rw [z] at this
  cases this
theorem fills_none {c : List P3} (h : ∀ p ∈ c, 0 ≤ p.2.2) {b : Int} (h1 : handsI c < b) : fills c b = [] := by
  cases e : fills c b with
  | nil => rfl
  | cons f r =>
    obtain ⟨g, s⟩ := mem_fills h (f := f) (b := b) (by rw [e]; exact List.mem_cons_self)
    have := g.sum_le
    omega
theorem fills_len {c : List P3} (h : Sml c) (b : Int) : (fills c b).length ≤ 27 := by
  have := h.len (Nat.le_refl _)
  rw [List.take_length] at this
  exact Nat.le_trans (List.length_filter_le _ _) this
def sumB (b : Int) (d : D) : Bool := match d with
  | .tup l => (match intsD l with
    | some ns => decide (ns.sum = b)
    | none => false)
  | _ => false
theorem sumB_ef (b : Int) (f : List Int) : sumB b (ef f) = decide (f.sum = b) := by
  show (match intsD (f.map D.int) with
    | some ns => decide (ns.sum = b)
    | none => false) = _
  rw [intsD_ints]
theorem oSum_ef (f : List Int) (M : Mem) : oSum [ef f] M = some (.int f.sum, M) := oSum_tup f M
theorem filt_ef (b : Int) (F : List (List Int)) : (((F.map ef).filter (sumB b)).map fun d => d) = (F.filter fun f => decide (f.sum = b)).map ef := by
  rw [List.map_id', List.filter_map]
  congr 1
  exact List.filter_congr fun f _ => sumB_ef b f
theorem fillings_of_ok {c : List P3} (hs : Sml c) (b : Int) (M : Mem) : f_fillings_of [ec c, .int b] M = .ok (.ref M.length) (M ++ [.lst ((fills c b).map ef)]) := by
  have hz : sizeLine = 16777216 := sizeLine_val
  have i2 : ∀ p M, oIx (ep p) (.int 2) M = some (.int p.2.2, M) := fun p M => by simp [ep]
  have n3 := hs.n3
  unfold f_fillings_of
  refine fn_of ?_
  unfold d_fillings_of
  show WP ((sSeq _ _) [some (ec c), some (.int b), none, none, none, none, none] M) _
  rw [e_sSeq]
  refine wp_next (s_asg (d := .ref M.length) (M1 := M ++ [.lst [.tup []]]) (by simp [hz])) ?_
  simp only [List.set, e_sSeq]
  refine wp_for (c.map ep) (fun i δ M' => ∃ n x3 x4 x5 X, δ = [some (ec c), some (.int b), some (.ref n), x3, x4, x5, none] ∧ M' = M ++ X ∧ seqOf M' n = some ((allF (c.take i) [[]]).map ef)) ⟨_, dSeqSrc_tup rfl, M.length, none, none, none, _, rfl, rfl, seqOf_end rfl⟩ ?_ ?_
  · rintro i d hd δ _ ⟨n, x3, x4, x5, X, rfl, rfl, sq⟩
    have hi : i < c.length := by
      have := (List.getElem?_eq_some_iff.mp hd).1
      rwa [List.length_map] at this
    rw [ec_get hi] at hd
    cases hd
    have hp := hs.h2 _ (who_mem hi)
    have eci : c[i]? = some (who c i) := by
      unfold who
      rw [List.getD_eq_getElem?_getD, List.getElem?_eq_getElem hi]
      rfl
    have tk := allF_take (F := [[]]) eci
    have flen := hs.len (Nat.le_of_lt hi)
    have hF : ∀ f ∈ allF (c.take i) [[]], f.length ≤ 3 := fun f hf => by
      obtain ⟨g, hg, t, ht, rfl⟩ := (mem_allF fun q hq => hs.nn q (List.mem_of_mem_take hq)).mp hf
      rw [List.mem_singleton.mp hg, List.nil_append]
      have := ht.okF.1
      rw [List.length_take] at this
      omega
    generalize allF (c.take i) [[]] = F at sq flen tk hF
    generalize hX : M ++ X = X0 at sq
    simp only [e_gNm, onG_some, List.set, e_sSeq]
    refine wp_next (s_asg (d := .ref X0.length) (M1 := X0 ++ [.lst []]) (by simp [hz])) ?_
    simp only [List.set]
    refine wp_live n (F.map ef) (fun j δ M' => ∃ q x5 Y, δ = [some (ec c), some (.int b), some (.ref n), some (ep (who c i)), some (.ref q), x5, none] ∧ M' = X0 ++ Y ∧ lstOf M' q = some ((exts (F.take j) (who c i).2.2.toNat).map ef)) (fun j δ M' ⟨q, x5, Y, _, e, _⟩ => by rw [e]; exact seqOf_app _ sq)
      ⟨_, dSeqSrc_lst rfl (seqOf_app _ sq), X0.length, x5, _, rfl, rfl, lstOf_end rfl⟩ ?_ ?_
    · rintro j d hd δ _ ⟨q, y5, Y, rfl, rfl, lq⟩
      obtain ⟨f, hf, rfl⟩ : ∃ f, F[j]? = some f ∧ d = ef f := by
        rw [List.getElem?_map] at hd
        obtain ⟨f, h1, h2⟩ := Option.map_eq_some_iff.mp hd
        exact ⟨f, h1, h2.symm⟩
      have hj := (List.getElem?_eq_some_iff.mp hf).1
      have hfl := hF f (List.mem_of_getElem? hf)
      have es := exts_succ (h := (who c i).2.2.toNat) hf
      have el : (exts (F.take j) (who c i).2.2.toNat).length ≤ 100 := by
        rw [exts_len, List.length_take]
        have a : min j F.length ≤ 27 := by omega
        have b : (who c i).2.2.toNat + 1 ≤ 3 := by omega
        have := Nat.mul_le_mul a b
        omega
      obtain ⟨h, hh⟩ : ∃ h : Nat, (who c i).2.2 = h := ⟨(who c i).2.2.toNat, by omega⟩
      have ht : (who c i).2.2.toNat = h := by omega
      have i2' : ∀ M, oIx (ep (who c i)) (.int 2) M = some (.int h, M) := fun M => by rw [i2, hh]
      rw [ht] at lq es el
      rw [ht, es]
      have hh2 : h ≤ 2 := by omega
      generalize exts (F.take j) h = E at lq el
      generalize hW : X0 ++ Y = W at lq
      generalize ep (who c i) = pp at i2' 
      simp only [e_gNm, onG_some, List.set, e_sSeq]
      have lc : dLc [6] (dRng1 (aCons (dBin oAdd (dBin oIx (dVar 3) (dC (.int 2))) (dC (.int 1))) aNil)) (gNm 6) (tTrue) (dBin oAdd (dVar 5) (dTup (aCons (dVar 6) aNil))) [some (ec c), some (.int b), some (.ref n), some pp, some (.ref q), some (ef f), none] W = .ok (.ref W.length) (W ++ [.lst (((List.range (h + 1)).map fun k : Nat => f ++ [(k : Int)]).map ef)]) := by
        rw [dLc_map (l := (List.range (h + 1)).map fun k : Nat => D.int k) (M1 := W) (fun d => match d with | .int k => ef (f ++ [k]) | d => d) (dRng1_ok (j := h + 1) (by simp [i2']) (by omega)) (by rw [List.length_map, List.length_range]; omega) fun d hd acc => ?_]
        · rw [List.map_map, List.map_map]
          rfl
        · obtain ⟨k, hk, rfl⟩ := List.mem_map.mp hd
          refine ⟨_, rfl, ?_⟩
          have ad : ∀ M, oAdd (ef f) (.tup [.int (k : Nat)]) M = some (ef (f ++ [(k : Int)]), M) := fun M => by
            show oAdd (.tup (f.map D.int)) (.tup [.int (k : Nat)]) M = _
            rw [oAdd_tup, if_pos (by rw [List.length_map, hz]; simp; omega)]
            simp [ef]
          simp [wipeD, hz, ad]
      have ad := oAdd_lst (M := W ++ [.lst (((List.range (h + 1)).map fun k : Nat => f ++ [(k : Int)]).map ef)]) (n := q) (k := W.length) (lstOf_app _ lq) (lstOf_end rfl) (by rw [List.length_map, List.length_map, List.length_map, List.length_range, hz]; omega)
      refine wp_next (δ := [some (ec c), some (.int b), some (.ref n), some pp, some (.ref (W.length + 1)), some (ef f), none]) (M := W ++ [.lst (((List.range (h + 1)).map fun k : Nat => f ++ [(k : Int)]).map ef)] ++ [.lst (E.map ef ++ ((List.range (h + 1)).map fun k : Nat => f ++ [(k : Int)]).map ef)]) (by
        rw [e_sAsg, e_dBin, e_dVar]
        simp only [List.getElem?_cons_succ, List.getElem?_cons_zero, varK_some, bind_ok, lc, ad, ofV_some, onV_ok, e_gNm, onG_some, List.set, List.length_append, List.length_cons, List.length_nil, Nat.zero_add]) ?_
      rw [e_sNil, step_nx]
      refine ⟨_, _, Y ++ [.lst (((List.range (h + 1)).map fun k : Nat => f ++ [(k : Int)]).map ef)] ++ [.lst (E.map ef ++ ((List.range (h + 1)).map fun k : Nat => f ++ [(k : Int)]).map ef)], rfl, by rw [← hW]; simp, ?_⟩
      rw [lstOf_end (by rw [List.length_append]; rfl), List.map_append]
    · rintro δ _ ⟨q, y5, Y, rfl, rfl, lq⟩
      rw [List.length_map, List.take_length] at lq
      rw [e_sSeq]
      refine wp_next (s_asg (d := .ref q) (M1 := X0 ++ Y) (by simp)) ?_
      simp only [List.set]
      rw [e_sNil, step_nx, tk]
      exact ⟨_, _, _, _, X ++ Y, rfl, by rw [← hX, List.append_assoc], seq_of_lst lq⟩
  · rintro δ _ ⟨n, x3, x4, x5, X, rfl, rfl, sq⟩
    rw [List.length_map, List.take_length] at sq
    have flen := hs.len (Nat.le_refl _)
    rw [List.take_length] at flen
    generalize hX : M ++ X = X0 at sq
    rw [e_sSeq]
    have lc : dLc [5] (dSeqSrc (dVar 2)) (gNm 5) (tV (dBin oEq (dBlt oSum (aCons (dVar 5) aNil)) (dVar 1))) (dVar 5) [some (ec c), some (.int b), some (.ref n), x3, x4, x5, none] X0 = .ok (.ref X0.length) (X0 ++ [.lst ((fills c b).map ef)]) := by
      rw [dLc_live (n := n) (M1 := X0) (l := (allF c [[]]).map ef) (sumB b) (fun d => d) (dSeqSrc_lst rfl sq) sq (by rw [List.length_map, hz]; omega) fun d hd acc => ?_, filt_ef]
      · rfl
      · obtain ⟨f, _, rfl⟩ := List.mem_map.mp hd
        exact ⟨_, rfl, by simp [wipeD, oSum_ef, sumB_ef], fun _ => by simp [wipeD]⟩
    refine wp_ret (d := .ref X0.length) (M := X0 ++ [.lst ((fills c b).map ef)]) (s_ret lc) ?_
    rw [wp_rt, ← hX, List.append_assoc]
    exact gc_lst (l := (fills c b).map ef) (by rw [List.length_append]; omega) (by rw [← List.append_assoc, List.getElem?_append_right (Nat.le_refl _), Nat.sub_self]; rfl) (below_map (fun f => below_ef _ f) _)
theorem all_fillings_eq : f__law_all_fillings = f_fillings_of := rfl
theorem count_fillings_ok {c : List P3} (hc : c.length ≤ 100) (h : ∀ p ∈ c, 0 ≤ p.2.2 ∧ p.2.2 ≤ 3) (M : Mem) : f_count_fillings [ec c] M = .ok (.int (c.foldl (fun a p => a * (p.2.2 + 1)) 1)) M := by
  have i2 : ∀ p M, oIx (ep p) (.int 2) M = some (.int p.2.2, M) := fun p M => by simp [ep]
  unfold f_count_fillings
  refine fn_of ?_
  unfold d_count_fillings
  show WP ((sSeq _ _) [some (ec c), none, none] M) _
  rw [e_sSeq]
  refine wp_next (s_asg (d := .int 1) (M1 := M) (by simp)) ?_
  simp only [List.set, e_sSeq]
  refine wp_for (c.map ep) (fun i δ M' => ∃ x2, δ = [some (ec c), some (.int ((c.take i).foldl (fun a p => a * (p.2.2 + 1)) 1)), x2] ∧ M' = M) ⟨_, dSeqSrc_tup rfl, none, rfl, rfl⟩ ?_ ?_
  · rintro i d hd δ M' ⟨x2, rfl, rfl⟩
    have hi : i < c.length := by
      have := (List.getElem?_eq_some_iff.mp hd).1
      rwa [List.length_map] at this
    rw [ec_get hi] at hd
    cases hd
    have hp := h _ (who_mem hi)
    have ew : c[i] = who c i := by
      unfold who
      rw [List.getD_eq_getElem?_getD, List.getElem?_eq_getElem hi]
      rfl
    rw [List.take_succ_eq_append_getElem hi, List.foldl_append, ew]
    generalize (c.take i).foldl (fun a p => a * (p.2.2 + 1)) 1 = a
    have mu := fun M => oMul_int (M := M) (i := a) (j := (who c i).2.2 + 1) (.inr ⟨by omega, by omega⟩)
    have i2' := i2 (who c i)
    simp only [e_gNm, onG_some, List.set, e_sSeq]
    refine wp_next (s_asg (d := .int (a * ((who c i).2.2 + 1))) (M1 := M') (by simp [i2', mu])) ?_
    simp only [List.set]
    rw [e_sNil, step_nx]
    exact ⟨_, rfl, rfl⟩
  · rintro δ M' ⟨x2, rfl, rfl⟩
    rw [List.length_map, List.take_length, e_sSeq]
    refine wp_ret (d := .int (c.foldl (fun a p => a * (p.2.2 + 1)) 1)) (M := M') (s_ret (by simp)) ?_
    rw [wp_rt]
    exact gc_int0
theorem fold_le : ∀ (c : List P3) (a : Int), (∀ p ∈ c, 1 ≤ p.2.2 ∧ p.2.2 ≤ 2) → 0 ≤ a → c.foldl (fun a p => a * (p.2.2 + 1)) a ≤ a * 3 ^ c.length ∧ 0 ≤ c.foldl (fun a p => a * (p.2.2 + 1)) a
  | [], a, _, h0 => by simpa using h0
  | p :: c, a, h, h0 => by
    have hp := h p List.mem_cons_self
    have n0 : 0 ≤ a * (p.2.2 + 1) := Int.mul_nonneg h0 (by omega)
    obtain ⟨h1, h2⟩ := fold_le c (a * (p.2.2 + 1)) (fun q hq => h q (List.mem_cons_of_mem _ hq)) n0
    refine ⟨Int.le_trans h1 ?_, h2⟩
    rw [List.length_cons, Int.pow_succ, Int.mul_comm (3 ^ c.length) 3, ← Int.mul_assoc]
    exact Int.mul_le_mul_of_nonneg_right (Int.mul_le_mul_of_nonneg_left (by omega) h0) (Int.le_of_lt (Int.pow_pos (by decide)))
theorem Sml.count {c : List P3} (h : Sml c) : c.foldl (fun a p => a * (p.2.2 + 1)) 1 ≤ 27 := by
  obtain ⟨h1, _⟩ := fold_le c 1 h.h2 (by decide)
  have b : (3 : Nat) ^ c.length ≤ 3 ^ 3 := Nat.pow_le_pow_right (by decide) h.n3
  have b' : (((3 : Nat) ^ c.length : Nat) : Int) ≤ ((3 ^ 3 : Nat) : Int) := Int.ofNat_le.mpr b
  rw [Int.natCast_pow] at b'
  have b2 : ((3 : Nat) : Int) = 3 := rfl
  rw [b2] at b'
  simp at b'
  omega
end Lw
namespace Lw
open PySem Pd Hr
/-! ### the greatest lead -/
open Classical in
noncomputable def leadF (c : List P3) (f : List Int) : Nat := if h : ∃ n, Ld c (runL c f 0) n then Classical.choose h else 0
theorem leadF_eq {c : List P3} {f : List Int} {n : Nat} (h : Ld c (runL c f 0) n) : leadF c f = n := by
  unfold leadF
  have e : ∃ n, Ld c (runL c f 0) n := ⟨n, h⟩
  rw [dif_pos e]
  exact (Classical.choose_spec e).uniq h
noncomputable def bestS (c : List P3) (o : Option (Nat × List Int)) (f : List Int) : Option (Nat × List Int) := match o with
  | none => some (leadF c f, f)
  | some (a, g) => if a < leadF c f then some (leadF c f, f) else some (a, g)
noncomputable def bestL (c : List P3) (F : List (List Int)) : Option (Nat × List Int) := F.foldl (bestS c) none
theorem bestL_succ {c : List P3} {F : List (List Int)} {i : Nat} {f : List Int} (h : F[i]? = some f) : bestL c (F.take (i + 1)) = bestS c (bestL c (F.take i)) f := by
  obtain ⟨hi, e⟩ := List.getElem?_eq_some_iff.mp h
  unfold bestL
  rw [List.take_succ_eq_append_getElem hi, List.foldl_append, e]
  rfl
theorem bestS_some (c : List P3) (o : Option (Nat × List Int)) (f : List Int) : ∃ p, bestS c o f = some p := by
  unfold bestS
  cases o with
  | none => exact ⟨_, rfl⟩
  | some p =>
    obtain ⟨a, g⟩ := p
    dsimp only
    split
    · exact ⟨_, rfl⟩
    · exact ⟨_, rfl⟩
theorem bestL_some {c : List P3} {F : List (List Int)} (h : F ≠ []) : ∃ p, bestL c F = some p := by
  have n0 : 0 < F.length := List.length_pos_iff.mpr h
  have e : F[F.length - 1]? = some (F[F.length - 1]'(by omega)) := List.getElem?_eq_getElem (by omega)
  have s := bestL_succ (c := c) e
  rw [show F.length - 1 + 1 = F.length by omega, List.take_length] at s
  rw [s]
  exact bestS_some _ _ _
def eB (o : Option (Nat × List Int)) : D := match o with
  | none => .non
  | some (a, g) => .tup [.int a, ef g]
theorem below_eB (n : Nat) (o : Option (Nat × List Int)) : belowD n (eB o) = true := by
  cases o with
  | none => rfl
  | some p =>
    show belowL n [D.int p.1, ef p.2] = true
    exact belowL_all fun d hd => by
      simp only [List.mem_cons, List.not_mem_nil, or_false] at hd
      rcases hd with e | e <;> subst e
      · rfl
      · exact below_ef _ _
/-- a small circle, quick -/
structure Qk (c : List P3) : Prop where
  ok : okC c
  sml : Sml c
  c4 : ∀ p ∈ c, p.1 ≤ 4 ∧ p.2.1 ≤ 4
theorem Qk.sm3 {c : List P3} (h : Qk c) : Sm3 c := by
  refine ⟨h.sml.n3, fun i hi => ?_, fun i hi => ?_⟩
  · have := h.c4 _ (who_mem hi)
    unfold Cy Bk
    omega
  · have := h.sml.h2 _ (who_mem hi)
    unfold Hd
    omega
theorem count_small {c : List P3} (h : Qk c) (M : Mem) : ∃ n : Int, f_count_fillings [ec c] M = .ok (.int n) M ∧ n ≤ 300 := by
  refine ⟨_, count_fillings_ok (by have := h.sml.n3; omega) (fun p hp => by have := h.sml.h2 p hp; omega) M, ?_⟩
  have := h.sml.count
  omega
theorem longest_walk {c : List P3} (h : Qk c) {b : Int} (b0 : 0 ≤ b) (b1 : b ≤ 10 ^ 30) (M : Mem) :
    WP (d_longest_lead [some (ec c), some (.int b), none, none, none, none, none] M) (fun z => ∃ X, (fills c b = [] ∧ ∃ δ, z = .exc ⟨"InvalidNumber", []⟩ δ (M ++ X)) ∨ (fills c b ≠ [] ∧ z = .rt (eB (bestL c (fills c b))) (M ++ X))) := by
  have hz : sizeLine = 16777216 := sizeLine_val
  have nc := need_circle_ok h.ok
  have nn := fun M => need_number_ok (i := b) (lo := 0) (hi := 1000000000000000000000000000000) b0 (by simpa using b1) M
  obtain ⟨n, cn, n300⟩ := count_small h M
  unfold d_longest_lead
  rw [e_sSeq]
  refine wp_next (s_drop (d := .non) (M1 := M) (by simp [nc])) ?_
  rw [e_sSeq, s_if (t := false) (M1 := M) (by simp [cn]; omega), if_neg Bool.false_ne_true, e_sNil, seqK_nx, e_sSeq]
  refine wp_next (s_drop (d := .non) (M1 := M) (by simp [nn])) ?_
  rw [e_sSeq]
  have dd : ∀ δ M, dDct δ M = .ok (.ref M.length) (M ++ [.dct []]) := fun _ _ => rfl
  refine wp_next (δ := [some (ec c), some (.int b), some .non, some (.ref M.length), none, none, none]) (M := M ++ [.dct []]) (by simp [dd]) ?_
  rw [e_sSeq]
  have fo := fillings_of_ok h.sml b (M ++ [.dct []])
  have fl := fills_len h.sml b
  have src : dSeqSrc (dCall f_fillings_of 2 (aCons (dVar 0) (aCons (dVar 1) aNil))) [some (ec c), some (.int b), some .non, some (.ref M.length), none, none, none] (M ++ [.dct []]) = .ok (.live (M ++ [MO.dct []]).length) (M ++ [.dct []] ++ [.lst ((fills c b).map ef)]) := dSeqSrc_lst (by simp [fo]) (seqOf_end rfl)
  have hgood : ∀ f ∈ fills c b, okF c f := fun f hf => (mem_fills h.sml.nn hf).1.okF
  generalize fills c b = F at src fl hgood ⊢
  obtain ⟨r, hr⟩ : ∃ r, M.length = r := ⟨_, rfl⟩
  rw [show (M ++ [MO.dct []]).length = r + 1 by rw [List.length_append, hr]; rfl] at src
  rw [hr] at src ⊢
  refine wp_live (r + 1) (F.map ef) (fun i δ M' => (∃ x4 x5 x6, δ = [some (ec c), some (.int b), some (eB (bestL c (F.take i))), some (.ref r), x4, x5, x6]) ∧ seqOf M' (r + 1) = some (F.map ef) ∧ ∃ X kv, M' = M ++ X ∧ dctOf M' r = some kv ∧ Lk c kv ∧ kv.length ≤ i * 100000) (fun _ _ _ h => h.2.1)
    ⟨_, src, ⟨_, _, _, rfl⟩, seqOf_end (by rw [List.length_append, hr]; rfl), [.dct []] ++ [.lst (F.map ef)], [], by rw [List.append_assoc], ?_, ⟨fun p hp => (by cases hp), fun s hs => (by obtain ⟨p, hp, _⟩ := hs; cases hp)⟩, Nat.zero_le _⟩ ?_ ?_
  · refine dctOf_app _ ?_
    unfold dctOf
    rw [List.getElem?_append_right (by omega), hr, Nat.sub_self]
    rfl
  · rintro i d hd δ _ ⟨⟨x4, x5, x6, rfl⟩, sq, X, kv, rfl, dk, lk, kl⟩
    obtain ⟨f, hf, rfl⟩ : ∃ f, F[i]? = some f ∧ d = ef f := by
      rw [List.getElem?_map] at hd
      obtain ⟨f, h1, h2⟩ := Option.map_eq_some_iff.mp hd
      exact ⟨f, h1, h2.symm⟩
    have hi := (List.getElem?_eq_some_iff.mp hf).1
    have of := hgood f (List.mem_of_getElem? hf)
    have cf := okCF_of h.ok of
    have hw := h.ok.h9
    have hc1 : c.length ≤ 1000 := by have := h.sml.n3; omega
    have fs := fun M => first_standing_ok cf hc1 (fun i hi => by have := (hw i hi).2.2; omega) M
    obtain ⟨m, l, hlm, hm, hml, dis⟩ := walk_ex3 cf h.sm3 h.ok.h1
    have ldl := ld_run (u := 0) hlm hml dis
    have el : leadF c f = l := leadF_eq ldl
    rw [bestL_succ hf]
    simp only [e_gNm, onG_some, List.set, e_sSeq]
    refine wp_next (s_asg (d := es (runL c f 0)) (M1 := M ++ X) (by simp [fs]; rfl)) ?_
    simp only [List.set]
    -- the lead
    have ib := inB_dct dk (runL c f 0)
    have step : ∃ X' kv', dIf (tV (dBin oIn (dVar 5) (dVar 3))) (dBin oIx (dVar 3) (dVar 5)) (dCall f_lead_from 3 (aCons (dVar 0) (aCons (dVar 5) (aCons (dVar 3) aNil)))) [some (ec c), some (.int b), some (eB (bestL c (F.take i))), some (.ref r), some (ef f), some (es (runL c f 0)), x6] (M ++ X) = .ok (.int (leadF c f)) (M ++ X') ∧ dctOf (M ++ X') r = some kv' ∧ Lk c kv' ∧ kv'.length ≤ (i + 1) * 100000 ∧ seqOf (M ++ X') (r + 1) = some (F.map ef) := by
      by_cases hh : Has kv (runL c f 0)
      · obtain ⟨n', ev, ln⟩ := lk.ent.val hh
        rw [ev] at ib
        have ix := oIx_dct dk (runL c f 0) ev
        refine ⟨X, kv, ?_, dk, lk, Nat.le_trans kl (Nat.mul_le_mul_right _ (Nat.le_succ i)), sq⟩
        rw [leadF_eq ln]
        simp [ib, ix]
      · rw [has_none hh] at ib
        obtain ⟨kv', e, lk', kl'⟩ := lead_from_ok cf hc1 hw hlm hml dis dk lk (by omega)
        have rl := dctOf_lt dk
        refine ⟨X.set (r - M.length) (.dct kv'), kv', ?_, ?_, lk', by omega, ?_⟩
        · rw [el, ← List.set_append_right _ _ (by omega)]
          simp [ib, e]
        · rw [← List.set_append_right _ _ (by omega)]
          exact dct_set rl
        · rw [← List.set_append_right _ _ (by omega), seqOf_set_ne (by omega)]
          exact sq
    obtain ⟨X', kv', es', dk', lk', kl', sq'⟩ := step
    refine wp_next (s_asg es') ?_
    simp only [List.set]
    generalize hX : M ++ X' = M1 at dk' sq'
    generalize bestL c (F.take i) = o
    rw [e_sSeq]
    have fin : WP (sNil [some (ec c), some (.int b), some (eB (bestS c o f)), some (.ref r), some (ef f), some (es (runL c f 0)), some (.int (leadF c f))] M1) (StepQ (fun δ M' => (∃ x4 x5 x6, δ = [some (ec c), some (.int b), some (eB (bestS c o f)), some (.ref r), x4, x5, x6]) ∧ seqOf M' (r + 1) = some (F.map ef) ∧ ∃ X kv, M' = M ++ X ∧ dctOf M' r = some kv ∧ Lk c kv ∧ kv.length ≤ (i + 1) * 100000) (sSeq (sIf (tV (dBin oIsN (dVar 2) (dC .non))) (sSeq ((fun δ M => .exc ⟨"InvalidNumber", []⟩ δ M)) (sNil)) (sNil)) (sSeq (sRet (dVar 2)) (sNil))) (fun z => ∃ X, (F = [] ∧ ∃ δ, z = .exc ⟨"InvalidNumber", []⟩ δ (M ++ X)) ∨ (F ≠ [] ∧ z = .rt (eB (bestL c F)) (M ++ X)))) := by
      rw [e_sNil, step_nx]
      exact ⟨⟨_, _, _, rfl⟩, sq', X', kv', hX.symm, dk', lk', kl'⟩
    cases o with
    | none =>
      have hb : (sSeq (sAsg (dTup (aCons (dVar 6) (aCons (dVar 4) aNil))) (gNm 2)) (sNil)) [some (ec c), some (.int b), some (eB none), some (.ref r), some (ef f), some (es (runL c f 0)), some (.int (leadF c f))] M1 = .nx [some (ec c), some (.int b), some (eB (bestS c none f)), some (.ref r), some (ef f), some (es (runL c f 0)), some (.int (leadF c f))] M1 := by
        simp [hz, bestS, eB]
      rw [s_if (t := true) (M1 := M1) (by simp [eB]), if_pos rfl, hb, seqK_nx]
      exact fin
    | some p =>
      obtain ⟨a, g⟩ := p
      by_cases g1 : a < leadF c f
      · have hb : (sSeq (sAsg (dTup (aCons (dVar 6) (aCons (dVar 4) aNil))) (gNm 2)) (sNil)) [some (ec c), some (.int b), some (eB (some (a, g))), some (.ref r), some (ef f), some (es (runL c f 0)), some (.int (leadF c f))] M1 = .nx [some (ec c), some (.int b), some (eB (bestS c (some (a, g)) f)), some (.ref r), some (ef f), some (es (runL c f 0)), some (.int (leadF c f))] M1 := by
          simp [hz, bestS, eB, g1]
        rw [s_if (t := true) (M1 := M1) (by simp [eB, g1]), if_pos rfl, hb, seqK_nx]
        exact fin
      · have hb : bestS c (some (a, g)) f = some (a, g) := by simp [bestS, g1]
        rw [hb] at fin
        rw [s_if (t := false) (M1 := M1) (by simp [eB]; omega), if_neg Bool.false_ne_true, e_sNil, seqK_nx, hb]
        exact fin
  · rintro δ _ ⟨⟨x4, x5, x6, rfl⟩, sq, X, kv, rfl, dk, lk, kl⟩
    rw [List.length_map, List.take_length]
    cases F with
    | nil =>
      rw [e_sSeq, s_if (t := true) (M1 := M ++ X) (by simp [bestL, eB]), if_pos rfl]
      refine wp_raise (x := ⟨"InvalidNumber", []⟩) (δ := [some (ec c), some (.int b), some (eB (bestL c [])), some (.ref r), x4, x5, x6]) (M := M ++ X) (by simp) ?_
      exact wp_of ⟨X, .inl ⟨rfl, _, rfl⟩⟩
    | cons f F =>
      obtain ⟨⟨a, g⟩, e⟩ := bestL_some (c := c) (F := f :: F) (by simp)
      rw [e, e_sSeq, s_if (t := false) (M1 := M ++ X) (by simp [eB]), if_neg Bool.false_ne_true, e_sNil, seqK_nx, e_sSeq]
      refine wp_ret (d := eB (some (a, g))) (M := M ++ X) (s_ret (by simp)) ?_
      exact wp_of ⟨X, .inr ⟨by simp, rfl⟩⟩
theorem sums_6 {c : List P3} (h : Sml c) : 0 ≤ handsI c ∧ handsI c ≤ 6 := by
  have : ∀ c : List P3, (∀ p ∈ c, 1 ≤ p.2.2 ∧ p.2.2 ≤ 2) → 0 ≤ handsI c ∧ handsI c ≤ 2 * c.length := by
    intro c
    induction c with
    | nil => intro _; exact ⟨Int.le_refl _, Int.le_refl _⟩
    | cons q c ih =>
      intro hq
      rw [hands_cons, List.length_cons]
      have := ih fun z hz => hq z (List.mem_cons_of_mem _ hz)
      have := hq q List.mem_cons_self
      omega
  have := this c h.h2
  have := h.n3
  omega
theorem longest_lead_ok {c : List P3} (h : Qk c) {b : Int} (b0 : 0 ≤ b) (b1 : b ≤ handsI c) (M : Mem) : f_longest_lead [ec c, .int b] M = .ok (eB (bestL c (fills c b))) M := by
  have hh := (sums_6 h.sml)
  obtain ⟨X, z⟩ := wp_to (longest_walk h b0 (by omega) M)
  unfold f_longest_lead fnOf
  show gcR M (toR (d_longest_lead [some (ec c), some (.int b), none, none, none, none, none] M)) = _
  rcases z with ⟨z, _⟩ | ⟨_, z⟩
  · exact absurd z (fills_some h.sml.nn b0 b1)
  · rw [z, toR_rt]
    exact gc_val (below_eB _ _)
theorem longest_lead_no {c : List P3} (h : Qk c) {b : Int} (b1 : handsI c < b) (b2 : b ≤ 10 ^ 30) (b0 : 0 ≤ b) (M : Mem) : f_longest_lead [ec c, .int b] M = .exc ⟨"InvalidNumber", []⟩ M := by
  obtain ⟨X, z⟩ := wp_to (longest_walk h b0 b2 M)
  unfold f_longest_lead fnOf
  show gcR M (toR (d_longest_lead [some (ec c), some (.int b), none, none, none, none, none] M)) = _
  rcases z with ⟨_, δ, z⟩ | ⟨z, _⟩
  · rw [z, toR_exc]
    exact gc_exc
  · exact absurd (fills_none h.sml.nn b1) z
/-- the law's own -/
def eA (o : Option (Nat × List Int)) : D := match o with
  | none => .int (-1)
  | some (a, g) => .int a
def eG (o : Option (Nat × List Int)) : D := match o with
  | none => .non
  | some (a, g) => ef g
theorem law_longest_ok {c : List P3} (h : Qk c) {b : Int} (b0 : 0 ≤ b) (b1 : b ≤ handsI c) (M : Mem) : f__law_longest [ec c, .int b] M = .ok (eB (bestL c (fills c b))) M := by
  have hz : sizeLine = 16777216 := sizeLine_val
  have ne := fills_some h.sml.nn b0 b1
  unfold f__law_longest
  refine fn_of ?_
  unfold d__law_longest
  show WP ((sSeq _ _) [some (ec c), some (.int b), none, none, none, none] M) _
  rw [e_sSeq]
  refine wp_next (δ := [some (ec c), some (.int b), some (.int (-1)), some .non, none, none]) (M := M) (by simp) ?_
  rw [e_sSeq]
  have fo := fillings_of_ok h.sml b M
  rw [← all_fillings_eq] at fo
  have fl := fills_len h.sml b
  have src : dSeqSrc (dCall f__law_all_fillings 2 (aCons (dVar 0) (aCons (dVar 1) aNil))) [some (ec c), some (.int b), some (.int (-1)), some .non, none, none] M = .ok (.live M.length) (M ++ [.lst ((fills c b).map ef)]) := dSeqSrc_lst (by simp [fo]) (seqOf_end rfl)
  have hgood : ∀ f ∈ fills c b, okF c f := fun f hf => (mem_fills h.sml.nn hf).1.okF
  generalize fills c b = F at src fl hgood ne ⊢
  obtain ⟨r, hr⟩ : ∃ r, M.length = r := ⟨_, rfl⟩
  rw [hr] at src
  refine wp_live r (F.map ef) (fun i δ M' => (∃ x4 x5, δ = [some (ec c), some (.int b), some (eA (bestL c (F.take i))), some (eG (bestL c (F.take i))), x4, x5]) ∧ seqOf M' r = some (F.map ef) ∧ ∃ X, M' = M ++ X) (fun _ _ _ h => h.2.1)
    ⟨_, src, ⟨_, _, rfl⟩, seqOf_end hr.symm, _, rfl⟩ ?_ ?_
  · rintro i d hd δ _ ⟨⟨x4, x5, rfl⟩, sq, X, rfl⟩
    obtain ⟨f, hf, rfl⟩ : ∃ f, F[i]? = some f ∧ d = ef f := by
      rw [List.getElem?_map] at hd
      obtain ⟨f, h1, h2⟩ := Option.map_eq_some_iff.mp hd
      exact ⟨f, h1, h2.symm⟩
    have of := hgood f (List.mem_of_getElem? hf)
    have cf := okCF_of h.ok of
    obtain ⟨m, l, G, sr, fr, hlm, hm, hml, dis, e, s1, s2⟩ := till_again_ok cf h.ok.sm h.ok.h1 h.ok.h9 (M ++ X)
    have el : leadF c f = l := leadF_eq (ld_run (u := 0) hlm hml dis)
    rw [bestL_succ hf]
    simp only [e_gNm, onG_some, List.set, e_sSeq]
    refine wp_next (s_asg (d := .int (leadF c f)) (M1 := M ++ (X ++ G)) (by simp [e, el])) ?_
    simp only [List.set]
    generalize bestL c (F.take i) = o
    have sq' : seqOf (M ++ (X ++ G)) r = some (F.map ef) := by rw [← List.append_assoc]; exact seqOf_app _ sq
    rw [e_sSeq]
    have fin : ∀ A B, A = eA (bestS c o f) → B = eG (bestS c o f) → WP (sNil [some (ec c), some (.int b), some A, some B, some (ef f), some (.int (leadF c f))] (M ++ (X ++ G))) (StepQ (fun δ M' => (∃ x4 x5, δ = [some (ec c), some (.int b), some (eA (bestS c o f)), some (eG (bestS c o f)), x4, x5]) ∧ seqOf M' r = some (F.map ef) ∧ ∃ X, M' = M ++ X) (sSeq (sRet (dTup (aCons (dVar 2) (aCons (dVar 3) aNil)))) (sNil)) fun z => gcR M (toR z) = .ok (eB (bestL c F)) M) := by
      rintro _ _ rfl rfl
      rw [e_sNil, step_nx]
      exact ⟨⟨_, _, rfl⟩, sq', _, rfl⟩
    cases o with
    | none =>
      have hb : (sSeq (sPar [2, 3] (aCons (dVar 5) (aCons (dVar 4) aNil))) (sNil)) [some (ec c), some (.int b), some (eA none), some (eG none), some (ef f), some (.int (leadF c f))] (M ++ (X ++ G)) = .nx [some (ec c), some (.int b), some (.int (leadF c f)), some (ef f), some (ef f), some (.int (leadF c f))] (M ++ (X ++ G)) := by
        simp
      rw [s_if (t := true) (M1 := M ++ (X ++ G)) (by simp [eA]; omega), if_pos rfl, hb, seqK_nx]
      exact fin _ _ rfl rfl
    | some p =>
      obtain ⟨a, g⟩ := p
      by_cases g1 : a < leadF c f
      · have hb : (sSeq (sPar [2, 3] (aCons (dVar 5) (aCons (dVar 4) aNil))) (sNil)) [some (ec c), some (.int b), some (eA (some (a, g))), some (eG (some (a, g))), some (ef f), some (.int (leadF c f))] (M ++ (X ++ G)) = .nx [some (ec c), some (.int b), some (.int (leadF c f)), some (ef f), some (ef f), some (.int (leadF c f))] (M ++ (X ++ G)) := by
          simp
        rw [s_if (t := true) (M1 := M ++ (X ++ G)) (by simp [eA, g1]), if_pos rfl, hb, seqK_nx]
        exact fin _ _ (by simp [bestS, g1, eA]) (by simp [bestS, g1, eG])
      · rw [s_if (t := false) (M1 := M ++ (X ++ G)) (by simp [eA]; omega), if_neg Bool.false_ne_true, e_sNil, seqK_nx]
        exact fin _ _ (by simp [bestS, g1]) (by simp [bestS, g1])
  · rintro δ _ ⟨⟨x4, x5, rfl⟩, sq, X, rfl⟩
    rw [List.length_map, List.take_length]
    obtain ⟨⟨a, g⟩, e⟩ := bestL_some (c := c) ne
    rw [e, e_sSeq]
    refine wp_ret (d := eB (some (a, g))) (M := M ++ X) (s_ret (by simp [eA, eG, eB, hz])) ?_
    rw [wp_rt]
    exact gc_val (below_eB _ _)
end Lw
namespace Lw
open PySem Pd Hr
theorem drawn_person_okB {s : Nat} {M : Mem} {most B : Int} (h : okS M s) (hm : 1 ≤ most) (hm2 : most ≤ B) (hB3 : 3 ≤ B) (hB9 : B ≤ 9) : Dr s M (fun d => ∃ p, d = ep p ∧ okP p ∧ p.1 ≤ B ∧ p.2.1 ≤ B) (f__law_drawn_person [.ref s, .int most] M) := by
  have hs := h.lt
  have z3 : 3 ≤ sizeLine := by decide
  have z4 : 4 ≤ sizeLine := by decide
  -- how wide
  obtain ⟨d1, a1, b1, p1, e1, s1, _⟩ := dr_next (chosen_ok (s := s) (k := M.length) (M := M ++ [MO.lst [.int 2, .int 3, .int most]]) (l := [.int 2, .int 3, .int most]) h.app (seqOf_end rfl) (by omega) (by simp) (by simp) rfl) (by rw [List.length_append]; omega)
  rw [set_app hs] at e1 s1
  obtain ⟨wide, rfl, w1, w2⟩ : ∃ w : Int, d1 = .int w ∧ 1 ≤ w ∧ w ≤ B := by
    simp at p1
    rcases p1 with e | e | e
    · exact ⟨2, e, by omega, by omega⟩
    · exact ⟨3, e, by omega, by omega⟩
    · exact ⟨most, e, hm, hm2⟩
  generalize hM1 : M.set s (srcM a1 b1) ++ [MO.lst [D.int 2, .int 3, .int most]] = M1 at e1 s1
  -- carry, back
  obtain ⟨d2, a2, b2, ⟨r2, rfl, r21, r22⟩, e2, s2, _⟩ := dr_next (pick_ok (n := wide) s1 (by omega) (by omega)) s1.lt
  obtain ⟨d3, a3, b3, ⟨r3, rfl, r31, r32⟩, e3, s3, _⟩ := dr_next (pick_ok (n := wide) s2 (by omega) (by omega)) s2.lt
  rw [List.set_set] at e3 s3
  -- hands
  obtain ⟨d4, a4, b4, p4, e4, s4, q1, q2, q3⟩ := dr_next (chosen_ok (s := s) (k := (M1.set s (srcM a3 b3)).length) (M := M1.set s (srcM a3 b3) ++ [MO.lst [.int 1, .int 1, .int 2, .int 3]]) (l := [.int 1, .int 1, .int 2, .int 3]) s3.app (seqOf_end rfl) (by have := s3.lt; omega) (by simp) (by simp) rfl) (by rw [List.length_append]; have := s3.lt; omega)
  rw [set_app s3.lt, List.set_set] at e4 s4
  obtain ⟨hd, rfl, g1, g2⟩ : ∃ w : Int, d4 = .int w ∧ 1 ≤ w ∧ w ≤ 3 := by
    simp at p4
    rcases p4 with e | e | e <;> exact ⟨_, e, by omega, by omega⟩
  have hs1 := s1.lt
  refine ⟨ep (1 + r2, 1 + r3, hd), a4, b4, ⟨_, rfl, ⟨⟨by show 1 ≤ 1 + r2; omega, by show 1 + r2 ≤ 9; omega⟩, ⟨by show 1 ≤ 1 + r3; omega, by show 1 + r3 ≤ 9; omega⟩, g1, g2⟩, by show 1 + r2 ≤ B; omega, by show 1 + r3 ≤ B; omega⟩, q1, q2, q3, ?_⟩
  unfold f__law_drawn_person fnOf
  rw [List.length_set] at e4
  simp [d__law_drawn_person, z3, z4, e1, hM1, e2, e3, e4]
  rw [← hM1, set_app (by rw [List.length_set]; exact hs), List.set_set, List.append_assoc]
  exact gc_set rfl rfl
theorem drawn_circle_okB {s : Nat} {M : Mem} {many most B : Int} (h : okS M s) (hm : 1 ≤ most) (hm2 : most ≤ B) (hB3 : 3 ≤ B) (hB9 : B ≤ 9) (h2 : 2 ≤ many) (h3 : many ≤ 12) : Dr s M (fun d => ∃ c : List P3, d = ec c ∧ okC c ∧ (c.length : Int) ≤ many ∧ ∀ p ∈ c, p.1 ≤ B ∧ p.2.1 ≤ B) (f__law_drawn_circle [.ref s, .int many, .int most] M) := by
  have hs := h.lt
  obtain ⟨d1, a1, b1, ⟨r1, rfl, r11, r12⟩, e1, s1, _⟩ := dr_next (pick_ok (n := many - 1) h (by omega) (by omega)) hs
  obtain ⟨d2, a2, b2, ⟨one, rfl, hone⟩, e2, s2, _⟩ := dr_next (drawn_person_okB (most := most) s1 hm hm2 hB3 hB9) s1.lt
  rw [List.set_set] at e2 s2
  obtain ⟨d3, a3, b3, ⟨r3, rfl, r31, r32⟩, e3, s3, x1, x2, x3⟩ := dr_next (pick_ok (n := 4) s2 (by omega) (by omega)) s2.lt
  rw [List.set_set] at e3 s3
  obtain ⟨n, hn⟩ : ∃ n : Nat, 2 + r1 = n := ⟨(2 + r1).toNat, by omega⟩
  have loop := for_range (g := gNm 7) (n := n) (M := M.set s (srcM a3 b3)) (M1 := M.set s (srcM a3 b3)) (δ := [some (.ref s), some (.int many), some (.int most), some (.int (2 + r1)), some (.tup []), some (ep one), some (.bl (decide (r3 = 0))), none])
    (src := dRng1 (aCons (dVar 3) aNil)) (body := sSeq (sAsg (dBin oAdd (dVar 4) (dTup (aCons (dIf (tV (dVar 6)) (dVar 5) (dCall f__law_drawn_person 2 (aCons (dVar 0) (aCons (dVar 2) aNil)))) aNil))) (gNm 4)) (sNil))
    (fun i δ M' => ∃ (c : List P3) (x : Option D) (a b : Int), δ = [some (.ref s), some (.int many), some (.int most), some (.int (2 + r1)), some (ec c), some (ep one), some (.bl (decide (r3 = 0))), x] ∧ c.length = i ∧ (∀ p ∈ c, okP p ∧ p.1 ≤ B ∧ p.2.1 ≤ B) ∧ M' = M.set s (srcM a b) ∧ 0 ≤ a ∧ 0 ≤ b ∧ b < 2 ^ 40)
    (by
      refine dRng1_ok ?_ (by omega)
      simp [hn])
    ⟨[], none, a3, b3, rfl, rfl, (fun p hp => nomatch hp), rfl, x1, x2, x3⟩
    (fun i hi δ M' => by
      rintro ⟨c, x, a, b, rfl, hc, hp, rfl, ha, hb, hb2⟩
      have hz : sizeLine = 16777216 := rfl
      have z1 : 1 ≤ sizeLine := by decide
      have zc : (c.map ep).length + 1 ≤ sizeLine := by rw [List.length_map]; omega
      by_cases h0 : r3 = 0
      · refine ⟨_, _, [some (.ref s), some (.int many), some (.int most), some (.int (2 + r1)), some (ec (c ++ [one])), some (ep one), some (.bl (decide (r3 = 0))), some (.int i)], M.set s (srcM a b), rfl, ?_, c ++ [one], _, a, b, rfl, by simp [hc], fun p hp' => ?_, rfl, ha, hb, hb2⟩
        · simp [h0, z1, ec]
          rw [if_pos (by omega)]
          simp
        · rcases List.mem_append.mp hp' with z | z
          · exact hp p z
          · rw [List.mem_singleton.mp z]; exact hone
      · obtain ⟨d4, a4, b4, ⟨q, rfl, hq⟩, e4, s4, y1, y2, y3⟩ := dr_next (drawn_person_okB (M := M.set s (srcM a b)) (most := most) (okS.set hs ha hb hb2) hm hm2 hB3 hB9) (by rw [List.length_set]; exact hs)
        rw [List.set_set] at e4 s4
        refine ⟨_, _, [some (.ref s), some (.int many), some (.int most), some (.int (2 + r1)), some (ec (c ++ [q])), some (ep one), some (.bl (decide (r3 = 0))), some (.int i)], M.set s (srcM a4 b4), rfl, ?_, c ++ [q], _, a4, b4, rfl, by simp [hc], fun p hp' => ?_, rfl, y1, y2, y3⟩
        · simp [h0, z1, ec, e4]
          rw [if_pos (by omega)]
          simp
        · rcases List.mem_append.mp hp' with z | z
          · exact hp p z
          · rw [List.mem_singleton.mp z]; exact hq)
  obtain ⟨δ', M', e4, c, x, a, b, rfl, hc, hp, rfl, ha, hb, hb2⟩ := loop
  refine ⟨ec c, a, b, ⟨c, rfl, ⟨⟨by omega, by omega⟩, fun p h => (hp p h).1⟩, by omega, fun p h => (hp p h).2⟩, ha, hb, hb2, ?_⟩
  unfold f__law_drawn_circle fnOf
  have z0 : 0 ≤ sizeLine := by decide
  simp [d__law_drawn_circle, e1, e2, e3, e4, -e_dIf]
  exact gc_set0 rfl (below_map (fun _ => rfl) _)
def smallP (p : P3) : P3 := (p.1, p.2.1, 1 + p.2.2 % 2)
theorem small_ok {s : Nat} {M : Mem} {x : Nat} (h : okS M s) :
    ∃ c a b, Qk c ∧ 0 ≤ a ∧ 0 ≤ b ∧ b < 2 ^ 40 ∧ ∀ x0 x1 x3 x4 x5 x6 x7 x8 x9 x10 x11 x12 x13 x14 x15 x16 : Option D, ∃ G, (dBlt oToTup (aCons (dLc [12] (dSeqSrc (dCall f__law_drawn_circle 3 (aCons (dVar 2) (aCons (dC (.int 3)) (aCons (dC (.int 4)) aNil))))) (gNm 12) (tTrue) (dBin oAdd (dSl (dVar 12) dNoP (dPart (dC (.int 2)))) (dTup (aCons (dBin oAdd (dC (.int 1)) (dBin oMod (dBin oIx (dVar 12) (dC (.int 2))) (dC (.int 2)))) aNil)))) aNil)) [x0, x1, some (.ref s), x3, x4, x5, x6, x7, x8, x9, x10, x11, x12, x13, x14, x15, x16] M = .ok (ec c) (M.set s (srcM a b) ++ G) := by
  have hz : sizeLine = 16777216 := sizeLine_val
  obtain ⟨_, a, b, ⟨c, rfl, hc, hn, hb⟩, e, s1, q1, q2, q3⟩ := dr_next (drawn_circle_okB (many := 3) (most := 4) (B := 4) h (by omega) (by omega) (by omega) (by omega) (by omega) (by omega)) h.lt
  have n3 : c.length ≤ 3 := by omega
  have okp : ∀ p ∈ c.map smallP, okP p ∧ (p.1 ≤ 4 ∧ p.2.1 ≤ 4) ∧ 1 ≤ p.2.2 ∧ p.2.2 ≤ 2 := fun p hp => by
    obtain ⟨q, hq, rfl⟩ := List.mem_map.mp hp
    obtain ⟨o1, o2, _⟩ := hc.2 q hq
    obtain ⟨b1, b2⟩ := hb q hq
    have : 0 ≤ q.2.2 % 2 ∧ q.2.2 % 2 < 2 := ⟨Int.emod_nonneg _ (by decide), Int.emod_lt_of_pos _ (by decide)⟩
    refine ⟨⟨o1, o2, ?_, ?_⟩, ⟨b1, b2⟩, ?_, ?_⟩ <;> show _ ≤ _ <;> unfold smallP <;> dsimp only <;> omega
  have c2 := hc.1.1
  refine ⟨c.map smallP, a, b, ⟨⟨⟨by rw [List.length_map]; omega, by rw [List.length_map]; omega⟩, fun p hp => (okp p hp).1⟩, ⟨by rw [List.length_map]; exact n3, fun p hp => (okp p hp).2.2⟩, fun p hp => (okp p hp).2.1⟩, q1, q2, q3, fun x0 x1 x3 x4 x5 x6 x7 x8 x9 x10 x11 x12 x13 x14 x15 x16 => ?_⟩
  generalize M.set s (srcM a b) = M1 at e s1
  have lc := lc1_ok (c := c) (i := 12) (f := fun p => ep (smallP p)) (te := (dBin oAdd (dSl (dVar 12) dNoP (dPart (dC (.int 2)))) (dTup (aCons (dBin oAdd (dC (.int 1)) (dBin oMod (dBin oIx (dVar 12) (dC (.int 2))) (dC (.int 2)))) aNil)))) (δ := [x0, x1, some (.ref s), x3, x4, x5, x6, x7, x8, x9, x10, x11, x12, x13, x14, x15, x16]) (M := M) (M1 := M1) (src := dSeqSrc (dCall f__law_drawn_circle 3 (aCons (dVar 2) (aCons (dC (.int 3)) (aCons (dC (.int 4)) aNil))))) (by show c.length ≤ 100000; omega) (dSeqSrc_tup (by simp [e]; rfl)) fun p hp acc => by
    have sl : ∀ M, oSl (ep p) none (some 2) M = some (.tup [.int p.1, .int p.2.1], M) := fun M => by
      show oSl (.tup _) none (some ((2 : Nat) : Int)) M = _
      rw [oSl_tup, cutD_to]
      rfl
    have i2 : ∀ M, oIx (ep p) (.int 2) M = some (.int p.2.2, M) := fun M => by simp [ep]
    have md : ∀ M, oMod (.int p.2.2) (.int 2) M = some (.int (p.2.2 % 2), M) := fun M => oMod_int (by decide)
    simp [wipeD, sl, i2, md, hz, partK]
    rfl
  refine ⟨[.lst (c.map fun p => ep (smallP p))], ?_⟩
  have tt : oToTup [.ref M1.length] (M1 ++ [.lst (c.map fun p => ep (smallP p))]) = some (ec (c.map smallP), M1 ++ [.lst (c.map fun p => ep (smallP p))]) := by
    rw [oToTup_ref, seqOf_end rfl]
    unfold ec
    rw [List.map_map]
    rfl
  rw [e_dBlt, e_aCons, lc]
  simp [tt]
end Lw
namespace Lw
open PySem Pd Hr
/-! ### refusals -/
theorem need_filling_non {c : List P3} (M : Mem) : f_need_filling [ec c, .non] M = .exc ⟨"InvalidFilling", []⟩ M := by
  have ir : f_is_right_filling [ec c, .non] M = .ok (.bl false) M := by
    unfold f_is_right_filling fnOf
    simp [d_is_right_filling]
  unfold f_need_filling fnOf
  simp [d_need_filling, ir]
theorem round_circ {d e : D} {M : Mem} (h : f_is_right_circle [d] M = .ok (.bl false) M) : f_round_of [d, e] M = .exc ⟨"InvalidCircle", []⟩ M := by
  have := need_circle_no M h
  unfold f_round_of fnOf
  simp [d_round_of, this]
theorem round_fill {c : List P3} (hc : okC c) (M : Mem) : f_round_of [ec c, .non] M = .exc ⟨"InvalidFilling", []⟩ M := by
  have a := need_circle_ok hc M
  have b := need_filling_non (c := c) M
  unfold f_round_of fnOf
  simp [d_round_of, a, b]
theorem longest_circ {d e : D} {M : Mem} (h : f_is_right_circle [d] M = .ok (.bl false) M) : f_longest_lead [d, e] M = .exc ⟨"InvalidCircle", []⟩ M := by
  have := need_circle_no M h
  unfold f_longest_lead fnOf
  simp [d_longest_lead, this]
theorem longest_many {e : D} {M : Mem} : f_longest_lead [ec (List.replicate 5 (1, 1, 3)), e] M = .exc ⟨"InvalidCircle", []⟩ M := by
  have ok : okC (List.replicate 5 ((1, 1, 3) : P3)) := by
    refine ⟨by simp, fun p hp => ?_⟩
    have := List.eq_of_mem_replicate hp
    subst this
    show (1 ≤ (1 : Int) ∧ (1 : Int) ≤ 9) ∧ (1 ≤ (1 : Int) ∧ (1 : Int) ≤ 9) ∧ 1 ≤ (3 : Int) ∧ (3 : Int) ≤ 3
    omega
  have a := need_circle_ok ok M
  have b := count_fillings_ok (c := List.replicate 5 ((1, 1, 3) : P3)) (by simp) (fun p hp => by
    have := List.eq_of_mem_replicate hp
    subst this
    show 0 ≤ (3 : Int) ∧ (3 : Int) ≤ 3
    omega) M
  rw [show (List.replicate 5 ((1, 1, 3) : P3)).foldl (fun a p => a * (p.2.2 + 1)) (1 : Int) = 1024 by decide +kernel] at b
  generalize ec (List.replicate 5 (1, 1, 3)) = cc at a b
  unfold f_longest_lead fnOf
  simp [d_longest_lead, a, b]
theorem longest_num {c : List P3} (h : Qk c) {d : D} {M : Mem} (hd : f_is_within [d, .int 0, .int 1000000000000000000000000000000] M = .ok (.bl false) M) : f_longest_lead [ec c, d] M = .exc ⟨"InvalidNumber", []⟩ M := by
  have a := need_circle_ok h.ok M
  obtain ⟨n, cn, n3⟩ := count_small h M
  have b := need_number_no M hd
  have g : decide ((300 : Int) < n) = false := decide_eq_false (by omega)
  unfold f_longest_lead fnOf
  simp [d_longest_lead, a, b, cn, g]
theorem odd_num {c : List P3} (h : Qk c) {d : D} (hd : d ∈ [D.int (-1), .int (handsI c + 1), .bl true, .non, .str "0"]) (M : Mem) : f_longest_lead [ec c, d] M = .exc ⟨"InvalidNumber", []⟩ M := by
  simp only [List.mem_cons, List.not_mem_nil, or_false] at hd
  rcases hd with e | e | e | e | e <;> subst e
  · exact longest_num h (by rw [is_within_int]; rfl)
  · have := sums_6 h.sml
    have t : (7 : Int) ≤ 10 ^ 30 := by decide
    exact longest_lead_no h (by omega) (Int.le_trans (by omega) t) (by omega) M
  · exact longest_num h (is_within_no (t := "bool") _ _ _ rfl (by simp))
  · exact longest_num h (is_within_no (t := "NoneType") _ _ _ rfl (by simp))
  · exact longest_num h (is_within_no (t := "str") _ _ _ rfl (by simp))
/-! ### the law -/
theorem due_ok {c : List P3} {f : List Int} {l m fr : Nat} {M : Mem} {x0 x1 x2 x3 x4 x5 x6 x10 x11 x12 x13 x14 x15 x16 : Option D} (hl : l ≤ m) (hm : m ≤ 10000000) (hs : seqOf M fr = some (gvs c f m)) :
    ∃ G, (dTup (aCons (dVar 8) (aCons (dVar 9) (aCons (dBlt oLen (aCons (dLc [10] (dSeqSrc (dSl (dVar 7) (dPart (dVar 8)) dNoP)) (gNm 10) (tV (dBin oIn (dC (.int 0)) (dVar 10))) (dC (.int 1))) aNil)) aNil)))) [x0, x1, x2, x3, x4, x5, x6, some (.ref fr), some (.int l), some (.int ((m : Int) - l)), x10, x11, x12, x13, x14, x15, x16] M = .ok (.tup [.int l, .int ((m : Int) - l), .int ((N c f 0 m - N c f 0 l : Nat) : Int)]) (M ++ G) := by
  have hz : sizeLine = 16777216 := sizeLine_val
  have hgl : ((gvs c f m).drop l).length ≤ m := by rw [List.length_drop, gvs_len]; omega
  have src : dSeqSrc (dSl (dVar 7) (dPart (dVar 8)) dNoP) [x0, x1, x2, x3, x4, x5, x6, some (.ref fr), some (.int l), some (.int ((m : Int) - l)), x10, x11, x12, x13, x14, x15, x16] M = .ok (.live M.length) (M ++ [.lst ((gvs c f m).drop l)]) :=
    dSeqSrc_lst (src_from (v := 7) (w := 8) rfl rfl hs) (seqOf_end rfl)
  have inner : dLc [10] (dSeqSrc (dSl (dVar 7) (dPart (dVar 8)) dNoP)) (gNm 10) (tV (dBin oIn (dC (.int 0)) (dVar 10))) (dC (.int 1)) [x0, x1, x2, x3, x4, x5, x6, some (.ref fr), some (.int l), some (.int ((m : Int) - l)), x10, x11, x12, x13, x14, x15, x16] M = .ok (.ref (M.length + 1)) (M ++ [.lst ((gvs c f m).drop l)] ++ [.lst ((((gvs c f m).drop l).filter (isI 0)).map fun _ => D.int 1)]) := by
    rw [dLc_live (n := M.length) (M1 := M ++ [.lst ((gvs c f m).drop l)]) (l := (gvs c f m).drop l) (isI 0) (fun _ => .int 1) src (seqOf_end rfl) (by omega) fun d hd acc => ?_, List.length_append]
    · rfl
    · unfold gvs at hd
      rw [← List.map_drop] at hd
      obtain ⟨u, _, rfl⟩ := List.mem_map.mp hd
      have i0 := fun M => inI_eg 0 (giversL (runL c f u)) M
      exact ⟨_, rfl, by simp [wipeD]; exact congrArg (fun z => (ofV z).bind tvK) (i0 _) |>.trans (by simp), fun _ => by simp⟩
  have ct := gvs_count c f 0 hl (fun _ => D.int 1)
  have ln : oLen [.ref (M.length + 1)] (M ++ [.lst ((gvs c f m).drop l)] ++ [.lst ((((gvs c f m).drop l).filter (isI 0)).map fun _ => D.int 1)]) = some (.int ((N c f 0 m - N c f 0 l : Nat) : Int), M ++ [.lst ((gvs c f m).drop l)] ++ [.lst ((((gvs c f m).drop l).filter (isI 0)).map fun _ => D.int 1)]) := by
    rw [oLen_lst (seqOf_end (by rw [List.length_append]; rfl)), ct]
  have bl : dBlt oLen (aCons (dLc [10] (dSeqSrc (dSl (dVar 7) (dPart (dVar 8)) dNoP)) (gNm 10) (tV (dBin oIn (dC (.int 0)) (dVar 10))) (dC (.int 1))) aNil) [x0, x1, x2, x3, x4, x5, x6, some (.ref fr), some (.int l), some (.int ((m : Int) - l)), x10, x11, x12, x13, x14, x15, x16] M = .ok (.int ((N c f 0 m - N c f 0 l : Nat) : Int)) (M ++ ([.lst ((gvs c f m).drop l)] ++ [.lst ((((gvs c f m).drop l).filter (isI 0)).map fun _ => D.int 1)])) := by
    rw [e_dBlt, e_aCons, inner]
    simp only [bind_ok, e_aNil, ln, ofV_some]
    rw [List.append_assoc]
  exact ⟨_, by simp [-e_dBlt, bl, hz]; rfl⟩
theorem pln_ef (f : List Int) : pln 1 (ef f) = true := pln_il f
theorem pln_eB (o : Option (Nat × List Int)) : pln 2 (eB o) = true := by
  cases o with
  | none => rfl
  | some p =>
    show (pln 1 (.int p.1) && (pln 1 (ef p.2) && true)) = true
    rw [pln_ef]
    rfl
theorem ne_eB (o : Option (Nat × List Int)) (M : Mem) : oNe (eB o) (eB o) M = some (.bl false, M) := by
  rw [oNe_pln (pln_eB o) (pln_eB o) (by decide) (by decide), deq_refl]
  rfl
theorem ne_int3 (a b c : Int) (M : Mem) : oNe (.tup [.int a, .int b, .int c]) (.tup [.int a, .int b, .int c]) M = some (.bl false, M) := by
  rw [oNe_pln (n := 1) (m := 1) rfl rfl (by decide) (by decide), deq_refl]
  rfl
def threeC : List P3 := [(2, 1, 1), (1, 1, 1), (3, 1, 1)]
theorem okC_three : okC threeC := by
  show _ ∧ _
  unfold threeC
  decide
theorem qk_three : Qk threeC := ⟨okC_three, ⟨by decide, by unfold threeC; decide⟩, by unfold threeC; decide⟩
theorem lead_by {c : List P3} {f : List Int} {m l : Nat} (h1 : l < m) (h2 : runL c f m = runL c f l) (h3 : ∀ b, b < m → ∀ a, a < b → runL c f a ≠ runL c f b) : leadF c f = l :=
  leadF_eq (ld_run (u := 0) h1 h2 fun a b ha hb => h3 b hb a ha)
theorem three_best : bestL threeC (fills threeC 2) = some (1, [1, 0, 1]) := by
  have e : fills threeC 2 = [[0, 1, 1], [1, 0, 1], [1, 1, 0]] := by decide +kernel
  have l1 : leadF threeC [0, 1, 1] = 0 := lead_by (m := 4) (l := 0) (by decide) (by decide +kernel) (by decide +kernel)
  have l2 : leadF threeC [1, 0, 1] = 1 := lead_by (m := 5) (l := 1) (by decide) (by decide +kernel) (by decide +kernel)
  have l3 : leadF threeC [1, 1, 0] = 1 := lead_by (m := 5) (l := 1) (by decide) (by decide +kernel) (by decide +kernel)
  rw [e]
  unfold bestL
  simp [bestS, l1, l2, l3]
end Lw
namespace Lw
open PySem Pd Hr
theorem final : ∀ ns : List Int, ns.length ≤ 63 → (∀ z ∈ ns, Builtin.Int.intBits z ≤ 1048576) → ∀ m, (m = MO.lst (ns.map .int) ∨ m = MO.fz (ns.map .int)) → ∃ M', f_law [.ref 0] [m] = .ok (.bl true) M' := fun ns hl _ m hm => by
  have hs : seqOf [m] 0 = some (ns.map .int) := by
    rcases hm with e | e <;> subst e <;> rfl
  have hz : sizeLine = 16777216 := sizeLine_val
  obtain ⟨n, hn⟩ : ∃ n : Nat, (if (if (ns.length : Int) < 14 then (ns.length : Int) else 14) > 5 then (if (ns.length : Int) < 14 then (ns.length : Int) else 14) else 5) = n := ⟨(if (if (ns.length : Int) < 14 then (ns.length : Int) else 14) > 5 then (if (ns.length : Int) < 14 then (ns.length : Int) else 14) else 5).toNat, by split <;> split <;> omega⟩
  have hn2 : n < 100 := by
    have : (n : Int) ≤ 14 := by rw [← hn]; split <;> split <;> omega
    omega
  show ∃ M', gcR [m] (toR (d_law [some (.ref 0), none, none, none, none, none, none, none, none, none, none, none, none, none, none, none, none] [m])) = _
  refine wp_to (r := d_law [some (.ref 0), none, none, none, none, none, none, none, none, none, none, none, none, none, none, none, none] [m]) (Q := fun r => ∃ M', gcR [m] (toR r) = .ok (.bl true) M') ?_
  unfold d_law
  rw [e_sSeq]
  refine wp_rng n (fun _ δ M => (∃ x1 x2 x3 x4 x5 x6 x7 x8 x9 x10 x11 x12 x13 x14 x15 x16, δ = [some (.ref 0), x1, x2, x3, x4, x5, x6, x7, x8, x9, x10, x11, x12, x13, x14, x15, x16]) ∧ seqOf M 0 = some (ns.map .int)) ⟨_, dRng1_ok (M1 := [m]) (j := n) (by simp [oLen_lst hs]; simpa using hn) (by omega), ⟨_, _, _, _, _, _, _, _, _, _, _, _, _, _, _, _, rfl⟩, hs⟩ ?_ ?_
  · rintro i hi δ M ⟨⟨x1, x2, x3, x4, x5, x6, x7, x8, x9, x10, x11, x12, x13, x14, x15, x16, rfl⟩, hq⟩
    have h0 : 0 < M.length := seqOf_lt hq
    obtain ⟨a, b, ha, hb, hb2, e1⟩ := source_ok hq i (by omega)
    have s1 : okS (M ++ [srcM a b]) M.length := ⟨a, b, lstOf_end rfl, ha, hb, hb2⟩
    have hq1 : seqOf (M ++ [srcM a b]) 0 = some (ns.map .int) := seqOf_app _ hq
    simp only [e_gNm, onG_some, List.set, e_sSeq]
    refine wp_next (s_asg (d := .ref M.length) (M1 := M ++ [srcM a b]) (by simp [e1])) ?_
    simp only [List.set, e_sSeq]
    generalize M ++ [srcM a b] = M1 at s1 hq1
    generalize hsrc : M.length = s at s1
    have hs0 : 0 < s := by omega
    refine wp_rng 3 (fun t δ M => (∃ x3 x4 x5 x6 x7 x8 x9 x10 x11 x12 x13 x14 x15 x16, δ = [some (.ref 0), some (.int i), some (.ref s), x3, x4, x5, x6, x7, x8, x9, x10, x11, x12, x13, x14, x15, x16] ∧ (t = 0 ∨ ∃ c, x4 = some (ec c) ∧ okC c)) ∧ seqOf M 0 = some (ns.map .int) ∧ okS M s) ⟨_, dRng1_ok (M1 := M1) (j := 3) (by simp) (by omega), ⟨_, _, _, _, _, _, _, _, _, _, _, _, _, _, rfl, .inl rfl⟩, hq1, s1⟩ ?_ ?_
    · rintro u hu δ M2 ⟨⟨x3, x4, x5, x6, x7, x8, x9, x10, x11, x12, x13, x14, x15, x16, rfl, _⟩, hq2, s2⟩
      obtain ⟨_, a2, b2, ⟨c, rfl, hc, _⟩, e2, s3, q1, q2, q3⟩ := dr_next (drawn_circle_ok (many := 5) (most := 6) s2 (by omega) (by omega) (by omega) (by omega)) s2.lt
      have hq3 : seqOf (M2.set s (srcM a2 b2)) 0 = some (ns.map .int) := by rw [seqOf_set_ne (by omega)]; exact hq2
      generalize M2.set s (srcM a2 b2) = M3 at e2 s3 hq3
      obtain ⟨_, a3, b3, ⟨f, rfl, hf⟩, e3, s4, q4, q5, q6⟩ := dr_next (drawn_filling_ok s3 hc) s3.lt
      have hq4 : seqOf (M3.set s (srcM a3 b3)) 0 = some (ns.map .int) := by rw [seqOf_set_ne (by omega)]; exact hq3
      generalize M3.set s (srcM a3 b3) = M4 at e3 s4 hq4
      have cf := okCF_of hc hf
      obtain ⟨m, l, G, sr, fr, hlm, hm7, er, dis, e4, sS, sF⟩ := till_again_ok cf hc.sm hc.h1 hc.h9 M4
      have hq5 : seqOf (M4 ++ G) 0 = some (ns.map .int) := seqOf_app _ hq4
      have s5 : okS (M4 ++ G) s := s4.app
      generalize M4 ++ G = M5 at e4 sS sF hq5 s5
      have ro := fun M => round_of_ok hc hf hlm hm7 er dis M
      simp only [e_gNm, onG_some, List.set, e_sSeq]
      refine wp_next (s_asg (d := ec c) (M1 := M3) (by simp [e2])) ?_
      simp only [List.set, e_sSeq]
      refine wp_next (s_asg (d := ef f) (M1 := M4) (by simp [e3])) ?_
      simp only [List.set, e_sSeq]
      refine wp_next (δ := [some (.ref 0), some (.int i), some (.ref s), some (.int u), some (ec c), some (ef f), some (.ref sr), some (.ref fr), some (.int l), some (.int ((m : Int) - l)), x10, x11, x12, x13, x14, x15, x16]) (M := M5) (by simp [e4]) ?_
      rw [e_sSeq]
      obtain ⟨G2, e5⟩ := due_ok (x0 := some (.ref 0)) (x1 := some (.int i)) (x2 := some (.ref s)) (x3 := some (.int u)) (x4 := some (ec c)) (x5 := some (ef f)) (x6 := some (.ref sr)) (x10 := x10) (x11 := x11) (x12 := x12) (x13 := x13) (x14 := x14) (x15 := x15) (x16 := x16) (Nat.le_of_lt hlm) hm7 sF
      have hq6 : seqOf (M5 ++ G2) 0 = some (ns.map .int) := seqOf_app _ hq5
      have s6 : okS (M5 ++ G2) s := s5.app
      generalize M5 ++ G2 = M6 at e5 hq6 s6
      refine wp_next (s_asg e5) ?_
      simp only [List.set]
      generalize ((N c f 0 m - N c f 0 l : Nat) : Int) = k at ro
      have ne := ne_int3 (l : Int) ((m : Int) - l) k
      rw [e_sSeq, s_if (t := false) (M1 := M6) (by simp [ro, ne]), if_neg Bool.false_ne_true, e_sNil, seqK_nx, e_sNil, step_nx]
      exact ⟨⟨_, _, _, _, _, _, _, _, _, _, _, _, _, _, rfl, .inr ⟨c, rfl, hc⟩⟩, hq6, s6⟩
    · rintro δ M2 ⟨⟨x3, x4, x5, x6, x7, x8, x9, x10, x11, x12, x13, x14, x15, x16, rfl, hx⟩, hq2, s2⟩
      obtain ⟨c, rfl, hc⟩ : ∃ c, x4 = some (ec c) ∧ okC c := by
        rcases hx with e | h
        · omega
        · exact h
      obtain ⟨sm, a2, b2, hsm, q1, q2, q3, e2⟩ := small_ok (x := 0) s2
      obtain ⟨G, e2⟩ := e2 (some (.ref 0)) (some (.int i)) x3 (some (ec c)) x5 x6 x7 x8 x9 x10 x11 x12 x13 x14 x15 x16
      have hq3 : seqOf (M2.set s (srcM a2 b2) ++ G) 0 = some (ns.map .int) := by refine seqOf_app _ ?_; rw [seqOf_set_ne (by omega)]; exact hq2
      have s3 : okS (M2.set s (srcM a2 b2) ++ G) s := (okS.set s2.lt q1 q2 q3).app
      generalize M2.set s (srcM a2 b2) ++ G = M3 at e2 hq3 s3
      have h6 := sums_6 hsm.sml
      have sf : few sm := by have := hsm.sml.n3; show sm.length ≤ 100000; omega
      have ah := fun M => all_hands_ok sf M
      obtain ⟨_, a3, b3, ⟨bk, rfl, bk0, bk1⟩, e3, s4, _⟩ := dr_next (pick_ok (n := handsI sm + 1) s3 (by omega) (by omega)) s3.lt
      have hq4 : seqOf (M3.set s (srcM a3 b3)) 0 = some (ns.map .int) := by rw [seqOf_set_ne (by omega)]; exact hq3
      generalize M3.set s (srcM a3 b3) = M4 at e3 s4 hq4
      have ll := fun M => longest_lead_ok hsm bk0 (by omega : bk ≤ handsI sm) M
      have lw := fun M => law_longest_ok hsm bk0 (by omega : bk ≤ handsI sm) M
      have neB := fun M => ne_eB (bestL sm (fills sm bk)) M
      rw [e_sSeq]
      refine wp_next (s_asg e2) ?_
      simp only [List.set, e_sSeq]
      refine wp_next (s_asg (d := .int bk) (M1 := M4) (by simp [ah, e3])) ?_
      simp only [List.set, e_sSeq]
      generalize eB (bestL sm (fills sm bk)) = bb at ll lw neB
      rw [s_if (t := false) (M1 := M4) (by simp [ll, lw, neB]), if_neg Bool.false_ne_true, e_sNil, seqK_nx, e_sSeq]
      -- numbers that are none
      obtain ⟨r, hr⟩ : ∃ r, M4.length = r := ⟨_, rfl⟩
      have src : dSeqSrc (dLst (aCons (dUn oNeg (dC (.int 1))) (aCons (dBin oAdd (dCall f__law_all_hands 1 (aCons (dVar 13) aNil)) (dC (.int 1))) (aCons (dC (.bl true)) (aCons (dC .non) (aCons (dC (.str "0")) aNil)))))) [some (.ref 0), some (.int i), some (.ref s), x3, some (ec c), x5, x6, x7, x8, x9, x10, x11, x12, some (ec sm), some (.int bk), x15, x16] M4 = .ok (.live r) (M4 ++ [.lst [.int (-1), .int (handsI sm + 1), .bl true, .non, .str "0"]]) :=
        dSeqSrc_lst (by simp [ah, hz, hr]) (seqOf_end hr.symm)
      have hq5 : seqOf (M4 ++ [.lst [.int (-1), .int (handsI sm + 1), .bl true, .non, .str "0"]]) 0 = some (ns.map .int) := seqOf_app _ hq4
      have lr : seqOf (M4 ++ [.lst [.int (-1), .int (handsI sm + 1), .bl true, .non, .str "0"]]) r = some [.int (-1), .int (handsI sm + 1), .bl true, .non, .str "0"] := seqOf_end hr.symm
      generalize M4 ++ [MO.lst [.int (-1), .int (handsI sm + 1), .bl true, .non, .str "0"]] = M5 at src hq5 lr
      refine wp_live r [.int (-1), .int (handsI sm + 1), .bl true, .non, .str "0"] (fun _ δ M' => (∃ x15, δ = [some (.ref 0), some (.int i), some (.ref s), x3, some (ec c), x5, x6, x7, x8, x9, x10, x11, x12, some (ec sm), some (.int bk), x15, x16]) ∧ M' = M5) (fun _ _ _ h => by rw [h.2]; exact lr) ⟨_, src, ⟨_, rfl⟩, rfl⟩ ?_ ?_
      · rintro j d hd δ M' ⟨⟨y15, rfl⟩, rfl⟩
        have o := odd_num hsm (List.mem_of_getElem? hd) M'
        have bt := by_two_exc g2_longest_lead o k_number
        have nes := ne_str (z := "number") (by decide +kernel) M'
        simp only [e_gNm, onG_some, List.set, e_sSeq]
        rw [s_if (t := false) (M1 := M') (by simp [bt, nes]), if_neg Bool.false_ne_true, e_sNil, seqK_nx, e_sNil, step_nx]
        exact ⟨⟨_, rfl⟩, rfl⟩
      · rintro δ M' ⟨⟨y15, rfl⟩, rfl⟩
        rw [e_sSeq]
        -- circles that are none
        obtain ⟨r2, hr2⟩ : ∃ r, M'.length = r := ⟨_, rfl⟩
        have sl : ∀ (c : List P3) M, oSl (ec c) none (some 1) M = some (.tup ((c.map ep).take 1), M) := fun c M => by
          show oSl (.tup _) none (some ((1 : Nat) : Int)) M = _
          rw [oSl_tup, cutD_to]
        have mu : ∀ M, oMul (.tup [.tup [.int 1, .int 1, .int 3]]) (.int 5) M = some (ec (List.replicate 5 (1, 1, 3)), M) := fun M => oMul_tup [.tup [.int 1, .int 1, .int 3]] 5 M (by decide) (by decide)
        have src2 : dSeqSrc (dLst (aCons (dC .non) (aCons (dSl (dVar 13) dNoP (dPart (dC (.int 1)))) (aCons (dBin oMul (dTup (aCons (dTup (aCons (dC (.int 1)) (aCons (dC (.int 1)) (aCons (dC (.int 3)) aNil)))) aNil)) (dC (.int 5))) aNil)))) [some (.ref 0), some (.int i), some (.ref s), x3, some (ec c), x5, x6, x7, x8, x9, x10, x11, x12, some (ec sm), some (.int bk), y15, x16] M' = .ok (.live r2) (M' ++ [.lst [.non, .tup ((sm.map ep).take 1), ec (List.replicate 5 (1, 1, 3))]]) :=
          dSeqSrc_lst (by simp [-List.replicate, sl, mu, hz, hr2]) (seqOf_end hr2.symm)
        have hq6 : seqOf (M' ++ [.lst [.non, .tup ((sm.map ep).take 1), ec (List.replicate 5 (1, 1, 3))]]) 0 = some (ns.map .int) := seqOf_app _ hq5
        have lr2 : seqOf (M' ++ [.lst [.non, .tup ((sm.map ep).take 1), ec (List.replicate 5 (1, 1, 3))]]) r2 = some [.non, .tup ((sm.map ep).take 1), ec (List.replicate 5 (1, 1, 3))] := seqOf_end hr2.symm
        generalize M' ++ [MO.lst [.non, .tup ((sm.map ep).take 1), ec (List.replicate 5 (1, 1, 3))]] = M6 at src2 hq6 lr2
        refine wp_live r2 [.non, .tup ((sm.map ep).take 1), ec (List.replicate 5 (1, 1, 3))] (fun _ δ M' => (∃ x15, δ = [some (.ref 0), some (.int i), some (.ref s), x3, some (ec c), x5, x6, x7, x8, x9, x10, x11, x12, some (ec sm), some (.int bk), x15, x16]) ∧ M' = M6) (fun _ _ _ h => by rw [h.2]; exact lr2) ⟨_, src2, ⟨_, rfl⟩, rfl⟩ ?_ ?_
        · rintro j d hd δ M'' ⟨⟨z15, rfl⟩, rfl⟩
          have o : f_longest_lead [d, .non] M'' = .exc ⟨"InvalidCircle", []⟩ M'' := by
            have hd' := List.mem_of_getElem? hd
            simp only [List.mem_cons, List.not_mem_nil, or_false] at hd'
            rcases hd' with e | e | e <;> subst e
            · exact longest_circ (is_right_circle_no (t := "NoneType") _ rfl (by simp))
            · exact longest_circ (is_right_circle_short _ (by rw [List.length_take]; omega))
            · exact longest_many
          have bt := by_two_exc g2_longest_lead o k_circle
          have nes := ne_str (z := "circle") (by decide +kernel) M''
          simp only [e_gNm, onG_some, List.set, e_sSeq]
          rw [s_if (t := false) (M1 := M'') (by simp [bt, nes]), if_neg Bool.false_ne_true, e_sNil, seqK_nx, e_sNil, step_nx]
          exact ⟨⟨_, rfl⟩, rfl⟩
        · rintro δ M'' ⟨⟨z15, rfl⟩, rfl⟩
          have o1 : f_round_of [.tup ((c.map ep).take 1), .non] M'' = .exc ⟨"InvalidCircle", []⟩ M'' := round_circ (is_right_circle_short _ (by rw [List.length_take]; omega))
          have b1 := by_two_exc g2_round_of o1 k_circle
          have b2 := by_two_exc g2_round_of (round_fill hc M'') k_filling
          have n1 := ne_str (z := "circle") (by decide +kernel) M''
          have n2 := ne_str (z := "filling") (by decide +kernel) M''
          rw [e_sSeq, s_if (t := false) (M1 := M'') (by simp [sl, b1, b2, n1, n2]), if_neg Bool.false_ne_true, e_sNil, seqK_nx, e_sNil, step_nx]
          exact ⟨⟨_, _, _, _, _, _, _, _, _, _, _, _, _, _, _, _, rfl⟩, hq6⟩
  · rintro δ M ⟨⟨x1, x2, x3, x4, x5, x6, x7, x8, x9, x10, x11, x12, x13, x14, x15, x16, rfl⟩, hq⟩
    have l1 := longest_lead_ok qk_three (b := 2) (by decide) (by decide +kernel) M
    rw [three_best] at l1
    have of0 : okF threeC [0, 0, 0] := by
      refine ⟨rfl, fun i hi => ?_⟩
      have : i < 3 := hi
      match i, this with
      | 0, _ => decide
      | 1, _ => decide
      | 2, _ => decide
    have r1 := round_of_ok okC_three of0 (m := 1) (l := 0) (by decide) (by decide) (by decide +kernel) (fun a b h1 h2 => by omega) M
    have k0 : ((N threeC [0, 0, 0] 0 1 - N threeC [0, 0, 0] 0 0 : Nat) : Int) = 0 := by decide +kernel
    rw [k0] at r1
    rw [e_sSeq]
    refine wp_next (s_asg (d := ec threeC) (M1 := M) (by simp [hz]; rfl)) ?_
    simp only [List.set]
    have r1 : f_round_of [ec threeC, .tup [.int 0, .int 0, .int 0]] M = .ok (.tup [.int 0, .int 1, .int 0]) M := r1
    have l1 : f_longest_lead [ec threeC, .int 2] M = .ok (.tup [.int 1, .tup [.int 1, .int 0, .int 1]]) M := l1
    generalize ec threeC = cc at r1 l1
    have q1 : oEq (.tup [.int 1, .tup [.int 1, .int 0, .int 1]]) (.tup [.int 1, .tup [.int 1, .int 0, .int 1]]) M = some (.bl true, M) := by
      rw [oEq_pln (n := 2) (m := 2) rfl rfl (by decide) (by decide), deq_refl]
    have q2 : oEq (.tup [.int 0, .int 1, .int 0]) (.tup [.int 0, .int 1, .int 0]) M = some (.bl true, M) := by
      rw [oEq_pln (n := 2) (m := 2) rfl rfl (by decide) (by decide), deq_refl]
    rw [e_sSeq]
    refine wp_ret (d := .bl true) (M := M) (s_ret (by simp [hz, l1, r1, q1, q2])) ?_
    exact wp_of (gc_some [m] _ true)
end Lw
namespace Lw
noncomputable section
open PySem PySem.Spec PyProof.Rows L2 Pd
theorem chain {w : World} {K : PySem.W.Frag} {h base : Heap} {mg : Str → Option Value} (X : K.In h) (Gn : h.Ns mainGlobals mg) (c : He.SaysD fa fnl K) (hx : ex K = true) (TBs : ∀ p ∈ tf, LamX.TabB base mg (He.cT K p).1 (He.cT K p).2)
    {fd_law0 : FuncData} (F_law0 : FunD K "law" "law" (defArgs s_law) (defBody s_law) (defScope s_law) [] [] (He.ga K "law") fd_law0) : FnOk prg w K mg base (L2N.CX prg w) 37 (He.ga K "law") fd_law0 ["_law_script"] (spOf ⟨K, mg, tabsT tf K, w⟩ 1 f_law) := by
  have g0 : GAll (tabsT tf K) 0 prg w K mg base G0 := sf_ok X Gn c sfs fun s hs f hf => List.mem_append_left _ (List.mem_flatMap.mpr ⟨s, hs, hf⟩)
  have m_is_within : mg "is_within" = some (.ref (He.ga K "is_within")) := He.glo_ok X Gn (c.fact 31 (f := .glo "is_within") rfl)
  obtain ⟨fd_is_within, F_is_within⟩ := c.def_ 0 (d := dfn "is_within" s_is_within) rfl
  have g1 : GAll (tabsT tf K) 1 prg w K mg base G1 := g0.add (by decide) (fn_ok F_is_within sc_is_within g0 m_is_within k_is_within (fun _ _ _ _ _ _ us hl => match us, hl with | [_, _, _], _ => rfl))
  have m_is_right_person : mg "is_right_person" = some (.ref (He.ga K "is_right_person")) := He.glo_ok X Gn (c.fact 32 (f := .glo "is_right_person") rfl)
  obtain ⟨fd_is_right_person, F_is_right_person⟩ := c.def_ 1 (d := dfn "is_right_person" s_is_right_person) rfl
  have g2 : GAll (tabsT tf K) 2 prg w K mg base G2 := g1.add (by decide) (fn_ok F_is_right_person sc_is_right_person g1 m_is_right_person k_is_right_person (fun _ _ _ _ _ _ us hl => match us, hl with | [_], _ => rfl))
  have m_are_people : mg "are_people" = some (.ref (He.ga K "are_people")) := He.glo_ok X Gn (c.fact 33 (f := .glo "are_people") rfl)
  obtain ⟨fd_are_people, F_are_people⟩ := c.def_ 2 (d := dfn "are_people" s_are_people) rfl
  have g3 : GAll (tabsT tf K) 3 prg w K mg base G3 := g2.add (by decide) (fn_ok F_are_people sc_are_people g2 m_are_people k_are_people (fun _ _ _ _ _ _ us hl => match us, hl with | [_, _, _], _ => rfl))
  have m_is_right_circle : mg "is_right_circle" = some (.ref (He.ga K "is_right_circle")) := He.glo_ok X Gn (c.fact 34 (f := .glo "is_right_circle") rfl)
  obtain ⟨fd_is_right_circle, F_is_right_circle⟩ := c.def_ 3 (d := dfn "is_right_circle" s_is_right_circle) rfl
  have g4 : GAll (tabsT tf K) 4 prg w K mg base G4 := g3.add (by decide) (fn_ok F_is_right_circle sc_is_right_circle g3 m_is_right_circle k_is_right_circle (fun _ _ _ _ _ _ us hl => match us, hl with | [_], _ => rfl))
  have m_is_right_filling : mg "is_right_filling" = some (.ref (He.ga K "is_right_filling")) := He.glo_ok X Gn (c.fact 35 (f := .glo "is_right_filling") rfl)
  obtain ⟨fd_is_right_filling, F_is_right_filling⟩ := c.def_ 4 (d := dfn "is_right_filling" s_is_right_filling) rfl
  have g5 : GAll (tabsT tf K) 5 prg w K mg base G5 := g4.add (by decide) (fn_ok F_is_right_filling sc_is_right_filling g4 m_is_right_filling k_is_right_filling (fun _ _ _ _ _ _ us hl => match us, hl with | [_, _], _ => rfl))
  have m_need_circle : mg "need_circle" = some (.ref (He.ga K "need_circle")) := He.glo_ok X Gn (c.fact 36 (f := .glo "need_circle") rfl)
  obtain ⟨fd_need_circle, F_need_circle⟩ := c.def_ 5 (d := dfn "need_circle" s_need_circle) rfl
  have g6 : GAll (tabsT tf K) 6 prg w K mg base G6 := g5.add (by decide) (fn_ok F_need_circle sc_need_circle g5 m_need_circle k_need_circle (fun _ _ _ _ _ _ us hl => match us, hl with | [_], _ => rfl))
  have m_need_filling : mg "need_filling" = some (.ref (He.ga K "need_filling")) := He.glo_ok X Gn (c.fact 37 (f := .glo "need_filling") rfl)
  obtain ⟨fd_need_filling, F_need_filling⟩ := c.def_ 6 (d := dfn "need_filling" s_need_filling) rfl
  have g7 : GAll (tabsT tf K) 7 prg w K mg base G7 := g6.add (by decide) (fn_ok F_need_filling sc_need_filling g6 m_need_filling k_need_filling (fun _ _ _ _ _ _ us hl => match us, hl with | [_, _], _ => rfl))
  have m_need_number : mg "need_number" = some (.ref (He.ga K "need_number")) := He.glo_ok X Gn (c.fact 38 (f := .glo "need_number") rfl)
  obtain ⟨fd_need_number, F_need_number⟩ := c.def_ 7 (d := dfn "need_number" s_need_number) rfl
  have g8 : GAll (tabsT tf K) 8 prg w K mg base G8 := g7.add (by decide) (fn_ok F_need_number sc_need_number g7 m_need_number k_need_number (fun _ _ _ _ _ _ us hl => match us, hl with | [_, _, _], _ => rfl))
  have m_first_standing : mg "first_standing" = some (.ref (He.ga K "first_standing")) := He.glo_ok X Gn (c.fact 39 (f := .glo "first_standing") rfl)
  obtain ⟨fd_first_standing, F_first_standing⟩ := c.def_ 8 (d := dfn "first_standing" s_first_standing) rfl
  have g9 : GAll (tabsT tf K) 9 prg w K mg base G9 := g8.add (by decide) (fn_ok F_first_standing sc_first_standing g8 m_first_standing k_first_standing (fun _ _ _ _ _ _ us hl => match us, hl with | [_, _], _ => rfl))
  have m_givers_of : mg "givers_of" = some (.ref (He.ga K "givers_of")) := He.glo_ok X Gn (c.fact 40 (f := .glo "givers_of") rfl)
  obtain ⟨fd_givers_of, F_givers_of⟩ := c.def_ 9 (d := dfn "givers_of" s_givers_of) rfl
  have g10 : GAll (tabsT tf K) 10 prg w K mg base G10 := g9.add (by decide) (fn_ok F_givers_of sc_givers_of g9 m_givers_of k_givers_of (fun _ _ _ _ _ _ us hl => match us, hl with | [_], _ => rfl))
  have m_later : mg "later" = some (.ref (He.ga K "later")) := He.glo_ok X Gn (c.fact 41 (f := .glo "later") rfl)
  obtain ⟨fd_later, F_later⟩ := c.def_ 10 (d := dfn "later" s_later) rfl
  have g11 : GAll (tabsT tf K) 11 prg w K mg base G11 := g10.add (by decide) (fn_ok F_later sc_later g10 m_later k_later (fun _ _ _ _ _ _ us hl => match us, hl with | [_, _, _], _ => rfl))
  have m_stepped : mg "stepped" = some (.ref (He.ga K "stepped")) := He.glo_ok X Gn (c.fact 42 (f := .glo "stepped") rfl)
  obtain ⟨fd_stepped, F_stepped⟩ := c.def_ 11 (d := dfn "stepped" s_stepped) rfl
  have g12 : GAll (tabsT tf K) 12 prg w K mg base G12 := g11.add (by decide) (fn_ok F_stepped sc_stepped g11 m_stepped k_stepped (fun _ _ _ _ _ _ us hl => match us, hl with | [_, _], _ => rfl))
  have m_walked : mg "walked" = some (.ref (He.ga K "walked")) := He.glo_ok X Gn (c.fact 43 (f := .glo "walked") rfl)
  obtain ⟨fd_walked, F_walked⟩ := c.def_ 12 (d := dfn "walked" s_walked) rfl
  have g13 : GAll (tabsT tf K) 13 prg w K mg base G13 := g12.add (by decide) (fn_ok F_walked sc_walked g12 m_walked k_walked (fun _ _ _ _ _ _ us hl => match us, hl with | [_, _], _ => rfl))
  have m_times_of : mg "times_of" = some (.ref (He.ga K "times_of")) := He.glo_ok X Gn (c.fact 44 (f := .glo "times_of") rfl)
  obtain ⟨fd_times_of, F_times_of⟩ := c.def_ 13 (d := dfn "times_of" s_times_of) rfl
  have g14 : GAll (tabsT tf K) 14 prg w K mg base G14 := g13.add (by decide) (fn_ok F_times_of sc_times_of g13 m_times_of k_times_of (fun _ _ _ _ _ _ us hl => match us, hl with | [_, _], _ => rfl))
  have m_fillings_of : mg "fillings_of" = some (.ref (He.ga K "fillings_of")) := He.glo_ok X Gn (c.fact 45 (f := .glo "fillings_of") rfl)
  obtain ⟨fd_fillings_of, F_fillings_of⟩ := c.def_ 14 (d := dfn "fillings_of" s_fillings_of) rfl
  have g15 : GAll (tabsT tf K) 15 prg w K mg base G15 := g14.add (by decide) (fn_ok F_fillings_of sc_fillings_of g14 m_fillings_of k_fillings_of (fun _ _ _ _ _ _ us hl => match us, hl with | [_, _], _ => rfl))
  have m_lead_from : mg "lead_from" = some (.ref (He.ga K "lead_from")) := He.glo_ok X Gn (c.fact 46 (f := .glo "lead_from") rfl)
  obtain ⟨fd_lead_from, F_lead_from⟩ := c.def_ 15 (d := dfn "lead_from" s_lead_from) rfl
  have g16 : GAll (tabsT tf K) 16 prg w K mg base G16 := g15.add (by decide) (fn_ok F_lead_from sc_lead_from g15 m_lead_from k_lead_from (fun _ _ _ _ _ _ us hl => match us, hl with | [_, _, _], _ => rfl))
  have m_count_fillings : mg "count_fillings" = some (.ref (He.ga K "count_fillings")) := He.glo_ok X Gn (c.fact 47 (f := .glo "count_fillings") rfl)
  obtain ⟨fd_count_fillings, F_count_fillings⟩ := c.def_ 16 (d := dfn "count_fillings" s_count_fillings) rfl
  have g17 : GAll (tabsT tf K) 17 prg w K mg base G17 := g16.add (by decide) (fn_ok F_count_fillings sc_count_fillings g16 m_count_fillings k_count_fillings (fun _ _ _ _ _ _ us hl => match us, hl with | [_], _ => rfl))
  have m_round_of : mg "round_of" = some (.ref (He.ga K "round_of")) := He.glo_ok X Gn (c.fact 48 (f := .glo "round_of") rfl)
  obtain ⟨fd_round_of, F_round_of⟩ := c.def_ 17 (d := dfn "round_of" s_round_of) rfl
  have g18 : GAll (tabsT tf K) 18 prg w K mg base G18 := g17.add (by decide) (fn_ok F_round_of sc_round_of g17 m_round_of k_round_of (fun _ _ _ _ _ _ us hl => match us, hl with | [_, _], _ => rfl))
  have m_longest_lead : mg "longest_lead" = some (.ref (He.ga K "longest_lead")) := He.glo_ok X Gn (c.fact 49 (f := .glo "longest_lead") rfl)
  obtain ⟨fd_longest_lead, F_longest_lead⟩ := c.def_ 18 (d := dfn "longest_lead" s_longest_lead) rfl
  have g19 : GAll (tabsT tf K) 19 prg w K mg base G19 := g18.add (by decide) (fn_ok F_longest_lead sc_longest_lead g18 m_longest_lead k_longest_lead (fun _ _ _ _ _ _ us hl => match us, hl with | [_, _], _ => rfl))
  have m__law_source : mg "_law_source" = some (.ref (He.ga K "_law_source")) := He.glo_ok X Gn (c.fact 50 (f := .glo "_law_source") rfl)
  obtain ⟨fd__law_source, F__law_source⟩ := c.def_ 19 (d := dfn "_law_source" s__law_source) rfl
  have g20 : GAll (tabsT tf K) 20 prg w K mg base G20 := g19.add (by decide) (fn_ok F__law_source sc__law_source g19 m__law_source k__law_source (fun _ _ _ _ _ _ us hl => match us, hl with | [_, _], _ => rfl))
  have m__law_pick : mg "_law_pick" = some (.ref (He.ga K "_law_pick")) := He.glo_ok X Gn (c.fact 51 (f := .glo "_law_pick") rfl)
  obtain ⟨fd__law_pick, F__law_pick⟩ := c.def_ 20 (d := dfn "_law_pick" s__law_pick) rfl
  have g21 : GAll (tabsT tf K) 21 prg w K mg base G21 := g20.add (by decide) (fn_ok F__law_pick sc__law_pick g20 m__law_pick k__law_pick (fun _ _ _ _ _ _ us hl => match us, hl with | [_, _], _ => rfl))
  have m__law_chosen : mg "_law_chosen" = some (.ref (He.ga K "_law_chosen")) := He.glo_ok X Gn (c.fact 52 (f := .glo "_law_chosen") rfl)
  obtain ⟨fd__law_chosen, F__law_chosen⟩ := c.def_ 21 (d := dfn "_law_chosen" s__law_chosen) rfl
  have g22 : GAll (tabsT tf K) 22 prg w K mg base G22 := g21.add (by decide) (fn_ok F__law_chosen sc__law_chosen g21 m__law_chosen k__law_chosen (fun _ _ _ _ _ _ us hl => match us, hl with | [_, _], _ => rfl))
  have m__law_error : mg "_law_error" = some (.ref (He.ga K "_law_error")) := He.glo_ok X Gn (c.fact 53 (f := .glo "_law_error") rfl)
  obtain ⟨fd__law_error, F__law_error⟩ := c.def_ 22 (d := dfn "_law_error" s__law_error) rfl
  have e__law_error : ErrOk (tabsT tf K) 23 prg w K mg base "_law_error" fun cn M => kRes (kind goodX cn) M := err_ok F__law_error sc__law_error g22 m__law_error (isxT_ok X Gn c (ex_isx hx) (fun y hy => mem_all y hy) (fun y hy => mem_good y hy)) k__law_error tells (fun _ _ _ _ _ _ us hl => match us, hl with | [_], _ => rfl)
  have m__law_refused : mg "_law_refused" = some (.ref (He.ga K "_law_refused")) := He.glo_ok X Gn (c.fact 54 (f := .glo "_law_refused") rfl)
  obtain ⟨fd__law_refused, F__law_refused⟩ := c.def_ 23 (d := dfn "_law_refused" s__law_refused) rfl
  have m_HandError : mg "HandError" = some (.ref (He.ga K "HandError")) := He.glo_ok X Gn (c.facts (hasGlo_ok (ys := ["HandError"]) (by decide +kernel) _ (List.mem_singleton.mpr rfl)))
  have g23 : GAll (tabsT tf K) 23 prg w K mg base G23 := (g22.at (lv := 23) (by decide)).add (Nat.le_refl _) (refused_ok (k := kind goodX) F__law_refused sc__law_refused rfl rfl m__law_refused rfl rfl m_HandError e__law_error (exm_ok X Gn c (ex_exm hx) fun y hy => mem_good y hy) (fun _ _ _ _ _ _ us hl => match us, hl with | [_], _ => rfl) (.inl rfl) (by decide +kernel) (by decide +kernel) (by decide +kernel) (by decide +kernel) (by decide +kernel) (by decide +kernel))
  have m__law_by_two : mg "_law_by_two" = some (.ref (He.ga K "_law_by_two")) := He.glo_ok X Gn (c.fact 55 (f := .glo "_law_by_two") rfl)
  obtain ⟨fd__law_by_two, F__law_by_two⟩ := c.def_ 24 (d := dfn "_law_by_two" s__law_by_two) rfl
  have g24 : GAll (tabsT tf K) 26 prg w K mg base G24 := g23.add (by decide) (fn_okL F__law_by_two sc__law_by_two g23 m__law_by_two (funD_code (p := ("_law_by_two", none)) F__law_by_two) (TBs _ (by simp [tf])) (apartT_ok (ex_apart hx) (p := ("_law_by_two", none)) (by simp [tf])).1 (apartT_ok (ex_apart hx) (p := ("_law_by_two", none)) (by simp [tf])).2 k__law_by_two (fun _ _ _ _ _ _ us hl => match us, hl with | [_, _, _], _ => rfl))
  have m__law_drawn_person : mg "_law_drawn_person" = some (.ref (He.ga K "_law_drawn_person")) := He.glo_ok X Gn (c.fact 56 (f := .glo "_law_drawn_person") rfl)
  obtain ⟨fd__law_drawn_person, F__law_drawn_person⟩ := c.def_ 25 (d := dfn "_law_drawn_person" s__law_drawn_person) rfl
  have g25 : GAll (tabsT tf K) 27 prg w K mg base G25 := g24.add (by decide) (fn_ok F__law_drawn_person sc__law_drawn_person g24 m__law_drawn_person k__law_drawn_person (fun _ _ _ _ _ _ us hl => match us, hl with | [_, _], _ => rfl))
  have m__law_drawn_circle : mg "_law_drawn_circle" = some (.ref (He.ga K "_law_drawn_circle")) := He.glo_ok X Gn (c.fact 57 (f := .glo "_law_drawn_circle") rfl)
  obtain ⟨fd__law_drawn_circle, F__law_drawn_circle⟩ := c.def_ 26 (d := dfn "_law_drawn_circle" s__law_drawn_circle) rfl
  have g26 : GAll (tabsT tf K) 28 prg w K mg base G26 := g25.add (by decide) (fn_ok F__law_drawn_circle sc__law_drawn_circle g25 m__law_drawn_circle k__law_drawn_circle (fun _ _ _ _ _ _ us hl => match us, hl with | [_, _, _], _ => rfl))
  have m__law_drawn_filling : mg "_law_drawn_filling" = some (.ref (He.ga K "_law_drawn_filling")) := He.glo_ok X Gn (c.fact 58 (f := .glo "_law_drawn_filling") rfl)
  obtain ⟨fd__law_drawn_filling, F__law_drawn_filling⟩ := c.def_ 27 (d := dfn "_law_drawn_filling" s__law_drawn_filling) rfl
  have g27 : GAll (tabsT tf K) 29 prg w K mg base G27 := g26.add (by decide) (fn_ok F__law_drawn_filling sc__law_drawn_filling g26 m__law_drawn_filling k__law_drawn_filling (fun _ _ _ _ _ _ us hl => match us, hl with | [_, _], _ => rfl))
  have m__law_all_hands : mg "_law_all_hands" = some (.ref (He.ga K "_law_all_hands")) := He.glo_ok X Gn (c.fact 59 (f := .glo "_law_all_hands") rfl)
  obtain ⟨fd__law_all_hands, F__law_all_hands⟩ := c.def_ 28 (d := dfn "_law_all_hands" s__law_all_hands) rfl
  have g28 : GAll (tabsT tf K) 30 prg w K mg base G28 := g27.add (by decide) (fn_ok F__law_all_hands sc__law_all_hands g27 m__law_all_hands k__law_all_hands (fun _ _ _ _ _ _ us hl => match us, hl with | [_], _ => rfl))
  have m__law_begun : mg "_law_begun" = some (.ref (He.ga K "_law_begun")) := He.glo_ok X Gn (c.fact 60 (f := .glo "_law_begun") rfl)
  obtain ⟨fd__law_begun, F__law_begun⟩ := c.def_ 29 (d := dfn "_law_begun" s__law_begun) rfl
  have g29 : GAll (tabsT tf K) 31 prg w K mg base G29 := g28.add (by decide) (fn_ok F__law_begun sc__law_begun g28 m__law_begun k__law_begun (fun _ _ _ _ _ _ us hl => match us, hl with | [_, _], _ => rfl))
  have m__law_one_beat : mg "_law_one_beat" = some (.ref (He.ga K "_law_one_beat")) := He.glo_ok X Gn (c.fact 61 (f := .glo "_law_one_beat") rfl)
  obtain ⟨fd__law_one_beat, F__law_one_beat⟩ := c.def_ 30 (d := dfn "_law_one_beat" s__law_one_beat) rfl
  have g30 : GAll (tabsT tf K) 32 prg w K mg base G30 := g29.add (by decide) (fn_ok F__law_one_beat sc__law_one_beat g29 m__law_one_beat k__law_one_beat (fun _ _ _ _ _ _ us hl => match us, hl with | [_, _, _], _ => rfl))
  have m__law_shape : mg "_law_shape" = some (.ref (He.ga K "_law_shape")) := He.glo_ok X Gn (c.fact 62 (f := .glo "_law_shape") rfl)
  obtain ⟨fd__law_shape, F__law_shape⟩ := c.def_ 31 (d := dfn "_law_shape" s__law_shape) rfl
  have g31 : GAll (tabsT tf K) 33 prg w K mg base G31 := g30.add (by decide) (fn_ok F__law_shape sc__law_shape g30 m__law_shape k__law_shape (fun _ _ _ _ _ _ us hl => match us, hl with | [_, _], _ => rfl))
  have m__law_till_again : mg "_law_till_again" = some (.ref (He.ga K "_law_till_again")) := He.glo_ok X Gn (c.fact 63 (f := .glo "_law_till_again") rfl)
  obtain ⟨fd__law_till_again, F__law_till_again⟩ := c.def_ 32 (d := dfn "_law_till_again" s__law_till_again) rfl
  have g32 : GAll (tabsT tf K) 34 prg w K mg base G32 := g31.add (by decide) (fn_ok F__law_till_again sc__law_till_again g31 m__law_till_again k__law_till_again (fun _ _ _ _ _ _ us hl => match us, hl with | [_, _], _ => rfl))
  have m__law_all_fillings : mg "_law_all_fillings" = some (.ref (He.ga K "_law_all_fillings")) := He.glo_ok X Gn (c.fact 64 (f := .glo "_law_all_fillings") rfl)
  obtain ⟨fd__law_all_fillings, F__law_all_fillings⟩ := c.def_ 33 (d := dfn "_law_all_fillings" s__law_all_fillings) rfl
  have g33 : GAll (tabsT tf K) 35 prg w K mg base G33 := g32.add (by decide) (fn_ok F__law_all_fillings sc__law_all_fillings g32 m__law_all_fillings k__law_all_fillings (fun _ _ _ _ _ _ us hl => match us, hl with | [_, _], _ => rfl))
  have m__law_longest : mg "_law_longest" = some (.ref (He.ga K "_law_longest")) := He.glo_ok X Gn (c.fact 65 (f := .glo "_law_longest") rfl)
  obtain ⟨fd__law_longest, F__law_longest⟩ := c.def_ 34 (d := dfn "_law_longest" s__law_longest) rfl
  have g34 : GAll (tabsT tf K) 36 prg w K mg base G34 := g33.add (by decide) (fn_ok F__law_longest sc__law_longest g33 m__law_longest k__law_longest (fun _ _ _ _ _ _ us hl => match us, hl with | [_, _], _ => rfl))
  have m_law : mg "law" = some (.ref (He.ga K "law")) := He.glo_ok X Gn (c.fact 66 (f := .glo "law") rfl)
  exact fn_okF F_law0 sc_law g34 k_law
abbrev R : PySem.W.OpenRow := PySem.W.OpenLaw.row PySem.Challenge.rw_handedround_k21_leads_and_periods
abbrev hk : PySem.W.Hook := He.hookX 4 fa fnl [] tf ex
def ob (s : PySem.W.SharedT) : He.AlX := He.obsX 4 fa fnl [] tf ex (HandSHeadRun.getT s)
theorem ob_eq (s : PySem.W.SharedT) : ob s = hk.obs s.abs := He.obsX_eq (HandSHeadRun.getT_eq s)
def loose0 : List PySem.Str := ["__name__", "HandError", "InvalidCircle", "InvalidPlan", "InvalidFilling", "InvalidIndex", "InvalidNumber", "InvalidSeen", "NotReady", "NothingToUndo", "TooMany", "InvalidText", "MOST_PEOPLE", "MOST_NUMBER", "is_within", "is_right_person", "are_people", "is_right_circle", "is_right_filling", "need_circle"]
def loose1 : List PySem.Str := ["need_filling", "need_number", "first_standing", "givers_of", "later", "stepped", "walked", "times_of", "MOST_FILLINGS", "fillings_of", "lead_from", "count_fillings", "round_of", "longest_lead", "_law_source", "_law_pick", "_law_chosen", "_law_error", "_law_refused", "_law_by_two"]
def loose2 : List PySem.Str := ["_law_drawn_person", "_law_drawn_circle", "_law_drawn_filling", "_law_all_hands", "_law_begun", "_law_one_beat", "_law_shape", "_law_till_again", "_law_all_fillings", "_law_longest"]
abbrev loose : List PySem.Str := loose0 ++ loose1 ++ loose2
theorem run (w : World) : HandSHeadRun.RunEq R (PySem.W.view R.prog [54]) hk ob 4000 loose w := by
  intro os
  kernel_rfl
end
end Lw
open PySem PySem.W PySem.Calls PyProof.Rows
theorem PySem.Challenge.cw_handedround_k21_leads_and_periods_holds : PySem.Challenge.rw_handedround_k21_leads_and_periods.Holds := by
  w_on; o_law
  refine HandSHeadRun.head_any (r := PySem.W.OpenLaw.row PySem.Challenge.rw_handedround_k21_leads_and_periods) (q := PySem.W.view (PySem.W.OpenLaw.row PySem.Challenge.rw_handedround_k21_leads_and_periods).prog [54]) (H := Lw.hk) (ob := Lw.ob) (M := 4000) (loose := Lw.loose) (d := HandSHeadRun.topDef (PySem.W.OpenLaw.row PySem.Challenge.rw_handedround_k21_leads_and_periods).prog 54) (kwd := []) Lw.ob_eq
    (by kernel_rfl) (fun s => by kernel_rfl) Lw.run (by kernel_rfl) (by kernel_rfl) (by kernel_rfl) (by rfl) (by first | assumption | decide +kernel) (by decide +kernel) ⟨rfl, rfl, rfl, rfl, rfl, by decide +kernel⟩ ?hw ?hc
  case hw => w_witness2
  case hc =>
    refine Pd.head_law (l := PySem.Challenge.rw_handedround_k21_leads_and_periods) (k := 37) (x := "_law_script") (φ := Lw.f_law) (ex := Lw.ex) (by kernel_rfl) (by kernel_rfl) rfl ⟨rfl, by decide, by decide⟩ (fun K h => Lw.ex_lists h) (fun w K h mg f X Gn hm c hx => ?all) Lw.final
    case all =>
      obtain ⟨fd, F⟩ := c.def_ 35 (d := Lw.dfn "law" Lw.s_law) rfl
      have e := hm.symm.trans (He.glo_ok X Gn (c.fact 66 (f := .glo "law") rfl))
      cases e
      exact ⟨fd, fun s v => L2.FunD.bindsA (ps := ["_law_script"]) F (fun _ _ _ _ _ _ us hl => match us, hl with | [_], _ => rfl) s [v] rfl, fun base TBs => Lw.chain X Gn c hx TBs F⟩
