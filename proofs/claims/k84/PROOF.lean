import PyProof.Rows.All
import Wide.All
import OpenK.AllK
import Wide.FinOn
import KE.SortData
import KE.DataCmp
import HandS.ForMost
import HandS.Exc
import HandS.TryOnly
import HandS.ExcOwn
import HandS.WordsExc
import HandS.Deep
import HandS.IsInst
import HandS.Wide
import HandS.WideBits
import HandS.Zip
import HandS.Style
import HandS.Defaults
import HandS.Conv
import HandS.Strs
import HandS.SetFor
import KE.GoesEnumKw
import HandS.Zip0
import KE.KDictZip
import KE.KRevSl
import HandS.Head0
import HandS.Head1
import HandS.Head2
import HandS.HeadEnd
import HandS.HeadHook1
import HandS.HeadHook2
import PySem.Challenge.RW_lotstell_k84_whole_parts_evened_by_trees
set_option Elab.async false
section
set_option Elab.async false
set_option linter.all false
set_option maxRecDepth 100000
set_option maxHeartbeats 2000000
/-! # PD: what an expression computes, as a plain function of data. 1: data on the heap, environments, judgements. -/
namespace PD
open PySem PySem.Spec PyProof.Rows L2

/-- no list of data is longer -/
abbrev lim : Nat := 1000000
theorem lim_line : lim < sizeLine := by rw [sizeLine_eq]; decide

/-! ### data on the abstract heap -/
mutual
/-- v stands for d -/
inductive Dq (K : PySem.W.Frag) (H : Hp) : V → PyData → Prop
  | non : Dq K H .non .none
  | bl (b : Bool) : Dq K H (.bl b) (.bool b)
  | int (i : Int) : Dq K H (.int i) (.int i)
  | str (x : Str) : Dq K H (.str x) (.str x)
  | lst {a : Addr} {xs : List V} {ds : List PyData} : H a = some (.lst xs) → DqAll K H xs ds → ds.length ≤ lim → Dq K H (.ref a) (.list ds)
  | tup {a : Addr} {xs : List V} {ds : List PyData} : SqT K H a xs → DqAll K H xs ds → ds.length ≤ lim → Dq K H (.ref a) (.tuple ds)
  | dic {a : Addr} : H a = some (.dK []) → Dq K H (.ref a) (.dict [])
  | scr {a : Addr} {ns : List Int} : SqL K H a (ns.map V.int) → Dq K H (.ref a) (.dict [(.none, .list (ns.map .int))])
inductive DqAll (K : PySem.W.Frag) (H : Hp) : List V → List PyData → Prop
  | nil : DqAll K H [] []
  | cons {v : V} {vs : List V} {d : PyData} {ds : List PyData} : Dq K H v d → DqAll K H vs ds → DqAll K H (v :: vs) (d :: ds)
end
section
variable {K : PySem.W.Frag} {H H' : Hp}
theorem sqL_same {a : Addr} {xs : List V} (e : Same H H') (h : SqL K H a xs) : SqL K H' a xs := e.seq h
theorem sqT_same {a : Addr} {xs : List V} (e : Same H H') (h : SqT K H a xs) : SqT K H' a xs := by
  rcases h with (h | ⟨o, h⟩) | h
  · exact .inl (.inl (e _ _ h))
  · exact .inl (.inr ⟨o, e _ _ h⟩)
  · exact .inr h
mutual
theorem Dq.mono (e : Same H H') : ∀ {d : PyData} {v : V}, Dq K H v d → Dq K H' v d
  | _, _, .non => .non
  | _, _, .bl b => .bl b
  | _, _, .int i => .int i
  | _, _, .str x => .str x
  | _, _, .lst h1 h2 h3 => .lst (e _ _ h1) (DqAll.mono e h2) h3
  | _, _, .tup h1 h2 h3 => .tup (sqT_same e h1) (DqAll.mono e h2) h3
  | _, _, .dic h => .dic (e _ _ h)
  | _, _, .scr h => .scr (sqL_same e h)
theorem DqAll.mono (e : Same H H') : ∀ {ds : List PyData} {vs : List V}, DqAll K H vs ds → DqAll K H' vs ds
  | _, _, .nil => .nil
  | _, _, .cons h1 h2 => .cons (Dq.mono e h1) (DqAll.mono e h2)
end
theorem DqAll.length : ∀ {vs : List V} {ds : List PyData}, DqAll K H vs ds → vs.length = ds.length
  | _, _, .nil => rfl
  | _, _, .cons _ h => by simp [DqAll.length h]
theorem DqAll.get : ∀ {vs : List V} {ds : List PyData} {i : Nat} {d : PyData}, DqAll K H vs ds → ds[i]? = some d → ∃ v, vs[i]? = some v ∧ Dq K H v d
  | _, _, _, _, .nil, e => by simp at e
  | _, _, 0, _, .cons h _, e => by simp at e; subst e; exact ⟨_, rfl, h⟩
  | _, _, i + 1, _, .cons _ h, e => by
    obtain ⟨v, h1, h2⟩ := DqAll.get (i := i) h (by simpa using e)
    exact ⟨v, by simpa using h1, h2⟩
theorem DqAll.getV : ∀ {vs : List V} {ds : List PyData} {i : Nat} {v : V}, DqAll K H vs ds → vs[i]? = some v → ∃ d, ds[i]? = some d ∧ Dq K H v d
  | _, _, _, _, .nil, e => by simp at e
  | _, _, 0, _, .cons h _, e => by simp at e; subst e; exact ⟨_, rfl, h⟩
  | _, _, i + 1, _, .cons _ h, e => by
    obtain ⟨v, h1, h2⟩ := DqAll.getV (i := i) h (by simpa using e)
    exact ⟨v, by simpa using h1, h2⟩
theorem DqAll.append : ∀ {vs ws : List V} {ds es : List PyData}, DqAll K H vs ds → DqAll K H ws es → DqAll K H (vs ++ ws) (ds ++ es)
  | _, _, _, _, .nil, h => h
  | _, _, _, _, .cons h t, h' => .cons h (DqAll.append t h')
theorem DqAll.take : ∀ {vs : List V} {ds : List PyData} (n : Nat), DqAll K H vs ds → DqAll K H (vs.take n) (ds.take n)
  | _, _, 0, _ => .nil
  | _, _, _ + 1, .nil => .nil
  | _, _, n + 1, .cons h t => .cons h (DqAll.take n t)
theorem DqAll.drop : ∀ {vs : List V} {ds : List PyData} (n : Nat), DqAll K H vs ds → DqAll K H (vs.drop n) (ds.drop n)
  | _, _, 0, h => h
  | _, _, _ + 1, .nil => .nil
  | _, _, n + 1, .cons _ t => DqAll.drop n t
theorem DqAll.set : ∀ {vs : List V} {ds : List PyData} {v : V} {d : PyData} (n : Nat), DqAll K H vs ds → Dq K H v d → DqAll K H (vs.set n v) (ds.set n d)
  | _, _, _, _, _, .nil, _ => .nil
  | _, _, _, _, 0, .cons _ t, h => .cons h t
  | _, _, _, _, n + 1, .cons h t, h' => .cons h (DqAll.set n t h')
theorem DqAll.eraseIdx : ∀ {vs : List V} {ds : List PyData} (n : Nat), DqAll K H vs ds → DqAll K H (vs.eraseIdx n) (ds.eraseIdx n)
  | _, _, _, .nil => .nil
  | _, _, 0, .cons _ t => t
  | _, _, n + 1, .cons h t => .cons h (DqAll.eraseIdx n t)
theorem DqAll.reverse {vs : List V} {ds : List PyData} (h : DqAll K H vs ds) : DqAll K H vs.reverse ds.reverse := by
  induction h using DqAll.rec (motive_1 := fun _ _ _ => True) with
  | nil => exact .nil
  | cons h1 h2 _ ih => rw [List.reverse_cons, List.reverse_cons]; exact ih.append (.cons h1 .nil)
  | _ => trivial
theorem DqAll.snoc {vs : List V} {ds : List PyData} {v : V} {d : PyData} (h : DqAll K H vs ds) (h' : Dq K H v d) : DqAll K H (vs ++ [v]) (ds ++ [d]) := h.append (.cons h' .nil)
theorem DqAll.of_getV {vs : List V} {ds : List PyData} (hl : vs.length = ds.length) (h : ∀ (i : Nat) (v : V) (d : PyData), vs[i]? = some v → ds[i]? = some d → Dq K H v d) : DqAll K H vs ds := by
  induction vs generalizing ds with
  | nil => cases ds with
    | nil => exact .nil
    | cons d ds => simp at hl
  | cons v vs ih => cases ds with
    | nil => simp at hl
    | cons d ds => exact .cons (h 0 v d rfl rfl) (ih (by simpa using hl) fun i v d h1 h2 => h (i + 1) v d (by simpa using h1) (by simpa using h2))
mutual
/-- without dicts: HandS's own relation -/
theorem Dq.dp : ∀ {d : PyData} {v : V}, d.canLay0 = true → Dq K H v d → Dp K H v d
  | _, _, _, .non => .non
  | _, _, _, .bl b => .bl b
  | _, _, _, .int i => .int i
  | _, _, _, .str x => .str x
  | _, _, h, .lst h1 h2 _ => .lst (SqL.of h1) (DqAll.dp (by simpa [PyData.canLay0] using h) h2)
  | _, _, h, .tup h1 h2 _ => .tup h1 (DqAll.dp (by simpa [PyData.canLay0] using h) h2)
  | _, _, h, .dic _ => by simp [PyData.canLay0] at h
  | _, _, h, .scr _ => by simp [PyData.canLay0] at h
theorem DqAll.dp : ∀ {ds : List PyData} {vs : List V}, PyData.canLayAll0 ds = true → DqAll K H vs ds → DpAll K H vs ds
  | _, _, _, .nil => .nil
  | d :: ds, _, h, .cons h1 h2 => by
    have h' : PyData.canLay0 d = true ∧ PyData.canLayAll0 ds = true := by simpa [PyData.canLayAll0] using h
    exact .cons (Dq.dp h'.1 h1) (DqAll.dp h'.2 h2)
end
end

/-! ### the heap without the lists that are one's own -/
open Classical in
noncomputable def er (A : Addr → Prop) (H : Hp) : Hp := fun a => if A a then none else H a
section
variable {A S : Addr → Prop} {H H' : Hp} {K : PySem.W.Frag}
theorem er_some {a : Addr} {o : HO} : er A H a = some o ↔ ¬ A a ∧ H a = some o := by
  unfold er
  by_cases h : A a
  · simp [h]
  · simp [h]
theorem er_same (e : Same H H') : Same (er A H) (er A H') := fun a o h => er_some.mpr ⟨(er_some.mp h).1, e a o (er_some.mp h).2⟩
theorem er_le : Same (er A H) H := fun _ _ h => (er_some.mp h).2
theorem er_sub (h : ∀ a, S a → A a) : Same (er A H) (er S H) := fun a _ q => er_some.mpr ⟨fun z => (er_some.mp q).1 (h a z), (er_some.mp q).2⟩
theorem er_upd {a : Addr} {o : HO} (h : A a) : Same (er A H) (er A (upd H a o)) := fun b u q => by
  obtain ⟨h1, h2⟩ := er_some.mp q
  refine er_some.mpr ⟨h1, ?_⟩
  rw [upd_ne (fun z => by rw [z] at h1; exact h1 h)]
  exact h2
theorem Dq.full {v : V} {d : PyData} (h : Dq K (er A H) v d) : Dq K H v d := h.mono er_le
theorem DqAll.full {vs : List V} {ds : List PyData} (h : DqAll K (er A H) vs ds) : DqAll K H vs ds := h.mono er_le
theorem same_new {H : Hp} {p : Addr} {o : HO} (h : H p = none) : Same H (upd H p o) := fun a u e => by
  rw [upd_ne (ne_of_none e h)]
  exact e
theorem same_back {p : Addr} (e : Same H H') (h : H' p = none) : H p = none := e.free h
/-- a new object -/
theorem er_new {p : Addr} {o : HO} (hp : H p = none) (live : ∀ a, A a → H a ≠ none) : er A (upd H p o) p = some o := er_some.mpr ⟨fun z => live p z hp, upd_same⟩
end

/-! ### environments -/
/-- what stands in a slot: nothing that is known, a value that never changes, a list of one's own -/
inductive Ent where
  | unk
  | dat (d : PyData)
  | own (t : Bool) (ds : List PyData)
abbrev Rho := List Ent
/-- the lists that stand protected around the def; the one that its first parameter may change -/
structure Amb where
  S : Addr → Prop
  g : Option Addr
structure Rel (K : PySem.W.Frag) (A : Addr → Prop) (S : Amb) (ρ : Rho) (σ : L2.St) (H : Hp) : Prop where
  len : ρ.length = σ.length
  dat : ∀ (i : Nat) (d : PyData), ρ[i]? = some (.dat d) → ∃ v, σ[i]? = some (some v) ∧ Dq K (er A H) v d
  own : ∀ (i : Nat) (t : Bool) (ds : List PyData), ρ[i]? = some (.own t ds) → ∃ (l : Addr) (vs : List V), σ[i]? = some (some (.ref l)) ∧ (t = true → S.g = some l) ∧ A l ∧ ¬ S.S l ∧ H l = some (.lst vs) ∧ DqAll K (er A H) vs ds ∧ ds.length ≤ lim
  inj : ∀ (i j : Nat) (t u : Bool) (ds es : List PyData) (l : Addr), ρ[i]? = some (.own t ds) → ρ[j]? = some (.own u es) → σ[i]? = some (some (.ref l)) → σ[j]? = some (some (.ref l)) → i = j
  sub : ∀ a, S.S a → A a
  live : ∀ a, A a → H a ≠ none
section
variable {K : PySem.W.Frag} {A : Addr → Prop} {S : Amb} {ρ : Rho} {σ : L2.St} {H H' : Hp}
theorem live_same (e : Same H H') (h : ∀ a, A a → H a ≠ none) : ∀ a, A a → H' a ≠ none := fun a ha z => by
  cases q : H a with
  | none => exact h a ha q
  | some o => rw [e a o q] at z; cases z
theorem Rel.same (r : Rel K A S ρ σ H) (e : Same H H') : Rel K A S ρ σ H' where
  len := r.len
  dat := fun i d h => let ⟨v, h1, h2⟩ := r.dat i d h; ⟨v, h1, h2.mono (er_same e)⟩
  own := fun i t ds h => let ⟨l, vs, h1, h0, h2, h3, h4, h5, h6⟩ := r.own i t ds h; ⟨l, vs, h1, h0, h2, h3, e _ _ h4, h5.mono (er_same e), h6⟩
  inj := r.inj
  sub := r.sub
  live := live_same e r.live
/-- a value is put into a slot -/
theorem Rel.put (r : Rel K A S ρ σ H) {v : V} {d : PyData} (i : Nat) (h : Dq K (er A H) v d) : Rel K A S (ρ.set i (.dat d)) (σ.set i (some v)) H where
  len := by simp [r.len]
  dat := fun j e q => by
    by_cases hj : i = j
    · subst hj
      by_cases hl : i < ρ.length
      · rw [List.getElem?_set_self hl] at q
        cases q
        exact ⟨v, by rw [List.getElem?_set_self (r.len ▸ hl)], h⟩
      · rw [List.getElem?_eq_none (by simpa using hl)] at q; cases q
    · rw [List.getElem?_set_ne hj] at q ⊢
      exact r.dat j e q
  own := fun j t ds q => by
    by_cases hj : i = j
    · subst hj
      by_cases hl : i < ρ.length
      · rw [List.getElem?_set_self hl] at q
        cases q
      · rw [List.getElem?_eq_none (by simpa using hl)] at q; cases q
    · rw [List.getElem?_set_ne hj] at q ⊢
      exact r.own j t ds q
  inj := fun j k t u ds es l h1 h2 h3 h4 => by
    have hne : ∀ m t fs, (ρ.set i (.dat d))[m]? = some (.own t fs) → i ≠ m ∧ ρ[m]? = some (.own t fs) := fun m t fs q => by
      by_cases hm : i = m
      · subst hm
        by_cases hl : i < ρ.length
        · rw [List.getElem?_set_self hl] at q
          cases q
        · rw [List.getElem?_eq_none (by simpa using hl)] at q; cases q
      · rw [List.getElem?_set_ne hm] at q; exact ⟨hm, q⟩
    obtain ⟨n1, q1⟩ := hne j t ds h1
    obtain ⟨n2, q2⟩ := hne k u es h2
    rw [List.getElem?_set_ne n1] at h3
    rw [List.getElem?_set_ne n2] at h4
    exact r.inj j k t u ds es l q1 q2 h3 h4
  sub := r.sub
  live := r.live
/-- a slot is forgotten -/
theorem Rel.forget (r : Rel K A S ρ σ H) (i : Nat) : Rel K A S (ρ.set i .unk) (σ.set i none) H := by
  have hne : ∀ m e, e ≠ Ent.unk → (ρ.set i .unk)[m]? = some e → i ≠ m ∧ ρ[m]? = some e := fun m e he q => by
    by_cases hm : i = m
    · subst hm
      by_cases hl : i < ρ.length
      · rw [List.getElem?_set_self hl] at q
        cases q; exact absurd rfl he
      · rw [List.getElem?_eq_none (by simpa using hl)] at q; cases q
    · rw [List.getElem?_set_ne hm] at q; exact ⟨hm, q⟩
  refine ⟨by simp [r.len], fun j d q => ?_, fun j t ds q => ?_, fun j k t u ds es l h1 h2 h3 h4 => ?_, r.sub, r.live⟩
  · obtain ⟨n, q⟩ := hne j _ (by intro z; cases z) q
    rw [List.getElem?_set_ne n]
    exact r.dat j d q
  · obtain ⟨n, q⟩ := hne j _ (by intro z; cases z) q
    rw [List.getElem?_set_ne n]
    exact r.own j t ds q
  · obtain ⟨n1, q1⟩ := hne j _ (by intro z; cases z) h1
    obtain ⟨n2, q2⟩ := hne k _ (by intro z; cases z) h2
    rw [List.getElem?_set_ne n1] at h3
    rw [List.getElem?_set_ne n2] at h4
    exact r.inj j k t u ds es l q1 q2 h3 h4
/-- the slots of a comprehension's names are forgotten -/
def wipeR (ρ : Rho) : List Nat → Rho
  | [] => ρ
  | v :: vs => (wipeR ρ vs).set v .unk
theorem Rel.wipe (r : Rel K A S ρ σ H) : ∀ vs : List Nat, Rel K A S (wipeR ρ vs) (L2.wipe σ vs) H
  | [] => r
  | v :: vs => (Rel.wipe r vs).forget v
end

/-! ### readings -/
/-- an expression computes F of the environment; the heap grows -/
def VP (K : PySem.W.Frag) (S : Amb) (F : Rho → Option PyData) : TE := fun σ H Q => ∃ (A : Addr → Prop) (ρ : Rho) (d : PyData), Rel K A S ρ σ H ∧ F ρ = some d ∧ ∀ v H', Same H H' → Dq K (er A H') v d → Q v H'
/-- a test -/
def VT (K : PySem.W.Frag) (S : Amb) (F : Rho → Option Bool) : TT := fun σ H Q => ∃ (A : Addr → Prop) (ρ : Rho) (b : Bool), Rel K A S ρ σ H ∧ F ρ = some b ∧ ∀ H', Same H H' → Q b H'
/-- arguments -/
def VA (K : PySem.W.Frag) (S : Amb) (F : Rho → Option (List PyData)) : TA := fun σ H Q => ∃ (A : Addr → Prop) (ρ : Rho) (ds : List PyData), Rel K A S ρ σ H ∧ F ρ = some ds ∧ ∀ vs H', Same H H' → DqAll K (er A H') vs ds → Q vs H'
/-- what is walked: ds, its items that never change -/
def Src (K : PySem.W.Frag) (A : Addr → Prop) (J : It) (ds : List PyData) (H : Hp) : Prop :=
  ∀ (A' : Addr → Prop) (H' : Hp), Same (er A H) (er A' H') → (∀ a, A' a → H' a ≠ none) → (∀ i d, ds[i]? = some d → J.go i H' ∧ ∀ x H'', J.yld i H' x H'' → Same H' H'' ∧ Dq K (er A' H'') x d) ∧ J.stop ds.length H'
def VI (K : PySem.W.Frag) (S : Amb) (F : Rho → Option (List PyData)) : TI := fun σ H R => ∃ (A : Addr → Prop) (ρ : Rho) (ds : List PyData), Rel K A S ρ σ H ∧ F ρ = some ds ∧ ∀ J H', Same H H' → Src K A J ds H' → R J H'
/-- a target -/
def VG (K : PySem.W.Frag) (S : Amb) (T : PyData → Rho → Option Rho) : TG := fun v σ H Q => ∃ (A : Addr → Prop) (ρ ρ' : Rho) (d : PyData), Rel K A S ρ σ H ∧ Dq K (er A H) v d ∧ T d ρ = some ρ' ∧ ∀ σ', Rel K A S ρ' σ' H → Q σ' H
section
variable {X : Cx} {S : Amb}
abbrev PDE (X : Cx) (S : Amb) (e : Expr) (F : Rho → Option PyData) : Prop := PE X e (VP X.K S F)
abbrev PDT (X : Cx) (S : Amb) (e : Expr) (F : Rho → Option Bool) : Prop := PT X e (VT X.K S F)
abbrev PDA (X : Cx) (S : Amb) (es : List Expr) (F : Rho → Option (List PyData)) : Prop := PA X es (VA X.K S F)
abbrev PDI (X : Cx) (S : Amb) (tg e : Expr) (F : Rho → Option (List PyData)) : Prop := PI X tg e (VI X.K S F)
theorem _root_.L2.PE.weak {e : Expr} {t t' : TE} (h : PE X e t) (w : ∀ σ H Q, t' σ H Q → t σ H Q) : PE X e t' := ⟨fun pins s σ H Q I q => h.run pins s σ H Q I (w _ _ _ q)⟩
theorem _root_.L2.PT.weak {e : Expr} {t t' : TT} (h : PT X e t) (w : ∀ σ H Q, t' σ H Q → t σ H Q) : PT X e t' := ⟨fun pins s σ H Q I q => h.run pins s σ H Q I (w _ _ _ q)⟩
theorem _root_.L2.PW.weak {e : Expr} {t t' : TT} (h : PW X e t) (w : ∀ σ H Q, t' σ H Q → t σ H Q) : PW X e t' := ⟨fun wh pins s σ H Q I q => h.run wh pins s σ H Q I (w _ _ _ q)⟩
theorem _root_.L2.PA.weak {es : List Expr} {t t' : TA} (h : PA X es t) (w : ∀ σ H Q, t' σ H Q → t σ H Q) : PA X es t' := ⟨fun p pins s σ H Q I q => h.run p pins s σ H Q I (w _ _ _ q)⟩
theorem _root_.L2.PI.weak {tg e : Expr} {t t' : TI} (h : PI X tg e t) (w : ∀ σ H R, t' σ H R → t σ H R) : PI X tg e t' := ⟨fun pins s σ H R I q => h.run pins s σ H R I (w _ _ _ q)⟩
theorem _root_.L2.PG.weak {e : Expr} {t t' : TG} (h : PG X e t) (w : ∀ v σ H Q, t' v σ H Q → t v σ H Q) : PG X e t' := ⟨fun pins s σ H v u Q I r q => h.run pins s σ H v u Q I r (w _ _ _ _ q)⟩
theorem _root_.L2.PS.weak {e : Stmt} {t t' : TS} (h : PS X e t) (w : ∀ D σ H, t' D σ H → t D σ H) : PS X e t' := ⟨fun pins s σ H D I q => h.run pins s σ H D I (w _ _ _ q)⟩
theorem _root_.L2.PSs.weak {e : List Stmt} {t t' : TS} (h : PSs X e t) (w : ∀ D σ H, t' D σ H → t D σ H) : PSs X e t' := ⟨fun pins s σ H D I q => h.run pins s σ H D I (w _ _ _ q)⟩
end
end PD
end

section
set_option Elab.async false
set_option linter.all false
set_option maxRecDepth 100000
set_option maxHeartbeats 2000000
/-! # PD 2: the rules for expressions -/
namespace PD
open PySem PySem.Spec PyProof.Rows L2
section
variable {X : Cx} {S : Amb} {K : PySem.W.Frag} {A : Addr → Prop} {H H' : Hp} {e a b c : Expr} {pos : Pos} {F G : Rho → Option PyData}
theorem Dq.refl_same {v : V} {d : PyData} (h : Dq K (er A H) v d) (e : Same H H') : Dq K (er A H') v d := h.mono (er_same e)
theorem DqAll.refl_same {v : List V} {d : List PyData} (h : DqAll K (er A H) v d) (e : Same H H') : DqAll K (er A H') v d := h.mono (er_same e)

/-! ### names, constants -/
def eVar (i : Nat) : Rho → Option PyData := fun ρ => match ρ[i]? with
  | some (.dat d) => some d
  | _ => none
theorem pd_var {i : Nat} (h : PE X e (tVar i)) : PDE X S e (eVar i) := h.weak fun σ H Q ⟨A, ρ, d, r, hf, k⟩ => by
  unfold eVar at hf
  split at hf
  · rename_i d' hi
    cases hf
    obtain ⟨v, hv, hd⟩ := r.dat i _ hi
    exact ⟨v, hv, k v H (Same.refl H) hd⟩
  · cases hf
def eC (d : PyData) : Rho → Option PyData := fun _ => some d
theorem pd_c {v : V} {d : PyData} (h : PE X e (tC v)) (hd : ∀ H, Dq X.K H v d) : PDE X S e (eC d) := h.weak fun σ H Q ⟨A, ρ, d', r, hf, k⟩ => by
  cases hf
  exact k v H (Same.refl H) (hd _)
theorem pd_int {i : Int} {j} : PDE X S (.Constant (.int i) j pos) (eC (.int i)) := pd_c pe_int fun _ => .int i
theorem pd_bl {i : Bool} {j} : PDE X S (.Constant (.bool i) j pos) (eC (.bool i)) := pd_c pe_bl fun _ => .bl i
theorem pd_non {j} : PDE X S (.Constant .none j pos) (eC .none) := pd_c pe_non fun _ => .non
theorem pd_str {x : Str} {j} : PDE X S (.Constant (.str x) j pos) (eC (.str x)) := pd_c pe_str fun _ => .str x
/-- a constant of the module that is an int -/
theorem pd_gint {x : Str} {i : Int} {p : Pos} (hg : Gl X x) (hm : ∃ t, X.mg x = some (.int i t)) (hd : (x == ("__debug__" : Str)) = false := by decide) : PDE X S (.Name x p) (eC (.int i)) := by
  obtain ⟨t, hm⟩ := hm
  exact pd_c (v := .int i) (pe_glob hg hm ⟨t, rfl⟩ hd) fun _ => .int i

/-! ### two operands -/
def eBin (f : PyData → PyData → Option PyData) (F G : Rho → Option PyData) : Rho → Option PyData := fun ρ => (F ρ).bind fun d => (G ρ).bind fun e => f d e
/-- what an operation on values says of data -/
def RD (K : PySem.W.Frag) (r : R2) (f : PyData → PyData → Option PyData) : Prop := ∀ (A : Addr → Prop) (H : Hp) (x y : V) (d e z : PyData), (∀ a, A a → H a ≠ none) → Dq K (er A H) x d → Dq K (er A H) y e → f d e = some z →
  ∀ Q : VK, (∀ v H', Same H H' → Dq K (er A H') v z → Q v H') → r x y H Q
theorem bind_some {α β : Type} {o : Option α} {f : α → Option β} {z : β} (h : o.bind f = some z) : ∃ x, o = some x ∧ f x = some z := by
  cases o with
  | none => cases h
  | some x => exact ⟨x, rfl, h⟩
theorem vp_bin {r : R2} {f : PyData → PyData → Option PyData} (hr : RD K r f) {σ : L2.St} {Q : VK} (h : VP K S (eBin f F G) σ H Q) : tOp r (VP K S F) (VP K S G) σ H Q := by
  obtain ⟨A, ρ, z, R, hf, k⟩ := h
  obtain ⟨d, h1, hf⟩ := bind_some hf
  obtain ⟨e, h2, hf⟩ := bind_some hf
  refine ⟨A, ρ, d, R, h1, fun v H1 s1 q1 => ⟨A, ρ, e, R.same s1, h2, fun w H2 s2 q2 => ?_⟩⟩
  exact hr A H2 v w d e z (live_same (s1.trans s2) R.live) (q1.refl_same s2) q2 hf Q fun u H3 s3 q3 => k u H3 ((s1.trans s2).trans s3) q3
theorem pd_bin {op : Operator} {r : R2} {f : PyData → PyData → Option PyData} (ho : OpR X (binaryOp op) r) (hr : RD X.K r f) (ha : PDE X S a F) (hb : PDE X S b G) : PDE X S (.BinOp a op b pos) (eBin f F G) :=
  (pe_op ho ha hb).weak fun _ _ _ h => vp_bin hr h
/-- a subscript -/
theorem pd_ixR {r : R2} {f : PyData → PyData → Option PyData} (ho : IxR X r) (hr : RD X.K r f) (ha : PDE X S a F) (hb : PDE X S b G) (hs : PlainIx b) : PDE X S (.Subscript a b pos) (eBin f F G) :=
  (pe_ix ho ha hb hs).weak fun _ _ _ h => vp_bin hr h
theorem RD.or {r r' : R2} {f g : PyData → PyData → Option PyData} (h : RD K r f) (h' : RD K r' g) : RD K (fun x y H Q => r x y H Q ∨ r' x y H Q) (fun d e => (f d e).or (g d e)) := by
  intro A H x y d e z lv q1 q2 hf Q k
  have hf : (f d e).or (g d e) = some z := hf
  cases q : f d e with
  | some w =>
    rw [q] at hf
    cases hf
    exact .inl (h A H x y d e _ lv q1 q2 q Q k)
  | none =>
    rw [q] at hf
    exact .inr (h' A H x y d e z lv q1 q2 (by simpa using hf) Q k)
/-- the data's own function in the place of a union -/
theorem RD.imp {r : R2} {f g : PyData → PyData → Option PyData} (h : RD K r f) (i : ∀ d e z, g d e = some z → f d e = some z) : RD K r g := fun A H x y d e z lv q1 q2 hf Q k => h A H x y d e z lv q1 q2 (i _ _ _ hf) Q k

def dI2 (g : Int → Int → Option PyData) : PyData → PyData → Option PyData
  | .int i, .int j => g i j
  | _, _ => none
theorem dI2_some {g : Int → Int → Option PyData} {d e z : PyData} (h : dI2 g d e = some z) : ∃ i j, d = .int i ∧ e = .int j ∧ g i j = some z := by
  unfold dI2 at h
  split at h
  · exact ⟨_, _, rfl, rfl, h⟩
  · cases h
theorem rd_I0 {g : Int → Int → V} {g' : Int → Int → PyData} (hg : ∀ H i j, Dq K H (g i j) (g' i j)) : RD K (rI0 g) (dI2 fun i j => some (g' i j)) := by
  intro A H x y d e z lv q1 q2 hf Q k
  obtain ⟨i, j, rfl, rfl, hz⟩ := dI2_some hf
  cases hz
  cases q1
  cases q2
  exact ⟨i, j, rfl, rfl, k _ H (Same.refl H) (hg _ i j)⟩
theorem rd_I {C : Int → Int → Prop} [∀ i j, Decidable (C i j)] {g : Int → Int → V} {g' : Int → Int → PyData} (hg : ∀ H i j, Dq K H (g i j) (g' i j)) : RD K (rI C g) (dI2 fun i j => if C i j then some (g' i j) else none) := by
  intro A H x y d e z lv q1 q2 hf Q k
  obtain ⟨i, j, rfl, rfl, hz⟩ := dI2_some hf
  split at hz
  · rename_i hc
    cases hz
    cases q1
    cases q2
    exact ⟨i, j, rfl, rfl, hc, k _ H (Same.refl H) (hg _ i j)⟩
  · cases hz

/-- + -/
def dAdd : PyData → PyData → Option PyData
  | .int i, .int j => some (.int (i + j))
  | .list xs, .list ys => if xs.length + ys.length ≤ lim then some (.list (xs ++ ys)) else none
  | .tuple xs, .tuple ys => if xs.length + ys.length ≤ lim ∧ xs ≠ [] ∧ ys ≠ [] then some (.tuple (xs ++ ys)) else none
  | .str x, .str y => if x.length + y.length ≤ lim then some (.str (x ++ y)) else none
  | _, _ => none
def rAddD (K : PySem.W.Frag) : R2 := fun x y H Q => (rI0 (fun i j => .int (i + j)) x y H Q ∨ rCat x y H Q) ∨ (rCatT K x y H Q ∨ (fun x y H Q => ∃ i j, x = V.str i ∧ y = V.str j ∧ i.length + j.length ≤ sizeLine ∧ Q (.str (i ++ j)) H : R2) x y H Q)
theorem op_addD : OpR X (binaryOp .Add) (rAddD X.K) := (op_add.or op_cat).or (op_catT.or op_add_str)
theorem rd_addD : RD K (rAddD K) dAdd := by
  intro A H x y d e z lv q1 q2 hf Q k
  have ll := lim_line
  unfold dAdd at hf
  split at hf
  · cases hf
    cases q1
    cases q2
    exact .inl (.inl ⟨_, _, rfl, rfl, k _ H (Same.refl H) (.int _)⟩)
  · split at hf
    · rename_i xs ys hz
      cases hf
      cases q1 with
      | lst h1 a1 z1 =>
        cases q2 with
        | lst h2 a2 z2 =>
          have e1 := a1.length
          have e2 := a2.length
          refine .inl (.inr ⟨_, _, _, _, rfl, rfl, (er_some.mp h1).2, (er_some.mp h2).2, by omega, fun p hp => ?_⟩)
          exact k _ _ (same_new hp) (.lst (er_new hp lv) ((a1.append a2).refl_same (same_new hp)) (by rw [List.length_append]; exact hz))
    · cases hf
  · split at hf
    · rename_i xs ys hz
      cases hf
      obtain ⟨hz, n1, n2⟩ := hz
      cases q1 with
      | tup h1 a1 z1 =>
        cases q2 with
        | tup h2 a2 z2 =>
          have e1 := a1.length
          have e2 := a2.length
          have m1 := List.length_pos_iff.mpr n1
          have m2 := List.length_pos_iff.mpr n2
          refine .inr (.inl ⟨_, _, _, _, rfl, rfl, sqT_same er_le h1, sqT_same er_le h2, fun w => ?_, by omega, fun w => ?_, fun _ p hp => ?_⟩)
          · rw [w] at e1; simp at e1; omega
          · rw [w] at e2; simp at e2; omega
          · exact k _ _ (same_new hp) (.tup (SqT.of (er_new hp lv)) ((a1.append a2).refl_same (same_new hp)) (by rw [List.length_append]; exact hz))
    · cases hf
  · split at hf
    · cases hf
      cases q1
      cases q2
      exact .inr (.inr ⟨_, _, rfl, rfl, by omega, k _ H (Same.refl H) (.str _)⟩)
    · cases hf
  · cases hf
theorem pd_add (ha : PDE X S a F) (hb : PDE X S b G) : PDE X S (.BinOp a .Add b pos) (eBin dAdd F G) := pd_bin op_addD rd_addD ha hb
abbrev dSub : PyData → PyData → Option PyData := dI2 fun i j => some (.int (i - j))
theorem pd_sub (ha : PDE X S a F) (hb : PDE X S b G) : PDE X S (.BinOp a .Sub b pos) (eBin dSub F G) := pd_bin op_sub (rd_I0 fun _ _ _ => .int _) ha hb
instance (i j : Int) : Decidable (CMul i j) := by unfold CMul; infer_instance
instance (i j : Int) : Decidable (CDiv i j) := by unfold CDiv; infer_instance
abbrev dMulI : PyData → PyData → Option PyData := dI2 fun i j => if CMul i j then some (.int (i * j)) else none
theorem pd_mulI (ha : PDE X S a F) (hb : PDE X S b G) : PDE X S (.BinOp a .Mult b pos) (eBin dMulI F G) := pd_bin op_mul (rd_I fun _ _ _ => .int _) ha hb
abbrev dMod : PyData → PyData → Option PyData := dI2 fun i j => if 0 < j then some (.int (i % j)) else none
theorem pd_mod (ha : PDE X S a F) (hb : PDE X S b G) : PDE X S (.BinOp a .Mod b pos) (eBin dMod F G) := pd_bin op_mod (rd_I fun _ _ _ => .int _) ha hb
abbrev dFdiv : PyData → PyData → Option PyData := dI2 fun i j => if CDiv i j then some (.int (i / j)) else none
theorem pd_fdiv (ha : PDE X S a F) (hb : PDE X S b G) : PDE X S (.BinOp a .FloorDiv b pos) (eBin dFdiv F G) := pd_bin op_fdiv (rd_I fun _ _ _ => .int _) ha hb
/-- a list times an int, an int times an int -/
def dMul : PyData → PyData → Option PyData
  | .int i, .int j => if CMul i j then some (.int (i * j)) else none
  | .list xs, .int k => if 0 ≤ k ∧ k ≤ 1000000 ∧ xs.length * k.toNat ≤ lim then some (.list (List.replicate k.toNat xs).flatten) else none
  | _, _ => none
theorem DqAll.replicate {vs : List V} {ds : List PyData} (h : DqAll K H vs ds) : ∀ n : Nat, DqAll K H (List.replicate n vs).flatten (List.replicate n ds).flatten
  | 0 => .nil
  | n + 1 => by
    rw [List.replicate_succ, List.flatten_cons, List.replicate_succ, List.flatten_cons]
    exact h.append (DqAll.replicate h n)
def rMulD : R2 := fun x y H Q => rI CMul (fun i j => .int (i * j)) x y H Q ∨ rRep x y H Q
theorem op_mulD : OpR X (binaryOp .Mult) rMulD := op_mul.or op_rep
theorem rd_mulD : RD K rMulD dMul := by
  intro A H x y d e z lv q1 q2 hf Q k
  have ll := lim_line
  unfold dMul at hf
  split at hf
  · split at hf
    · rename_i hc
      cases hf
      cases q1
      cases q2
      exact .inl ⟨_, _, rfl, rfl, hc, k _ H (Same.refl H) (.int _)⟩
    · cases hf
  · split at hf
    · rename_i xs n hz
      obtain ⟨z0, z1, z2⟩ := hz
      cases hf
      cases q2
      cases q1 with
      | lst h1 a1 z3 =>
        have e1 := a1.length
        refine .inr ⟨_, _, _, rfl, rfl, (er_some.mp h1).2, by omega, by omega, by rw [e1]; omega, fun p hp => ?_⟩
        refine k _ _ (same_new hp) (.lst (er_new hp lv) ((a1.replicate _).refl_same (same_new hp)) ?_)
        rw [List.length_flatten, List.map_replicate, List.sum_replicate_nat, Nat.mul_comm]
        exact z2
    · cases hf
  · cases hf
theorem pd_mul (ha : PDE X S a F) (hb : PDE X S b G) : PDE X S (.BinOp a .Mult b pos) (eBin dMul F G) := pd_bin op_mulD rd_mulD ha hb
def eUn (f : PyData → Option PyData) (F : Rho → Option PyData) : Rho → Option PyData := fun ρ => (F ρ).bind f
def dNeg : PyData → Option PyData
  | .int i => some (.int (-i))
  | _ => none
theorem pd_neg (ha : PDE X S a F) : PDE X S (.UnaryOp .USub a pos) (eUn dNeg F) := (pe_un un_neg ha).weak fun σ H Q ⟨A, ρ, z, R, hf, k⟩ => by
  obtain ⟨d, h1, hf⟩ := bind_some hf
  unfold dNeg at hf
  split at hf
  · cases hf
    refine ⟨A, ρ, _, R, h1, fun v H1 s1 q1 => ?_⟩
    cases q1
    exact ⟨_, rfl, k _ H1 s1 (.int _)⟩
  · cases hf

/-! ### subscripts -/
def dIx : PyData → PyData → Option PyData
  | .list xs, .int i => atI xs i
  | .tuple xs, .int i => atI xs i
  | .str x, .int i => if x.length ≤ lim then (atI x.cps.toList i).map fun c => .str ⟨#[c]⟩ else none
  | .dict [(.none, .list xs)], .int i => atI xs i
  | _, _ => none
theorem atI_map {α β : Type} (f : α → β) (xs : List α) (i : Int) : L2.atI (xs.map f) i = (L2.atI xs i).map f := by
  unfold L2.atI
  rw [List.length_map]
  cases ixN xs.length i with
  | none => rfl
  | some j => simp
theorem DqAll.atI {vs : List V} {ds : List PyData} {i : Int} {d : PyData} (h : DqAll K H vs ds) (e : L2.atI ds i = some d) : ∃ v, L2.atI vs i = some v ∧ Dq K H v d := by
  unfold L2.atI at e ⊢
  rw [h.length]
  cases q : ixN ds.length i with
  | none => rw [q] at e; cases e
  | some j =>
    rw [q] at e
    exact h.get e
theorem rd_ix : RD K (rIx K) dIx := by
  intro A H x y d e z lv q1 q2 hf Q k
  have ll := lim_line
  unfold dIx at hf
  split at hf
  · cases q2
    cases q1 with
    | lst h1 a1 z1 =>
      obtain ⟨v, h2, h3⟩ := a1.atI hf
      exact .inl ⟨_, _, _, v, rfl, rfl, SqL.of (er_some.mp h1).2, h2, k v H (Same.refl H) h3⟩
  · cases q2
    cases q1 with
    | tup h1 a1 z1 =>
      obtain ⟨v, h2, h3⟩ := a1.atI hf
      exact .inr (.inl ⟨_, _, _, v, rfl, rfl, sqT_same er_le h1, h2, k v H (Same.refl H) h3⟩)
  · split at hf
    · cases q2
      cases q1
      rename_i hz
      obtain ⟨c, hc, rfl⟩ := Option.map_eq_some_iff.mp hf
      exact .inr (.inr ⟨_, _, c, rfl, rfl, by omega, hc, k _ H (Same.refl H) (.str _)⟩)
    · cases hf
  · cases q2
    cases q1 with
    | scr h =>
      rw [atI_map] at hf
      obtain ⟨n, hn, rfl⟩ := Option.map_eq_some_iff.mp hf
      exact .inl ⟨_, _, _, .int n, rfl, rfl, sqL_same er_le h, by rw [atI_map, hn]; rfl, k _ H (Same.refl H) (.int _)⟩
  · cases hf
theorem pd_ix (ha : PDE X S a F) (hb : PDE X S b G) (hs : PlainIx b) : PDE X S (.Subscript a b pos) (eBin dIx F G) := pd_ixR ix_seq rd_ix ha hb hs
theorem dq_ints : ∀ is : List Int, DqAll K H (is.map V.int) (is.map PyData.int)
  | [] => .nil
  | i :: is => .cons (.int i) (dq_ints is)
/-- a[lo:hi] -/
def cutD {α : Type} (xs : List α) (lo hi : Option Int) : List α := (xs.drop (HT.sIx xs.length 0 lo)).take (HT.sIx xs.length xs.length hi - HT.sIx xs.length 0 lo)
theorem cutD_len {α : Type} (xs : List α) (lo hi : Option Int) : (cutD xs lo hi).length ≤ xs.length := by
  unfold cutD
  rw [List.length_take, List.length_drop]
  omega
def dCut (lo hi : Option Int) : PyData → Option PyData
  | .list xs => some (.list (cutD xs lo hi))
  | .tuple xs => if HT.sIx xs.length 0 lo = 0 ∧ HT.sIx xs.length xs.length hi = xs.length then none else some (.tuple (cutD xs lo hi))
  | .dict [(.none, .list xs)] => if (cutD xs lo hi).length ≤ lim then some (.list (cutD xs lo hi)) else none
  | _ => none
/-- a bound of a slice -/
def PDO (X : Cx) (S : Amb) (e : Option Expr) (F : Rho → Option (Option Int)) : Prop :=
  PO X e (fun σ H Q => ∃ (A : Addr → Prop) (ρ : Rho) (b : Option Int), Rel X.K A S ρ σ H ∧ F ρ = some b ∧ ∀ H', Same H H' → Q b H')
def oN : Rho → Option (Option Int) := fun _ => some none
def oS (F : Rho → Option PyData) : Rho → Option (Option Int) := fun ρ => (F ρ).bind fun d => match d with
  | .int i => some (some i)
  | _ => none
theorem _root_.L2.PO.weak {e : Option Expr} {t t' : TO} (h : PO X e t) (w : ∀ σ H Q, t' σ H Q → t σ H Q) : PO X e t' := ⟨fun pins s σ H Q I q => h.run pins s σ H Q I (w _ _ _ q)⟩
theorem pdo_none : PDO X S none oN := po_none.weak fun σ H Q ⟨A, ρ, b, R, hf, k⟩ => by
  cases hf
  exact k H (Same.refl H)
theorem pdo_some (h : PDE X S e F) : PDO X S (some e) (oS F) := (po_some h).weak fun σ H Q ⟨A, ρ, b, R, hf, k⟩ => by
  obtain ⟨d, h1, hf⟩ := bind_some hf
  split at hf
  · cases hf
    refine ⟨A, ρ, _, R, h1, fun v H' s q => ?_⟩
    cases q
    exact ⟨_, rfl, k H' s⟩
  · cases hf
def eCut (F : Rho → Option PyData) (L U : Rho → Option (Option Int)) : Rho → Option PyData := fun ρ => (F ρ).bind fun d => (L ρ).bind fun l => (U ρ).bind fun u => dCut l u d
def rSlD (K : PySem.W.Frag) : V → Option Int → Option Int → Hp → VK → Prop := fun x lo hi H Q => rSlL K x lo hi H Q ∨ rSlT K x lo hi H Q
theorem pd_slice {lo hi : Option Expr} {L U : Rho → Option (Option Int)} {p2 : Pos} (he : PDE X S a F) (hl : PDO X S lo L) (hu : PDO X S hi U) : PDE X S (.Subscript a (.Slice lo hi none p2) pos) (eCut F L U) :=
  (pe_slice (r := rSlD X.K) (sl_list.or sl_tup) he hl hu).weak fun σ H Q ⟨A, ρ, z, R, hf, k⟩ => by
    obtain ⟨d, h1, hf⟩ := bind_some hf
    obtain ⟨l, h2, hf⟩ := bind_some hf
    obtain ⟨u, h3, hf⟩ := bind_some hf
    refine ⟨A, ρ, d, R, h1, fun v H1 s1 q1 => ⟨A, ρ, l, R.same s1, h2, fun H2 s2 => ⟨A, ρ, u, R.same (s1.trans s2), h3, fun H3 s3 => ?_⟩⟩⟩
    have lv := live_same ((s1.trans s2).trans s3) R.live
    have q1 := q1.refl_same (s2.trans s3)
    unfold dCut at hf
    split at hf
    · cases hf
      cases q1 with
      | lst g a1 z1 =>
        refine .inl ⟨_, _, rfl, SqL.of (er_some.mp g).2, fun p hp => ?_⟩
        refine k _ _ (((s1.trans s2).trans s3).trans (same_new hp)) (.lst (er_new hp lv) ?_ (Nat.le_trans (cutD_len _ _ _) z1))
        unfold cutV cutD
        rw [a1.length]
        exact ((a1.drop _).take _).refl_same (same_new hp)
    · split at hf
      · cases hf
      · rename_i hw
        cases hf
        cases q1 with
        | tup g a1 z1 =>
          refine .inr ⟨_, _, rfl, sqT_same er_le g, by rw [a1.length]; exact hw, fun p hp => ?_⟩
          refine k _ _ (((s1.trans s2).trans s3).trans (same_new hp)) (.tup (SqT.of (er_new hp lv)) ?_ (Nat.le_trans (cutD_len _ _ _) z1))
          unfold cutV cutD
          rw [a1.length]
          exact ((a1.drop _).take _).refl_same (same_new hp)
    · split at hf
      · rename_i hz
        cases hf
        cases q1 with
        | scr g =>
          refine .inl ⟨_, _, rfl, sqL_same er_le g, fun p hp => ?_⟩
          refine k _ _ (((s1.trans s2).trans s3).trans (same_new hp)) (.lst (er_new hp lv) ?_ hz)
          unfold cutV cutD
          rw [List.length_map, List.length_map, ← List.map_drop, ← List.map_take, ← List.map_drop, ← List.map_take]
          exact dq_ints _
      · cases hf
    · cases hf
end
end PD
end

section
set_option Elab.async false
set_option linter.all false
set_option maxRecDepth 100000
set_option maxHeartbeats 2000000
/-! # PD 3: comparisons, truth, displays, arguments -/
namespace PD
open PySem PySem.Spec PyProof.Rows L2
section
variable {X : Cx} {S : Amb} {K : PySem.W.Frag} {A : Addr → Prop} {H H' : Hp} {e a b c : Expr} {pos : Pos} {F G E : Rho → Option PyData} {T U : Rho → Option Bool}

/-! ### a value as a test, a test as a value -/
def bOf (F : Rho → Option PyData) : Rho → Option Bool := fun ρ => (F ρ).bind fun d => match d with
  | .bool b => some b
  | _ => none
theorem bOf_some {ρ : Rho} {b : Bool} (h : bOf F ρ = some b) : F ρ = some (.bool b) := by
  obtain ⟨d, h1, h2⟩ := bind_some h
  split at h2
  · cases h2; exact h1
  · cases h2
theorem vt_of {σ : L2.St} {Q : Bool → Hp → Prop} (h : VT K S (bOf F) σ H Q) : tTest (VP K S F) σ H Q := by
  obtain ⟨A, ρ, b, R, hf, k⟩ := h
  refine ⟨A, ρ, _, R, bOf_some hf, fun v H' s q => ?_⟩
  cases q
  exact ⟨b, rfl, k H' s⟩
/-- calls and names as tests -/
theorem pt_of (h : PDE X S e F) (he : ∀ whole, isTrue e X.env whole = (do let v ← whole; standAt e.pos; holding [v] (truthy v)) := by intro _; rfl) : PDT X S e (bOf F) := (pt_val h he).weak fun σ H Q h => vt_of h

/-! ### comparisons -/
theorem pd_cmp {op : CmpOp} {r : R2} {f : PyData → PyData → Option PyData} (ho : OpR X (compareOp op) r) (hr : RD X.K r f) (ha : PDE X S a F) (hb : PDE X S b G) (hm : behindInMarks op b = false) : PDE X S (.Compare a [op] [b] pos) (eBin f F G) :=
  (pe_cmpR ho ha hb hm).weak fun _ _ _ h => vp_bin hr h
theorem pt_cmpD {op : CmpOp} {r : R2} {f : PyData → PyData → Option PyData} (ho : OpR X (compareOp op) r) (hr : RD X.K r f) (ha : PDE X S a F) (hb : PDE X S b G) (hm : behindInMarks op b = false) : PDT X S (.Compare a [op] [b] pos) (bOf (eBin f F G)) :=
  (pt_cmpR ho ha hb hm).weak fun σ H Q h => vp_bin hr (vt_of h)
def eChain (f g : PyData → PyData → Option PyData) (F G E : Rho → Option PyData) : Rho → Option PyData := fun ρ => (F ρ).bind fun d => (G ρ).bind fun e => (f d e).bind fun t => match t with
  | .bool true => (E ρ).bind fun u => g e u
  | .bool false => some (.bool false)
  | _ => none
theorem vp_chain {r r' : R2} {f g : PyData → PyData → Option PyData} (hr : RD K r f) (hr' : RD K r' g) {σ : L2.St} {Q : VK} (h : VP K S (eChain f g F G E) σ H Q) : tChain r r' (VP K S F) (VP K S G) (VP K S E) σ H Q := by
  obtain ⟨A, ρ, z, R, hf, k⟩ := h
  obtain ⟨d, h1, hf⟩ := bind_some hf
  obtain ⟨e, h2, hf⟩ := bind_some hf
  obtain ⟨t, h3, hf⟩ := bind_some hf
  refine ⟨A, ρ, d, R, h1, fun v H1 s1 q1 => ⟨A, ρ, e, R.same s1, h2, fun w H2 s2 q2 => ?_⟩⟩
  refine hr A H2 v w d e t (live_same (s1.trans s2) R.live) (q1.refl_same s2) q2 h3 _ fun u H3 s3 q3 => ?_
  split at hf
  · cases q3
    refine ⟨true, rfl, ?_⟩
    rw [if_pos rfl]
    obtain ⟨u, h4, hf⟩ := bind_some hf
    refine ⟨A, ρ, u, R.same ((s1.trans s2).trans s3), h4, fun x H4 s4 q4 => ?_⟩
    exact hr' A H4 w x e u z (live_same (((s1.trans s2).trans s3).trans s4) R.live) (q2.refl_same (s3.trans s4)) q4 hf Q fun y H5 s5 q5 => k y H5 ((((s1.trans s2).trans s3).trans s4).trans s5) q5
  · cases q3
    cases hf
    refine ⟨false, rfl, ?_⟩
    rw [if_neg Bool.false_ne_true]
    exact k _ H3 ((s1.trans s2).trans s3) (.bl false)
  · cases hf
theorem pd_chain {op op' : CmpOp} {r r' : R2} {f g : PyData → PyData → Option PyData} (ho : OpR X (compareOp op) r) (hr : RD X.K r f) (ho' : OpR X (compareOp op') r') (hr' : RD X.K r' g) (ha : PDE X S a F) (hb : PDE X S b G) (hc : PDE X S c E)
    (hm : lastMarks [op, op'] [b, c] = false) : PDE X S (.Compare a [op, op'] [b, c] pos) (eChain f g F G E) := (pe_chain ho ho' ha hb hc hm).weak fun _ _ _ h => vp_chain hr hr' h
theorem pt_chainD {op op' : CmpOp} {r r' : R2} {f g : PyData → PyData → Option PyData} (ho : OpR X (compareOp op) r) (hr : RD X.K r f) (ho' : OpR X (compareOp op') r') (hr' : RD X.K r' g) (ha : PDE X S a F) (hb : PDE X S b G) (hc : PDE X S c E)
    (hm : lastMarks [op, op'] [b, c] = false) : PDT X S (.Compare a [op, op'] [b, c] pos) (bOf (eChain f g F G E)) := (pt_chain ho ho' ha hb hc hm).weak fun _ _ _ h => vp_chain hr hr' (vt_of h)

/-! the operators -/
def dEq (d e : PyData) : Option PyData := if SeqAt.shaped d = true ∧ SeqAt.shaped e = true then some (.bool (PyData.eqv d e)) else none
def dNe (d e : PyData) : Option PyData := if SeqAt.shaped d = true ∧ SeqAt.shaped e = true then some (.bool (!PyData.eqv d e)) else none
theorem shaped_dp {d : PyData} {v : V} (h : SeqAt.shaped d = true) (q : Dq K H v d) : Dp K H v d := q.dp (SeqAt.canLay_of_shaped h)
theorem rd_eq : RD K (rEqD K) dEq := by
  intro A H x y d e z lv q1 q2 hf Q k
  unfold dEq at hf
  split at hf
  · rename_i hs
    cases hf
    exact ⟨d, e, shaped_dp hs.1 q1.full, shaped_dp hs.2 q2.full, hs.1, hs.2, k _ H (Same.refl H) (.bl _)⟩
  · cases hf
theorem rd_ne : RD K (rNeD K) dNe := by
  intro A H x y d e z lv q1 q2 hf Q k
  unfold dNe at hf
  split at hf
  · rename_i hs
    cases hf
    exact ⟨d, e, shaped_dp hs.1 q1.full, shaped_dp hs.2 q2.full, hs.1, hs.2, k _ H (Same.refl H) (.bl _)⟩
  · cases hf
/-- order -/
def rOrd (K : PySem.W.Frag) (g : PyData → PyData → Bool) : R2 := fun x y H Q => ∃ d e, Dp K H x d ∧ Dp K H y e ∧ PySem.W.alike d e = true ∧ d ≠ .none ∧ SeqAt.shaped d = true ∧ Q (.bl (g d e)) H
theorem op_ltD (hu : X.A.units + 64 < cLine) : OpR X (compareOp .Lt) (rOrd X.K fun d e => PySem.W.dataLt d e) := by
  intro pins s σ H x y v u Q I rx ry h
  obtain ⟨d, e, hd, he, al, nn, sh, q⟩ := h
  obtain ⟨as, r1⟩ := Dp.reads I d x v hd rx
  obtain ⟨bs, r2⟩ := Dp.reads I e y u he ry
  exact PySem.W.lt_data r1 r2 al nn (SeqAt.room_of_shaped sh hu) ⟨.bl _, H, I, rfl, q⟩
theorem op_gtD (hu : X.A.units + 64 < cLine) : OpR X (compareOp .Gt) (rOrd X.K fun d e => PySem.W.dataLt e d) := by
  intro pins s σ H x y v u Q I rx ry h
  obtain ⟨d, e, hd, he, al, nn, sh, q⟩ := h
  obtain ⟨as, r1⟩ := Dp.reads I d x v hd rx
  obtain ⟨bs, r2⟩ := Dp.reads I e y u he ry
  exact PySem.W.gt_data r1 r2 al nn (SeqAt.room_of_shaped sh hu) ⟨.bl _, H, I, rfl, q⟩
theorem op_leD (hu : X.A.units + 64 < cLine) : OpR X (compareOp .LtE) (rOrd X.K fun d e => !PySem.W.dataLt e d) := by
  intro pins s σ H x y v u Q I rx ry h
  obtain ⟨d, e, hd, he, al, nn, sh, q⟩ := h
  obtain ⟨as, r1⟩ := Dp.reads I d x v hd rx
  obtain ⟨bs, r2⟩ := Dp.reads I e y u he ry
  exact PySem.W.le_data r1 r2 al nn (SeqAt.room_of_shaped sh hu) ⟨.bl _, H, I, rfl, q⟩
theorem op_geD (hu : X.A.units + 64 < cLine) : OpR X (compareOp .GtE) (rOrd X.K fun d e => !PySem.W.dataLt d e) := by
  intro pins s σ H x y v u Q I rx ry h
  obtain ⟨d, e, hd, he, al, nn, sh, q⟩ := h
  obtain ⟨as, r1⟩ := Dp.reads I d x v hd rx
  obtain ⟨bs, r2⟩ := Dp.reads I e y u he ry
  exact PySem.W.ge_data r1 r2 al nn (SeqAt.room_of_shaped sh hu) ⟨.bl _, H, I, rfl, q⟩
/-- two ints, else data that compare item by item -/
def dOrd (gi : Int → Int → Bool) (g : PyData → PyData → Bool) : PyData → PyData → Option PyData
  | .int i, .int j => some (.bool (gi i j))
  | .list xs, .list ys => if PySem.W.alike (.list xs) (.list ys) = true ∧ SeqAt.shaped (.list xs) = true ∧ SeqAt.shaped (.list ys) = true then some (.bool (g (.list xs) (.list ys))) else none
  | .tuple xs, .tuple ys => if PySem.W.alike (.tuple xs) (.tuple ys) = true ∧ SeqAt.shaped (.tuple xs) = true ∧ SeqAt.shaped (.tuple ys) = true then some (.bool (g (.tuple xs) (.tuple ys))) else none
  | _, _ => none
def rOrdI (K : PySem.W.Frag) (gi : Int → Int → Bool) (g : PyData → PyData → Bool) : R2 := fun x y H Q => rI0 (fun i j => .bl (gi i j)) x y H Q ∨ rOrd K g x y H Q
theorem rd_ord {gi : Int → Int → Bool} {g : PyData → PyData → Bool} : RD K (rOrdI K gi g) (dOrd gi g) := by
  intro A H x y d e z lv q1 q2 hf Q k
  unfold dOrd at hf
  split at hf
  · cases hf
    cases q1
    cases q2
    exact .inl ⟨_, _, rfl, rfl, k _ H (Same.refl H) (.bl _)⟩
  · split at hf
    · rename_i hs
      cases hf
      exact .inr ⟨_, _, shaped_dp hs.2.1 q1.full, shaped_dp hs.2.2 q2.full, hs.1, (fun z => nomatch z), hs.2.1, k _ H (Same.refl H) (.bl _)⟩
    · cases hf
  · split at hf
    · rename_i hs
      cases hf
      exact .inr ⟨_, _, shaped_dp hs.2.1 q1.full, shaped_dp hs.2.2 q2.full, hs.1, (fun z => nomatch z), hs.2.1, k _ H (Same.refl H) (.bl _)⟩
    · cases hf
  · cases hf
abbrev dLt := dOrd (fun i j => decide (i < j)) fun d e => PySem.W.dataLt d e
abbrev dGt := dOrd (fun i j => decide (j < i)) fun d e => PySem.W.dataLt e d
abbrev dLe := dOrd (fun i j => decide (i ≤ j)) fun d e => !PySem.W.dataLt e d
abbrev dGe := dOrd (fun i j => decide (j ≤ i)) fun d e => !PySem.W.dataLt d e
theorem op_ltA (hu : X.A.units + 64 < cLine) : OpR X (compareOp .Lt) (rOrdI X.K (fun i j => decide (i < j)) fun d e => PySem.W.dataLt d e) := op_lt.or (op_ltD hu)
theorem op_gtA (hu : X.A.units + 64 < cLine) : OpR X (compareOp .Gt) (rOrdI X.K (fun i j => decide (j < i)) fun d e => PySem.W.dataLt e d) := op_gt.or (op_gtD hu)
theorem op_leA (hu : X.A.units + 64 < cLine) : OpR X (compareOp .LtE) (rOrdI X.K (fun i j => decide (i ≤ j)) fun d e => !PySem.W.dataLt e d) := op_le.or (op_leD hu)
theorem op_geA (hu : X.A.units + 64 < cLine) : OpR X (compareOp .GtE) (rOrdI X.K (fun i j => decide (j ≤ i)) fun d e => !PySem.W.dataLt d e) := op_ge.or (op_geD hu)
/-- in -/
def flatD : PyData → Bool
  | .none | .bool _ | .int _ | .str _ => true
  | _ => false
def dIn (neg : Bool) : PyData → PyData → Option PyData
  | x, .list ys => if SeqAt.shaped x = true ∧ SeqAt.shaped (.list ys) = true then some (.bool (if neg then !(ys.any fun z => PyData.eqv z x) else ys.any fun z => PyData.eqv z x)) else none
  | x, .tuple ys => if flatD x = true ∧ ys.all flatD = true then some (.bool (if neg then !(ys.any fun z => PyData.eqv z x) else ys.any fun z => PyData.eqv z x)) else none
  | _, _ => none
def rInA (K : PySem.W.Frag) (neg : Bool) : R2 := fun x y H Q => (if neg then rNotInD K x y H Q else rInD K x y H Q) ∨ rIn K neg x y H Q
theorem flatD_V {d : PyData} {v : V} (h : flatD d = true) (q : Dq K H v d) : flatV v = true := by
  cases q <;> first | rfl | (exact absurd h (by simp [flatD]))
theorem flatD_all {ds : List PyData} {vs : List V} (q : DqAll K H vs ds) (h : ds.all flatD = true) : vs.all flatV = true := by
  rw [List.all_eq_true] at h ⊢
  intro v hv
  obtain ⟨i, hi⟩ := List.getElem?_of_mem hv
  obtain ⟨d, hd, q⟩ := q.getV hi
  exact flatD_V (h d (List.mem_of_getElem? hd)) q
theorem eqV_D {d e : PyData} {x y : V} (hd : flatD d = true) (he : flatD e = true) (q : Dq K H x d) (r : Dq K H y e) : eqV x y = PyData.eqv d e := by
  cases q <;> first
    | (simp [flatD] at hd; done)
    | (cases r <;> first
        | (simp [flatD] at he; done)
        | (simp [eqV, PyData.eqv]))
theorem inV_D {d : PyData} {x : V} (hd : flatD d = true) (q : Dq K H x d) : ∀ {ds : List PyData} {vs : List V}, DqAll K H vs ds → ds.all flatD = true → inV x vs = ds.any fun z => PyData.eqv z d
  | _, _, .nil, _ => rfl
  | d0 :: ds0, _ :: _, .cons q1 q2, h => by
    have h' : flatD d0 = true ∧ ds0.all flatD = true := by simpa using h
    have ih := inV_D hd q q2 h'.2
    unfold inV at ih ⊢
    rw [List.any_cons, List.any_cons, ih, eqV_D h'.1 hd q1 q]
theorem rd_in {neg : Bool} : RD K (rInA K neg) (dIn neg) := by
  intro A H x y d e z lv q1 q2 hf Q k
  unfold dIn at hf
  split at hf
  · split at hf
    · rename_i hs
      cases hf
      refine .inl ?_
      have g1 := shaped_dp hs.1 q1.full
      have g2 := shaped_dp hs.2 q2.full
      have kk := k _ H (Same.refl H) (.bl _)
      cases neg with
      | true => exact ⟨d, _, g1, g2, hs.1, hs.2, kk⟩
      | false => exact ⟨d, _, g1, g2, hs.1, hs.2, kk⟩
    · cases hf
  · split at hf
    · rename_i hs
      cases hf
      cases q2 with
      | tup h1 a1 z1 =>
        refine .inr ⟨_, _, rfl, .inr (sqT_same er_le h1), flatD_V hs.1 q1, flatD_all a1 hs.2, ?_⟩
        rw [inV_D hs.1 q1 a1 hs.2]
        exact k _ H (Same.refl H) (.bl _)
    · cases hf
  · cases hf
theorem op_inA (hu : X.A.units + 65 < cLine) : OpR X (compareOp .In) (rInA X.K false) := by
  intro pins s σ H x y v u Q I rx ry h
  rcases h with h | h
  · exact op_inD hu pins s σ H x y v u Q I rx ry h
  · exact op_in_seq pins s σ H x y v u Q I rx ry h
theorem op_niA (hu : X.A.units + 65 < cLine) : OpR X (compareOp .NotIn) (rInA X.K true) := by
  intro pins s σ H x y v u Q I rx ry h
  rcases h with h | h
  · exact op_notInD hu pins s σ H x y v u Q I rx ry h
  · exact op_notIn_seq pins s σ H x y v u Q I rx ry h
/-- is None, is not None -/
def isNoneD : PyData → Bool
  | .none => true
  | _ => false
theorem isNone_V {d : PyData} {v : V} (q : Dq K H v d) : decide (v = .non) = isNoneD d := by
  cases q <;> simp [isNoneD]
def dIsN : PyData → PyData → Option PyData
  | d, .none => some (.bool (isNoneD d))
  | _, _ => none
def dNotN : PyData → PyData → Option PyData
  | d, .none => some (.bool (!isNoneD d))
  | _, _ => none
theorem rd_isN : RD K (fun x y H Q => y = .non ∧ Q (.bl (decide (x = .non))) H) dIsN := by
  intro A H x y d e z lv q1 q2 hf Q k
  unfold dIsN at hf
  split at hf
  · cases hf
    cases q2
    refine ⟨rfl, ?_⟩
    rw [isNone_V q1]
    exact k _ H (Same.refl H) (.bl _)
  · cases hf
theorem rd_notN : RD K (fun x y H Q => y = .non ∧ Q (.bl (!decide (x = .non))) H) dNotN := by
  intro A H x y d e z lv q1 q2 hf Q k
  unfold dNotN at hf
  split at hf
  · cases hf
    cases q2
    refine ⟨rfl, ?_⟩
    rw [isNone_V q1]
    exact k _ H (Same.refl H) (.bl _)
  · cases hf

/-! ### and, or, not -/
def bAnd (T U : Rho → Option Bool) : Rho → Option Bool := fun ρ => (T ρ).bind fun b => if b = true then U ρ else some false
def bOr (T U : Rho → Option Bool) : Rho → Option Bool := fun ρ => (T ρ).bind fun b => if b = true then some true else U ρ
def bNot (T : Rho → Option Bool) : Rho → Option Bool := fun ρ => (T ρ).map (!·)
variable {rest : List Expr}
theorem pwd_and1 (h : PDT X S a T) : PW X (.BoolOp .And [a] pos) (VT X.K S T) := pw_and1 h
theorem pwd_or1 (h : PDT X S a T) : PW X (.BoolOp .Or [a] pos) (VT X.K S T) := pw_or1 h
theorem pwd_and (h1 : PDT X S a T) (h2 : PW X (.BoolOp .And (b :: rest) pos) (VT X.K S U)) : PW X (.BoolOp .And (a :: b :: rest) pos) (VT X.K S (bAnd T U)) := (pw_and h1 h2).weak fun σ H Q ⟨A, ρ, z, R, hf, k⟩ => by
  obtain ⟨t, h1, hf⟩ := bind_some hf
  refine ⟨A, ρ, t, R, h1, fun H1 s1 => ?_⟩
  cases t with
  | true =>
    rw [if_pos rfl] at hf ⊢
    exact ⟨A, ρ, z, R.same s1, hf, fun H2 s2 => k H2 (s1.trans s2)⟩
  | false =>
    rw [if_neg Bool.false_ne_true] at hf ⊢
    cases hf
    exact k H1 s1
theorem pwd_or (h1 : PDT X S a T) (h2 : PW X (.BoolOp .Or (b :: rest) pos) (VT X.K S U)) : PW X (.BoolOp .Or (a :: b :: rest) pos) (VT X.K S (bOr T U)) := (pw_or h1 h2).weak fun σ H Q ⟨A, ρ, z, R, hf, k⟩ => by
  obtain ⟨t, h1, hf⟩ := bind_some hf
  refine ⟨A, ρ, t, R, h1, fun H1 s1 => ?_⟩
  cases t with
  | true =>
    rw [if_pos rfl] at hf ⊢
    cases hf
    exact k H1 s1
  | false =>
    rw [if_neg Bool.false_ne_true] at hf ⊢
    exact ⟨A, ρ, z, R.same s1, hf, fun H2 s2 => k H2 (s1.trans s2)⟩
theorem pdt_w (h : PW X e (VT X.K S T)) : PDT X S e T := h.pt
theorem pdt_not (h : PDT X S a T) : PDT X S (.UnaryOp .Not a pos) (bNot T) := (pt_not h).weak fun σ H Q ⟨A, ρ, z, R, hf, k⟩ => by
  obtain ⟨t, h1, rfl⟩ := Option.map_eq_some_iff.mp hf
  exact ⟨A, ρ, t, R, h1, fun H1 s1 => k H1 s1⟩
/-- as values -/
def eAnd (F G : Rho → Option PyData) : Rho → Option PyData := fun ρ => (bOf F ρ).bind fun b => if b = true then (bOf G ρ).map .bool else some (.bool false)
def eOr (F G : Rho → Option PyData) : Rho → Option PyData := fun ρ => (bOf F ρ).bind fun b => if b = true then some (.bool true) else (bOf G ρ).map .bool
def eNot (F : Rho → Option PyData) : Rho → Option PyData := fun ρ => (bOf F ρ).map fun b => .bool (!b)
theorem pd_one {op} (h : PDE X S a F) : PDE X S (.BoolOp op [a] pos) F := pe_one h
theorem pd_and (h1 : PDE X S a F) (h2 : PDE X S (.BoolOp .And (b :: rest) pos) G) : PDE X S (.BoolOp .And (a :: b :: rest) pos) (eAnd F G) := (pe_and h1 h2).weak fun σ H Q ⟨A, ρ, z, R, hf, k⟩ => by
  obtain ⟨t, h1, hf⟩ := bind_some hf
  refine ⟨A, ρ, _, R, bOf_some h1, fun v H1 s1 q1 => ?_⟩
  cases q1
  refine ⟨t, rfl, ?_⟩
  cases t with
  | true =>
    rw [if_pos rfl] at hf ⊢
    obtain ⟨u, h2, rfl⟩ := Option.map_eq_some_iff.mp hf
    exact ⟨A, ρ, _, R.same s1, bOf_some h2, fun w H2 s2 q2 => k w H2 (s1.trans s2) q2⟩
  | false =>
    rw [if_neg Bool.false_ne_true] at hf ⊢
    cases hf
    exact k _ H1 s1 (.bl false)
theorem pd_or (h1 : PDE X S a F) (h2 : PDE X S (.BoolOp .Or (b :: rest) pos) G) : PDE X S (.BoolOp .Or (a :: b :: rest) pos) (eOr F G) := (pe_or h1 h2).weak fun σ H Q ⟨A, ρ, z, R, hf, k⟩ => by
  obtain ⟨t, h1, hf⟩ := bind_some hf
  refine ⟨A, ρ, _, R, bOf_some h1, fun v H1 s1 q1 => ?_⟩
  cases q1
  refine ⟨t, rfl, ?_⟩
  cases t with
  | true =>
    rw [if_pos rfl] at hf ⊢
    cases hf
    exact k _ H1 s1 (.bl true)
  | false =>
    rw [if_neg Bool.false_ne_true] at hf ⊢
    obtain ⟨u, h2, rfl⟩ := Option.map_eq_some_iff.mp hf
    exact ⟨A, ρ, _, R.same s1, bOf_some h2, fun w H2 s2 q2 => k w H2 (s1.trans s2) q2⟩
theorem pd_not (h : PDE X S a F) : PDE X S (.UnaryOp .Not a pos) (eNot F) := (pe_not h).weak fun σ H Q ⟨A, ρ, z, R, hf, k⟩ => by
  obtain ⟨t, h1, rfl⟩ := Option.map_eq_some_iff.mp hf
  refine ⟨A, ρ, _, R, bOf_some h1, fun v H1 s1 q1 => ?_⟩
  cases q1
  exact ⟨t, rfl, k _ H1 s1 (.bl _)⟩
def eIf (T : Rho → Option Bool) (F G : Rho → Option PyData) : Rho → Option PyData := fun ρ => (T ρ).bind fun b => if b = true then F ρ else G ρ
theorem pd_if (hc : PDT X S c T) (ha : PDE X S a F) (hb : PDE X S b G) : PDE X S (.IfExp c a b pos) (eIf T F G) := (pe_ifExp hc ha hb).weak fun σ H Q ⟨A, ρ, z, R, hf, k⟩ => by
  obtain ⟨t, h1, hf⟩ := bind_some hf
  refine ⟨A, ρ, t, R, h1, fun H1 s1 => ?_⟩
  cases t with
  | true =>
    rw [if_pos rfl] at hf ⊢
    exact ⟨A, ρ, z, R.same s1, hf, fun v H2 s2 q => k v H2 (s1.trans s2) q⟩
  | false =>
    rw [if_neg Bool.false_ne_true] at hf ⊢
    exact ⟨A, ρ, z, R.same s1, hf, fun v H2 s2 q => k v H2 (s1.trans s2) q⟩

/-! ### arguments, displays -/
def aNil : Rho → Option (List PyData) := fun _ => some []
def aCons (F : Rho → Option PyData) (G : Rho → Option (List PyData)) : Rho → Option (List PyData) := fun ρ => (F ρ).bind fun d => (G ρ).bind fun ds => some (d :: ds)
variable {es : List Expr} {L : Rho → Option (List PyData)}
theorem pda_nil : PDA X S [] aNil := pa_nil.weak fun σ H Q ⟨A, ρ, z, R, hf, k⟩ => by
  cases hf
  exact k [] H (Same.refl H) .nil
theorem pda_cons (ha : PDE X S e F) (hr : PDA X S es L) (hs : starEach (e :: es) X.env = (false, eval e X.env) :: starEach es X.env := by rfl) : PDA X S (e :: es) (aCons F L) := (pa_cons ha hr hs).weak fun σ H Q ⟨A, ρ, z, R, hf, k⟩ => by
  obtain ⟨d, h1, hf⟩ := bind_some hf
  obtain ⟨ds, h2, hf⟩ := bind_some hf
  cases hf
  exact ⟨A, ρ, d, R, h1, fun v H1 s1 q1 => ⟨A, ρ, ds, R.same s1, h2, fun vs H2 s2 q2 => k _ H2 (s1.trans s2) (.cons (q1.refl_same s2) q2)⟩⟩
def eLst (L : Rho → Option (List PyData)) : Rho → Option PyData := fun ρ => (L ρ).bind fun ds => if ds.length ≤ lim then some (.list ds) else none
def eTup (L : Rho → Option (List PyData)) : Rho → Option PyData := fun ρ => (L ρ).bind fun ds => if ds.length ≤ lim then some (.tuple ds) else none
theorem pd_lst (h : PDA X S es L) : PDE X S (.List es pos) (eLst L) := (pe_lst h).weak fun σ H Q ⟨A, ρ, z, R, hf, k⟩ => by
  have ll := lim_line
  obtain ⟨ds, h1, hf⟩ := bind_some hf
  split at hf
  · rename_i hz
    cases hf
    refine ⟨A, ρ, ds, R, h1, fun vs H1 s1 q1 => ⟨by rw [q1.length]; omega, fun p hp => ?_⟩⟩
    exact k _ _ (s1.trans (same_new hp)) (.lst (er_new hp (live_same s1 R.live)) (q1.refl_same (same_new hp)) hz)
  · cases hf
theorem pd_tup {x1} (h : PDA X S es L) : PDE X S (.Tuple es x1 pos) (eTup L) := (pe_tup h).weak fun σ H Q ⟨A, ρ, z, R, hf, k⟩ => by
  have ll := lim_line
  obtain ⟨ds, h1, hf⟩ := bind_some hf
  split at hf
  · rename_i hz
    cases hf
    refine ⟨A, ρ, ds, R, h1, fun vs H1 s1 q1 => ⟨by rw [q1.length]; omega, fun p hp => ?_⟩⟩
    exact k _ _ (s1.trans (same_new hp)) (.tup (SqT.of (er_new hp (live_same s1 R.live))) (q1.refl_same (same_new hp)) hz)
  · cases hf
end
end PD
end

section
set_option Elab.async false
set_option linter.all false
set_option maxRecDepth 100000
set_option maxHeartbeats 2000000
/-! # PD 4: targets, what is walked, comprehensions -/
namespace PD
open PySem PySem.Spec PyProof.Rows L2

/-! ### targets -/
def VGt (K : PySem.W.Frag) (S : Amb) (ts : List Nat) (T : PyData → Rho → Option Rho) : TG := fun v σ H Q => ∃ (A : Addr → Prop) (ρ ρ' : Rho) (d : PyData), Rel K A S ρ σ H ∧ Dq K (er A H) v d ∧ T d ρ = some ρ' ∧
  ∀ σ' : L2.St, Rel K A S ρ' σ' H → σ'.length = σ.length → (∀ i, i ∉ ts → σ'[i]? = σ[i]?) → Q σ' H
def tgN (i : Nat) : PyData → Rho → Option Rho := fun d ρ => some (ρ.set i (.dat d))
def putAll : List Nat → List PyData → Rho → Option Rho
  | [], [], ρ => some ρ
  | i :: is, d :: ds, ρ => putAll is ds (ρ.set i (.dat d))
  | _, _, _ => none
def tgT (is : List Nat) : PyData → Rho → Option Rho
  | .tuple ds, ρ => putAll is ds ρ
  | _, _ => none
section
variable {X : Cx} {S : Amb} {K : PySem.W.Frag} {A : Addr → Prop} {H H' : Hp} {e : Expr} {pos : Pos}
abbrev PDG (X : Cx) (S : Amb) (e : Expr) (ts : List Nat) (T : PyData → Rho → Option Rho) : Prop := PG X e (VGt X.K S ts T)
theorem pdg_name {i : Nat} (h : PG X e (gName i)) : PDG X S e [i] (tgN i) := h.weak fun v σ H Q ⟨A, ρ, ρ', d, R, q, hf, k⟩ => by
  cases hf
  refine k _ (R.put i q) (by simp) fun j hj => ?_
  rw [List.getElem?_set_ne]
  intro z
  exact hj (by simp [z])
/-- names one after another -/
def VGs (K : PySem.W.Frag) (S : Amb) (is : List Nat) : TGs := fun vs σ H Q => ∃ (A : Addr → Prop) (ρ ρ' : Rho) (ds : List PyData), Rel K A S ρ σ H ∧ DqAll K (er A H) vs ds ∧ putAll is ds ρ = some ρ' ∧
  ∀ σ' : L2.St, Rel K A S ρ' σ' H → σ'.length = σ.length → (∀ i, i ∉ is → σ'[i]? = σ[i]?) → Q σ' H
theorem pdgs_nil : PGs X [] (VGs X.K S []) := ⟨fun pins s σ H vs us Q I r ⟨A, ρ, ρ', ds, R, q, hf, k⟩ => by
  cases ds with
  | nil =>
    cases hf
    cases q
    exact pgs_nil.run pins s σ H [] us Q I r ⟨rfl, k σ R rfl fun _ _ => rfl⟩
  | cons d ds => cases hf⟩
theorem pdgs_cons {i : Nat} {is : List Nat} {es : List Expr} (h1 : PG X e (gName i)) (h2 : PGs X es (VGs X.K S is)) (hs : (assignEach (e :: es) X.env).map (·.2) = assign e X.env :: (assignEach es X.env).map (·.2) := by rfl) : PGs X (e :: es) (VGs X.K S (i :: is)) :=
  ⟨fun pins s σ H vs us Q I r ⟨A, ρ, ρ', ds, R, q, hf, k⟩ => by
    cases ds with
    | nil => cases hf
    | cons d ds =>
      cases q with
      | @cons v vs d' ds' q1 q2 =>
        refine (pgs_cons h1 h2 hs).run pins s σ H (v :: vs) us Q I r ⟨v, vs, rfl, ?_⟩
        refine ⟨A, ρ.set i (.dat d), ρ', ds, R.put i q1, q2, hf, fun σ' R' hl hk => k σ' R' (by rw [hl, List.length_set]) fun j hj => ?_⟩
        have hj' : j ≠ i ∧ j ∉ is := by simpa using hj
        rw [hk j hj'.2, List.getElem?_set_ne (Ne.symm hj'.1)]⟩
theorem pdg_tup {es : List Expr} {k : Nat} {is : List Nat} (hc : X.calm = true) (h : PGs X es (VGs X.K S is)) (hn : (assignEach es X.env).length = is.length := by rfl) (hst : (assignEach es X.env).findIdx? (·.1) = none := by rfl) : PDG X S (.Tuple es k pos) is (tgT is) :=
  (pg_tup hc h hn hst).weak fun v σ H Q ⟨A, ρ, ρ', d, R, q, hf, k⟩ => by
    unfold tgT at hf
    split at hf
    · rename_i ds
      cases q with
      | tup h1 a1 z1 =>
        have hlen : ∀ (is : List Nat) (ds : List PyData) (ρ ρ' : Rho), putAll is ds ρ = some ρ' → ds.length = is.length := by
          intro is
          induction is with
          | nil => intro ds ρ ρ' hf; cases ds with
            | nil => rfl
            | cons d ds => cases hf
          | cons i is ih => intro ds ρ ρ' hf; cases ds with
            | nil => cases hf
            | cons d ds => exact congrArg (· + 1) (ih ds _ _ hf)
        exact ⟨_, _, rfl, sqT_same er_le h1, by rw [a1.length]; exact hlen _ _ _ _ hf, A, ρ, ρ', ds, R, a1, hf, k⟩
    · cases hf

/-! ### what is walked -/
/-- ds, item by item, whatever is made meanwhile -/
def VI2 (K : PySem.W.Frag) (S : Amb) (F : Rho → Option (List PyData)) : TI := fun σ H R => ∃ (A : Addr → Prop) (ρ : Rho) (ds : List PyData), Rel K A S ρ σ H ∧ F ρ = some ds ∧ ∀ J H', Same H H' → ds.length ≤ lim → Src K A J ds H' → R J H'
abbrev PDI2 (X : Cx) (S : Amb) (tg e : Expr) (F : Rho → Option (List PyData)) : Prop := PI X tg e (VI2 X.K S F)
/-- the items of a list, of a tuple -/
def iLst (F : Rho → Option PyData) : Rho → Option (List PyData) := fun ρ => (F ρ).bind fun d => match d with
  | .list ds => some ds
  | _ => none
def iTpl (F : Rho → Option PyData) : Rho → Option (List PyData) := fun ρ => (F ρ).bind fun d => match d with
  | .tuple ds => some ds
  | _ => none
variable {F G : Rho → Option PyData} {tg a b : Expr}
theorem getElem_len {α : Type} {xs : List α} {i : Nat} {x : α} (h : xs[i]? = some x) : i < xs.length := (List.getElem?_eq_some_iff.mp h).1
theorem src_list {p : Addr} {vs : List V} {ds : List PyData} (h : H p = some (.lst vs)) (hp : ¬ A p) (q : DqAll K (er A H) vs ds) : Src K A (Itl K p) ds H := by
  intro A' H' s lv
  have h' := er_some.mp (s p _ (er_some.mpr ⟨hp, h⟩))
  refine ⟨fun i d hd => ?_, ⟨vs, SqL.of h'.2, by rw [q.length]; exact Nat.le_refl _⟩⟩
  obtain ⟨v, hv, qv⟩ := q.get hd
  refine ⟨⟨vs, v, SqL.of h'.2, hv⟩, fun x H'' hy => ?_⟩
  obtain ⟨rfl, hy⟩ := hy
  have e := hy vs (SqL.of h'.2)
  rw [hv] at e
  cases e
  exact ⟨Same.refl _, qv.mono s⟩
theorem src_tup {p : Addr} {vs : List V} {ds : List PyData} (h : SqT K (er A H) p vs) (q : DqAll K (er A H) vs ds) : Src K A (Itt K p) ds H := by
  intro A' H' s lv
  have h' : SqT K H' p vs := sqT_same er_le (sqT_same s h)
  refine ⟨fun i d hd => ?_, ⟨vs, h', by rw [q.length]; exact Nat.le_refl _⟩⟩
  obtain ⟨v, hv, qv⟩ := q.get hd
  refine ⟨⟨vs, v, h', hv⟩, fun x H'' hy => ?_⟩
  obtain ⟨rfl, hy⟩ := hy
  have e := hy vs h'
  rw [hv] at e
  cases e
  exact ⟨Same.refl _, qv.mono s⟩
theorem pdi_list (h : PDE X S e F) : PDI2 X S tg e (iLst F) := (pi_list h).weak fun σ H R ⟨A, ρ, ds, Re, hf, k⟩ => by
  obtain ⟨d, h1, hf⟩ := bind_some hf
  split at hf
  · cases hf
    refine ⟨A, ρ, _, Re, h1, fun v H1 s1 q1 => ?_⟩
    cases q1 with
    | lst g a1 z1 =>
      have g' := er_some.mp g
      exact ⟨_, rfl, ⟨_, SqL.of g'.2⟩, k _ H1 s1 z1 (src_list g'.2 g'.1 a1)⟩
  · cases hf
theorem pdi_tup (h : PDE X S e F) : PDI2 X S tg e (iTpl F) := (pi_tup h).weak fun σ H R ⟨A, ρ, ds, Re, hf, k⟩ => by
  obtain ⟨d, h1, hf⟩ := bind_some hf
  split at hf
  · cases hf
    refine ⟨A, ρ, _, Re, h1, fun v H1 s1 q1 => ?_⟩
    cases q1 with
    | tup g a1 z1 =>
      exact ⟨_, rfl, ⟨_, sqT_same er_le g⟩, k _ H1 s1 z1 (src_tup g a1)⟩
  · cases hf
/-- a range -/
def rng (lo : Int) (n : Nat) : List PyData := (List.range n).map fun i => .int (lo + (i : Nat))
theorem rng_len {lo : Int} {n : Nat} : (rng lo n).length = n := by simp [rng]
theorem src_range {lo : Int} {n : Nat} : Src K A (Itr lo n) (rng lo n) H := by
  intro A' H' s lv
  refine ⟨fun i d hd => ?_, by rw [rng_len]; exact Nat.le_refl _⟩
  have hi := getElem_len hd
  rw [rng_len] at hi
  refine ⟨hi, fun x H'' hy => ?_⟩
  obtain ⟨rfl, rfl⟩ := hy
  refine ⟨Same.refl _, ?_⟩
  simp [rng, hi] at hd
  subst hd
  exact .int _
def iRange1 (F : Rho → Option PyData) : Rho → Option (List PyData) := fun ρ => (F ρ).bind fun d => match d with
  | .int n => if n ≤ 1000000 ∧ -1000000 ≤ n then some (rng 0 n.toNat) else none
  | _ => none
def iRange2 (F G : Rho → Option PyData) : Rho → Option (List PyData) := fun ρ => (F ρ).bind fun d => (G ρ).bind fun e => match d, e with
  | .int m, .int n => if (n - m).toNat ≤ 1000000 ∧ -1000000000 ≤ m ∧ m ≤ 1000000000 ∧ -1000000000 ≤ n ∧ n ≤ 1000000000 then some (rng m (n - m).toNat) else none
  | _, _ => none
theorem pdi_range1 {p : Pos} (hg : Gl X "range") (hm : X.mg "range" = none) (h : PDE X S a F) (hs : starEach [a] X.env = [(false, eval a X.env)] := by rfl) : PDI2 X S tg (.Call (.Name "range" p) [a] [] pos) (iRange1 F) :=
  (pi_range1 hg hm (pda_cons h pda_nil (by rw [hs]; rfl)) hs).weak fun σ H R ⟨A, ρ, ds, Re, hf, k⟩ => by
    obtain ⟨d, h1, hf⟩ := bind_some hf
    split at hf
    · split at hf
      · rename_i n hn
        cases hf
        refine ⟨A, ρ, [.int n], Re, by simp [aCons, aNil, h1], fun vs H1 s1 q1 => ?_⟩
        cases q1 with
        | cons q1 q2 =>
          cases q2
          cases q1
          exact ⟨_, rfl, by omega, by omega, k _ H1 s1 (by rw [rng_len]; show _ ≤ 1000000; omega) src_range⟩
      · cases hf
    · cases hf
theorem pdi_range2 {p : Pos} (hg : Gl X "range") (hm : X.mg "range" = none) (h : PDE X S a F) (h' : PDE X S b G) (hs : starEach [a, b] X.env = [(false, eval a X.env), (false, eval b X.env)] := by rfl) (hs2 : starEach [b] X.env = [(false, eval b X.env)] := by rfl) :
    PDI2 X S tg (.Call (.Name "range" p) [a, b] [] pos) (iRange2 F G) :=
  (pi_range2 hg hm (pda_cons h (pda_cons h' pda_nil (by rw [hs2]; rfl)) (by rw [hs, hs2])) hs hs2).weak fun σ H R ⟨A, ρ, ds, Re, hf, k⟩ => by
    obtain ⟨d, h1, hf⟩ := bind_some hf
    obtain ⟨e, h2, hf⟩ := bind_some hf
    split at hf
    · split at hf
      · rename_i m n _ hn
        cases hf
        refine ⟨A, ρ, [.int m, .int n], Re, by simp [aCons, aNil, h1, h2], fun vs H1 s1 q1 => ?_⟩
        cases q1 with
        | cons q1 q2 =>
          cases q2 with
          | cons q2 q3 =>
            cases q3
            cases q1
            cases q2
            exact ⟨_, _, rfl, ⟨by omega, by omega, by omega, by omega⟩, k _ H1 s1 (by rw [rng_len]; exact hn.1) src_range⟩
      · cases hf
    · cases hf

/-- .. while all that stands is as it was -/
def SrcP (K : PySem.W.Frag) (A : Addr → Prop) (J : It) (ds : List PyData) (H : Hp) : Prop :=
  ∀ (A' : Addr → Prop) (H' : Hp), Same H H' → Same (er A H) (er A' H') → (∀ a, A' a → H' a ≠ none) → (∀ i d, ds[i]? = some d → J.go i H' ∧ ∀ x H'', J.yld i H' x H'' → Same H' H'' ∧ Dq K (er A' H'') x d) ∧ J.stop ds.length H'
def VIP (K : PySem.W.Frag) (S : Amb) (F : Rho → Option (List PyData)) : TI := fun σ H R => ∃ (A : Addr → Prop) (ρ : Rho) (ds : List PyData), Rel K A S ρ σ H ∧ F ρ = some ds ∧ ∀ J H', Same H H' → ds.length ≤ lim → SrcP K A J ds H' → R J H'
abbrev PDIP (X : Cx) (S : Amb) (tg e : Expr) (F : Rho → Option (List PyData)) : Prop := PI X tg e (VIP X.K S F)
theorem pdip {I : Rho → Option (List PyData)} (h : PDI2 X S tg e I) : PDIP X S tg e I := h.weak fun σ H R ⟨A, ρ, ds, Re, hf, k⟩ => ⟨A, ρ, ds, Re, hf, fun J H' s hl src => k J H' s hl fun A' H2 _ s2 lv => src A' H2 s2 lv⟩
/-- over a list of one's own -/
def iOwn (i : Nat) : Rho → Option (List PyData) := fun ρ => match ρ[i]? with
  | some (.own _ ds) => some ds
  | _ => none
theorem pdip_own {i : Nat} (h : PE X e (tVar i)) : PDIP X S tg e (iOwn i) := (pi_list h).weak fun σ H R ⟨A, ρ, ds, Re, hf, k⟩ => by
  unfold iOwn at hf
  split at hf
  · rename_i t ds' hi
    cases hf
    obtain ⟨l, vs, e1, e0, e2, e3, e4, e5, e6⟩ := Re.own i t _ hi
    refine ⟨_, e1, l, rfl, ⟨vs, SqL.of e4⟩, k _ H (Same.refl H) e6 fun A' H' s s2 lv => ?_⟩
    have h' := s _ _ e4
    refine ⟨fun j d hd => ?_, ⟨vs, SqL.of h', by rw [e5.length]; exact Nat.le_refl _⟩⟩
    obtain ⟨v, hv, qv⟩ := e5.get hd
    refine ⟨⟨vs, v, SqL.of h', hv⟩, fun x H'' hy => ?_⟩
    obtain ⟨rfl, hy⟩ := hy
    have e := hy vs (SqL.of h')
    rw [hv] at e
    cases e
    exact ⟨Same.refl _, qv.mono s2⟩
  · cases hf

/-! ### list comprehensions -/
theorem wipe_get (σ : L2.St) (i : Nat) : ∀ vs : List Nat, (L2.wipe σ vs)[i]? = if i ∈ vs ∧ i < σ.length then some none else σ[i]?
  | [] => by simp [L2.wipe]
  | v :: vs => by
    have ih := wipe_get σ i vs
    unfold L2.wipe
    by_cases hv : v = i
    · subst hv
      by_cases hl : v < σ.length
      · rw [List.getElem?_set_self (by rw [wipe_length]; exact hl), if_pos ⟨List.mem_cons_self, hl⟩]
      · rw [List.getElem?_eq_none (by rw [List.length_set, wipe_length]; omega), if_neg (fun z => hl z.2), List.getElem?_eq_none (by omega)]
    · rw [List.getElem?_set_ne hv, ih]
      have e : (i ∈ v :: vs ∧ i < σ.length) = (i ∈ vs ∧ i < σ.length) := by simp [Ne.symm hv]
      simp only [e]
theorem wipe_same {σ σ2 : L2.St} {vs : List Nat} (hl : σ2.length = (L2.wipe σ vs).length) (hk : ∀ i, i ∉ vs → σ2[i]? = (L2.wipe σ vs)[i]?) : L2.wipe σ2 vs = L2.wipe σ vs := by
  rw [wipe_length] at hl
  apply List.ext_getElem?
  intro i
  rw [wipe_get, wipe_get]
  by_cases h : i ∈ vs
  · by_cases h2 : i < σ.length
    · rw [if_pos ⟨h, by omega⟩, if_pos ⟨h, h2⟩]
    · rw [if_neg (fun z => h2 (by omega)), if_neg (fun z => h2 z.2), List.getElem?_eq_none (by omega), List.getElem?_eq_none (by omega)]
  · rw [if_neg (fun z => h z.1), if_neg (fun z => h z.1), hk i h, wipe_get, if_neg (fun z => h z.1)]
/-- one more address is protected -/
theorem Rel.under {ρ : Rho} {σ : L2.St} {D : Addr} (r : Rel K A S ρ σ H) (s : Same H H') (hD : H D = none) (hD' : H' D ≠ none) : Rel K (fun a => A a ∨ a = D) S ρ σ H' := by
  have su : Same (er A H) (er (fun a => A a ∨ a = D) H') := fun a o h => by
    obtain ⟨h1, h2⟩ := er_some.mp h
    refine er_some.mpr ⟨fun z => ?_, s a o h2⟩
    rcases z with z | z
    · exact h1 z
    · rw [z, hD] at h2; cases h2
  refine ⟨r.len, fun i d h => ?_, fun i t ds h => ?_, r.inj, fun a h => .inl (r.sub a h), fun a h => ?_⟩
  · obtain ⟨v, h1, h2⟩ := r.dat i d h
    exact ⟨v, h1, h2.mono su⟩
  · obtain ⟨l, vs, h1, h0, h2, h3, h4, h5, h6⟩ := r.own i t ds h
    exact ⟨l, vs, h1, h0, .inl h2, h3, s _ _ h4, h5.mono su, h6⟩
  · rcases h with h | h
    · exact live_same s r.live a h
    · rw [h]; exact hD'
theorem under_same {D : Addr} (s : Same H H') (hD : H D = none) : Same (er A H) (er (fun a => A a ∨ a = D) H') := fun a o h => by
  obtain ⟨h1, h2⟩ := er_some.mp h
  refine er_some.mpr ⟨fun z => ?_, s a o h2⟩
  rcases z with z | z
  · exact h1 z
  · rw [z, hD] at h2; cases h2
def lcGo (T : PyData → Rho → Option Rho) (C : Rho → Option Bool) (E : Rho → Option PyData) (ρ : Rho) : List PyData → Option (List PyData)
  | [] => some []
  | d :: ds => (T d ρ).bind fun ρ1 => (C ρ1).bind fun b => if b = true then (E ρ1).bind fun r => (lcGo T C E ρ ds).map (r :: ·) else lcGo T C E ρ ds
def eLC (I : Rho → Option (List PyData)) (T : PyData → Rho → Option Rho) (C : Rho → Option Bool) (E : Rho → Option PyData) (vs : List Nat) : Rho → Option PyData := fun ρ => (I ρ).bind fun ds => (lcGo T C E (wipeR ρ vs) ds).map .list
def bYes : Rho → Option Bool := fun _ => some true
theorem lcGo_len {T : PyData → Rho → Option Rho} {C : Rho → Option Bool} {E : Rho → Option PyData} {ρ : Rho} : ∀ {ds rs : List PyData}, lcGo T C E ρ ds = some rs → rs.length ≤ ds.length
  | [], rs, h => by cases h; exact Nat.le_refl _
  | d :: ds, rs, h => by
    unfold lcGo at h
    obtain ⟨ρ1, _, h⟩ := bind_some h
    obtain ⟨b, _, h⟩ := bind_some h
    split at h
    · obtain ⟨r, _, h⟩ := bind_some h
      obtain ⟨rs', h1, rfl⟩ := Option.map_eq_some_iff.mp h
      have := lcGo_len h1
      simp only [List.length_cons]
      omega
    · have := lcGo_len h
      simp only [List.length_cons]
      omega
theorem drop_get {α : Type} {xs : List α} {i : Nat} {x : α} (h : xs[i]? = some x) : xs.drop i = x :: xs.drop (i + 1) := by
  obtain ⟨hi, e⟩ := List.getElem?_eq_some_iff.mp h
  rw [List.drop_eq_getElem_cons hi, e]
/-- where a comprehension stands at turn i: rs is made, what is left makes the rest -/
structure LcAt (K : PySem.W.Frag) (A : Addr → Prop) (H1 : Hp) (D : Addr) (go : List PyData → Option (List PyData)) (ds all : List PyData) (i : Nat) (H' : Hp) : Prop where
  same : Same H1 H'
  st : ∃ vs rs rest, H' D = some (.lst vs) ∧ DqAll K (er (fun a => A a ∨ a = D) H') vs rs ∧ go (ds.drop i) = some rest ∧ rs ++ rest = all
theorem lc_run {I : Rho → Option (List PyData)} {T : PyData → Rho → Option Rho} {C : Rho → Option Bool} {E : Rho → Option PyData} {ts vs : List Nat} {σ : L2.St} {ρ : Rho} {ds all : List PyData} {Q : VK} (hts : ∀ i ∈ ts, i ∈ vs)
    (R : Rel K A S ρ σ H) (h1 : I ρ = some ds) (h2 : lcGo T C E (wipeR ρ vs) ds = some all)
    (k : ∀ (D : Addr) (ws : List V) (H' : Hp), H D = none → ¬ A D → Same H H' → H' D = some (.lst ws) → DqAll K (er (fun a => A a ∨ a = D) H') ws all → all.length ≤ lim → Q (.ref D) H') : tLc (VIP K S I) (VGt K S ts T) (VT K S C) (VP K S E) vs σ H Q := by
  have ll := lim_line
  refine ⟨A, ρ, ds, R, h1, fun J H1 s1 hlim src D hD => ?_⟩
  have hlen := lcGo_len h2
  have nA : ¬ A D := fun z => live_same s1 R.live D z hD
  refine ⟨fun i m H' => m = ds.length - i ∧ i ≤ ds.length ∧ LcAt K A H1 D (lcGo T C E (wipeR ρ vs)) ds all i H', ⟨ds.length, by simp, Nat.zero_le _, same_new hD, [], [], all, upd_same, .nil, h2, rfl⟩, ?_⟩
  rintro i m H2 ⟨rfl, hi, P⟩
  obtain ⟨ss, ws, rs, rest, hDl, hq, hgo, hall⟩ := P
  have R2 : Rel K (fun a => A a ∨ a = D) S ρ σ H2 := (R.same s1).under ss hD (by rw [hDl]; exact fun z => nomatch z)
  obtain ⟨sgo, sstop⟩ := src _ H2 ss (under_same ss hD) R2.live
  by_cases hlt : i < ds.length
  · obtain ⟨d, hd⟩ : ∃ d, ds[i]? = some d := ⟨ds[i], by simp [hlt]⟩
    obtain ⟨g1, g2⟩ := sgo i d hd
    refine .inr ⟨g1, fun H' => LcAt K A H1 D (lcGo T C E (wipeR ρ vs)) ds all (i + 1) H', fun H' p => ⟨ds.length - (i + 1), by omega, rfl, hlt, p⟩, fun x H3 hy => ?_⟩
    obtain ⟨s3, qx⟩ := g2 x H3 hy
    rw [drop_get hd] at hgo
    unfold lcGo at hgo
    obtain ⟨ρ1, hT, hgo⟩ := bind_some hgo
    obtain ⟨b, hC, hgo⟩ := bind_some hgo
    refine ⟨_, _, ρ1, d, (R2.same s3).wipe vs, qx, hT, fun σ2 Rσ hl hk => ⟨wipe_same hl fun j hj => hk j fun z => hj (hts j z), ?_⟩⟩
    refine ⟨_, ρ1, b, Rσ, hC, fun H4 s4 => ?_⟩
    have s14 : Same H1 H4 := (ss.trans s3).trans s4
    have hD4 : H4 D = some (.lst ws) := s4 _ _ (s3 _ _ hDl)
    cases b with
    | false =>
      rw [if_neg Bool.false_ne_true] at hgo
      refine iteF ?_
      exact ⟨s14, ws, rs, rest, hD4, hq.refl_same (s3.trans s4), hgo, hall⟩
    | true =>
      rw [if_pos rfl] at hgo
      refine iteT ?_
      obtain ⟨r, hE, hgo⟩ := bind_some hgo
      obtain ⟨rest', hgo', rfl⟩ := Option.map_eq_some_iff.mp hgo
      refine ⟨_, ρ1, r, Rσ.same s4, hE, fun y H5 s5 qy => ⟨ws, s5 _ _ hD4, ?_, ?_, ws ++ [y], rs ++ [r], rest', upd_same, ?_, hgo', by rw [List.append_assoc]; exact hall⟩⟩
      · have e1 := hq.length
        have e2 : rs.length + (rest'.length + 1) = all.length := by rw [← hall, List.length_append, List.length_cons]
        omega
      · intro a o q
        by_cases hb : a = D
        · rw [hb, hD] at q; cases q
        · rw [upd_ne hb]; exact s5 a o (s14 a o q)
      · have u := er_upd (A := fun a => A a ∨ a = D) (H := H5) (a := D) (o := .lst (ws ++ [y])) (.inr rfl)
        exact ((hq.refl_same ((s3.trans s4).trans s5)).mono u).snoc (qy.mono u)
  · have e : i = ds.length := by omega
    subst e
    refine .inl ⟨sstop, ?_⟩
    rw [List.drop_length] at hgo
    cases hgo
    rw [List.append_nil] at hall
    subst hall
    exact k D _ H2 (same_back s1 hD) nA (s1.trans ss) hDl hq (by omega)
theorem vp_lc {I : Rho → Option (List PyData)} {T : PyData → Rho → Option Rho} {C : Rho → Option Bool} {E : Rho → Option PyData} {ts vs : List Nat} {σ : L2.St} {Q : VK} (hts : ∀ i ∈ ts, i ∈ vs)
    (h : VP K S (eLC I T C E vs) σ H Q) : tLc (VIP K S I) (VGt K S ts T) (VT K S C) (VP K S E) vs σ H Q := by
  obtain ⟨A, ρ, z, R, hf, k⟩ := h
  obtain ⟨ds, h1, hf⟩ := bind_some hf
  obtain ⟨all, h2, rfl⟩ := Option.map_eq_some_iff.mp hf
  exact lc_run hts R h1 h2 fun D ws H' hD nA s hDl hq hz => k _ H' s (.lst (er_some.mpr ⟨nA, hDl⟩) (hq.mono (er_sub fun a => .inl)) hz)
variable {elt tg iter : Expr} {ifs : List Expr} {scope : Scope} {own : List (Str × Nat)} {I : Rho → Option (List PyData)} {T : PyData → Rho → Option Rho} {C : Rho → Option Bool} {E : Rho → Option PyData} {ts : List Nat}
theorem pdts_nil {X : Cx} : PTs X [] (VT X.K S bYes) := ⟨fun pins s σ H Q I ⟨A, ρ, b, R, hf, k⟩ => by
  cases hf
  exact pts_nil.run pins s σ H Q I (k H (Same.refl H))⟩
theorem pdts_one {X : Cx} {c : Expr} (h : PDT X S c C) : PTs X [c] (VT X.K S C) := pts_one h
theorem pd_lc (hc : X.calm = true) (hN : X.N.Nodup) (hi : PDIP X S tg iter I) (ok : BlkOk X.N X.env.scope scope own) (hts : ∀ i ∈ ts, i ∈ own.map (·.2))
    (hg : ∀ (s : Shared) (H : Hp) (C : Addr) (cl : List (Str × Addr)) (fp : List Addr), PDG (X.blk s H scope (compEnvC scope cl C X.env) fp) S tg ts T)
    (ht : ∀ (s : Shared) (H : Hp) (D : Addr) (cl : List (Str × Addr)) (fp : List Addr), PTs (X.blk s H scope (compEnvC scope cl D X.env) fp) ifs (VT X.K S C))
    (he : ∀ (s : Shared) (H : Hp) (C : Addr) (cl : List (Str × Addr)) (fp : List Addr), PDE (X.blk s H scope (compEnvC scope cl C X.env) fp) S elt E) (hs : ∀ x, foldedSetIterable iter X.env x = pure x := by intro _; rfl) :
    PDE X S (.ListComp elt [⟨tg, iter, ifs, 0⟩] scope pos) (eLC I T C E (own.map (·.2))) := (pe_lc hc hN hi ok hg ht he hs).weak fun σ H Q h => vp_lc hts h
end
end PD
end

section
set_option Elab.async false
set_option linter.all false
set_option maxRecDepth 100000
set_option maxHeartbeats 2000000
/-! # PD 5: calls of built-in functions, of methods, of own functions -/
namespace PD
open PySem PySem.Spec PyProof.Rows L2
section
variable {X : Cx} {S : Amb} {K : PySem.W.Frag} {A : Addr → Prop} {H H' : Hp} {e a b c : Expr} {es : List Expr} {pos p : Pos} {F G : Rho → Option PyData} {L : Rho → Option (List PyData)}

/-- what a call on values says of data -/
def RCD (K : PySem.W.Frag) (r : List V → Hp → VK → Prop) (f : List PyData → Option PyData) : Prop := ∀ (A : Addr → Prop) (H : Hp) (xs : List V) (ds : List PyData) (z : PyData), (∀ a, A a → H a ≠ none) → DqAll K (er A H) xs ds → f ds = some z →
  ∀ Q : VK, (∀ v H', Same H H' → Dq K (er A H') v z → Q v H') → r xs H Q
def eCall (f : List PyData → Option PyData) (L : Rho → Option (List PyData)) : Rho → Option PyData := fun ρ => (L ρ).bind f
theorem vp_call {r : List V → Hp → VK → Prop} {f : List PyData → Option PyData} (hr : RCD K r f) {σ : L2.St} {Q : VK} (h : VP K S (eCall f L) σ H Q) : tCB r (VA K S L) σ H Q := by
  obtain ⟨A, ρ, z, R, hf, k⟩ := h
  obtain ⟨ds, h1, hf⟩ := bind_some hf
  exact ⟨A, ρ, ds, R, h1, fun vs H1 s1 q1 => hr A H1 vs ds z (live_same s1 R.live) q1 hf Q fun u H3 s3 q3 => k u H3 (s1.trans s3) q3⟩
theorem pd_callB {x : Str} {id : String} {r : List V → Hp → VK → Prop} {f : List PyData → Option PyData} (hc : CallR X (.builtin id) r) (hr : RCD X.K r f) (hg : Gl X x) (hm : X.mg x = none) (hv : bootBuiltins x = some (.builtin id)) (ha : PDA X S (e :: es) L)
    (hn : x ≠ "__name__" := by decide) (hdb : (x == ("__debug__" : Str)) = false := by decide) (he : starEach (e :: es) X.env = (false, eval e X.env) :: starEach es X.env := by rfl) (hpl : (backTo pos (starEach es X.env)).any (·.1) = false := by rfl) :
    PDE X S (.Call (.Name x p) (e :: es) [] pos) (eCall f L) := (pe_callB hc hg hm hv ha hn hdb he hpl).weak fun σ H Q h => vp_call hr h
theorem pd_callT {x : Str} {T : String} {r : List V → Hp → VK → Prop} {f : List PyData → Option PyData} (hc : CallR X (.type T) r) (hr : RCD X.K r f) (hg : Gl X x) (hm : X.mg x = none) (hv : bootBuiltins x = some (.type T)) (ha : PDA X S (e :: es) L)
    (hn : x ≠ "__name__" := by decide) (hdb : (x == ("__debug__" : Str)) = false := by decide) (he : starEach (e :: es) X.env = (false, eval e X.env) :: starEach es X.env := by rfl) (hpl : (backTo pos (starEach es X.env)).any (·.1) = false := by rfl) :
    PDE X S (.Call (.Name x p) (e :: es) [] pos) (eCall f L) := (pe_callTy hc hg hm hv ha hn hdb he hpl).weak fun σ H Q h => vp_call hr h

/-! ### len -/
def dLen : List PyData → Option PyData
  | [.list xs] => some (.int xs.length)
  | [.tuple xs] => some (.int xs.length)
  | [.str x] => if x.length ≤ lim then some (.int x.length) else none
  | [.dict [(.none, .list xs)]] => some (.int xs.length)
  | _ => none
theorem rcd_len : RCD K (fun xs H Q => ∃ x n, xs = [x] ∧ LenV K x H n ∧ Q (.int n) H) dLen := by
  intro A H xs ds z lv q hf Q k
  have ll := lim_line
  unfold dLen at hf
  split at hf
  · cases hf
    cases q with
    | cons q1 q2 =>
      cases q2
      cases q1 with
      | lst h1 a1 z1 => exact ⟨_, _, rfl, .inl ⟨_, SqL.of (er_some.mp h1).2, a1.length.symm⟩, k _ H (Same.refl H) (.int _)⟩
  · cases hf
    cases q with
    | cons q1 q2 =>
      cases q2
      cases q1 with
      | tup h1 a1 z1 => exact ⟨_, _, rfl, .inr ⟨_, sqT_same er_le h1, a1.length.symm⟩, k _ H (Same.refl H) (.int _)⟩
  · split at hf
    · cases hf
      cases q with
      | cons q1 q2 =>
        cases q2
        cases q1
        exact ⟨_, _, rfl, ⟨by omega, rfl⟩, k _ H (Same.refl H) (.int _)⟩
    · cases hf
  · cases hf
    cases q with
    | cons q1 q2 =>
      cases q2
      cases q1 with
      | scr h => exact ⟨_, _, rfl, .inl ⟨_, sqL_same er_le h, by simp⟩, k _ H (Same.refl H) (.int _)⟩
  · cases hf

/-! ### isinstance -/
inductive Ty where
  | int | bool | list | tuple | str | dict
def Ty.nm : Ty → String
  | .int => "int" | .bool => "bool" | .list => "list" | .tuple => "tuple" | .str => "str" | .dict => "dict"
def tyNm : PyData → String
  | .none => "NoneType" | .bool _ => "bool" | .int _ => "int" | .str _ => "str" | .list _ => "list" | .tuple _ => "tuple" | .dict _ => "dict"
/-- the script is looked at by len, index and slice alone -/
def noScr : PyData → Bool
  | .dict (_ :: _) => false
  | _ => true
def isTy (t : Ty) : PyData → Bool
  | .none => false
  | .bool _ => match t with | .int => true | .bool => true | _ => false
  | .int _ => match t with | .int => true | _ => false
  | .str _ => match t with | .str => true | _ => false
  | .list _ => match t with | .list => true | _ => false
  | .tuple _ => match t with | .tuple => true | _ => false
  | .dict _ => match t with | .dict => true | _ => false
theorem kit_isTy (t : Ty) (d : PyData) : kitB (tyNm d) t.nm = some (isTy t d) := by
  cases d <;> cases t <;> (simp only [tyNm, Ty.nm, isTy]; decide +kernel)
theorem ty_of {d : PyData} {v : V} (q : Dq K H v d) (hn : noScr d = true) : TyX K H v (.type (tyNm d)) := by
  cases q with
  | non => exact .base .non
  | bl b => exact .base (.bl b)
  | int i => exact .base (.int i)
  | str x => exact .base (.str x)
  | lst h _ _ => exact .base (.lst h)
  | tup h _ _ =>
    rcases h with (h | ⟨o, h⟩) | ⟨o, its, n, h1, h2, _⟩
    · exact .base (.tup h)
    · exact .fTuple h
    · exact .kTuple h1 h2
  | dic h => exact .base (.dK h)
  | scr h => cases hn
/-- isinstance(x, T) -/
def eIsi (t : Ty) (F : Rho → Option PyData) : Rho → Option PyData := fun ρ => (F ρ).bind fun d => if noScr d = true then some (.bool (isTy t d)) else none
theorem pd_isi {t : Ty} (hg : Gl X "isinstance") (hm : X.mg "isinstance" = none) (ha : PDE X S a F) (hb : PE X b (tC (.ty t.nm))) (hs : starEach [a, b] X.env = (false, eval a X.env) :: starEach [b] X.env := by rfl) (hs2 : starEach [b] X.env = (false, eval b X.env) :: starEach [] X.env := by rfl)
    (hpl : (backTo pos (starEach [b] X.env)).any (·.1) = false := by rfl) : PDE X S (.Call (.Name "isinstance" p) [a, b] [] pos) (eIsi t F) :=
  (pe_callB call_isi hg hm (by decide +kernel) (pa_cons ha (pa_cons hb pa_nil hs2) hs) (by decide) (by decide) hs hpl).weak fun σ H Q ⟨A, ρ, z, R, hf, k⟩ => by
    obtain ⟨d, h1, hf⟩ := bind_some hf
    split at hf
    · rename_i hn
      cases hf
      exact ⟨A, ρ, d, R, h1, fun v H1 s1 q1 => ⟨_, _, _, _, _, rfl, .ty _, ty_of q1.full hn, kit_ty (kit_isTy t d), k _ H1 s1 (.bl _)⟩⟩
    · cases hf
/-- isinstance(x, (T, U)) -/
def eIsi2 (t u : Ty) (F : Rho → Option PyData) : Rho → Option PyData := fun ρ => (F ρ).bind fun d => if noScr d = true then some (.bool (isTy t d || isTy u d)) else none
theorem pd_isi2 {t u : Ty} {x1 : Nat} {pt : Pos} (hg : Gl X "isinstance") (hm : X.mg "isinstance" = none) (ha : PDE X S a F) (hb : PE X b (tC (.ty t.nm))) (hc : PE X c (tC (.ty u.nm))) (hs : starEach [a, .Tuple [b, c] x1 pt] X.env = (false, eval a X.env) :: starEach [.Tuple [b, c] x1 pt] X.env := by rfl)
    (hs2 : starEach [.Tuple [b, c] x1 pt] X.env = (false, eval (.Tuple [b, c] x1 pt) X.env) :: starEach [] X.env := by rfl)
    (hs3 : starEach [b, c] X.env = (false, eval b X.env) :: starEach [c] X.env := by rfl) (hs4 : starEach [c] X.env = (false, eval c X.env) :: starEach [] X.env := by rfl)
    (hpl : (backTo pos (starEach [.Tuple [b, c] x1 pt] X.env)).any (·.1) = false := by rfl) : PDE X S (.Call (.Name "isinstance" p) [a, .Tuple [b, c] x1 pt] [] pos) (eIsi2 t u F) :=
  (pe_callB call_isiT hg hm (by decide +kernel) (pa_cons ha (pa_cons (pe_tup (pa_cons hb (pa_cons hc pa_nil hs4) hs3)) pa_nil hs2) hs) (by decide) (by decide) hs hpl).weak fun σ H Q ⟨A, ρ, z, R, hf, k⟩ => by
    obtain ⟨d, h1, hf⟩ := bind_some hf
    split at hf
    case isFalse => cases hf
    rename_i hn
    cases hf
    refine ⟨A, ρ, d, R, h1, fun v H1 s1 q1 => ⟨by show 2 ≤ sizeLine; rw [sizeLine_eq]; decide, fun q hq => ?_⟩⟩
    refine ⟨_, q, _, _, [.type t.nm, .type u.nm], _, rfl, upd_same, .cons (.ty _) (.cons (.ty _) .nil), ty_of (q1.full.mono (same_new hq)) hn, ?_, k _ _ (s1.trans (same_new hq)) (.bl _)⟩
    refine kitAny_cons (kit_ty (kit_isTy t d)) (fun h => ?_) (fun h => by rw [h]; rfl)
    refine kitAny_cons (kit_ty (kit_isTy u d)) (fun h2 => ?_) (fun h2 => by rw [h2]; exact Bool.or_true _)
    rw [h, h2]
    exact kitAny_nil

/-! ### all, any, sum, max, min -/
def boolsOf : List PyData → Option (List Bool)
  | [] => some []
  | .bool b :: ds => (boolsOf ds).map (b :: ·)
  | _ => none
theorem boolsOf_vs : ∀ {ds : List PyData} {bs : List Bool} {vs : List V}, boolsOf ds = some bs → DqAll K H vs ds → vs = bs.map V.bl
  | [], bs, vs, h, q => by cases h; cases q; rfl
  | d :: ds, bs, vs, h, q => by
    unfold boolsOf at h
    split at h
    · rename_i e; cases e
    · rename_i b ds' e
      cases e
      obtain ⟨bs', h1, rfl⟩ := Option.map_eq_some_iff.mp h
      cases q with
      | cons q1 q2 =>
        cases q1
        rw [boolsOf_vs h1 q2]
        rfl
    · cases h
def dAll : List PyData → Option PyData
  | [.list ds] => (boolsOf ds).map fun bs => .bool (bs.all id)
  | _ => none
def dAny : List PyData → Option PyData
  | [.list ds] => (boolsOf ds).map fun bs => .bool (bs.any id)
  | _ => none
theorem rcd_all : RCD K (rAll K) dAll := by
  intro A H xs ds z lv q hf Q k
  unfold dAll at hf
  split at hf
  · obtain ⟨bs, h1, rfl⟩ := Option.map_eq_some_iff.mp hf
    cases q with
    | cons q1 q2 =>
      cases q2
      cases q1 with
      | lst g a1 z1 =>
        refine ⟨_, bs, rfl, ?_, k _ H (Same.refl H) (.bl _)⟩
        rw [← boolsOf_vs h1 a1]
        exact SqL.of (er_some.mp g).2
  · cases hf
theorem rcd_any : RCD K (rAny K) dAny := by
  intro A H xs ds z lv q hf Q k
  unfold dAny at hf
  split at hf
  · obtain ⟨bs, h1, rfl⟩ := Option.map_eq_some_iff.mp hf
    cases q with
    | cons q1 q2 =>
      cases q2
      cases q1 with
      | lst g a1 z1 =>
        refine ⟨_, bs, rfl, ?_, k _ H (Same.refl H) (.bl _)⟩
        rw [← boolsOf_vs h1 a1]
        exact SqL.of (er_some.mp g).2
  · cases hf
def intsOf : List PyData → Option (List Int)
  | [] => some []
  | .int i :: ds => (intsOf ds).map (i :: ·)
  | _ => none
theorem intsOf_vs : ∀ {ds : List PyData} {is : List Int} {vs : List V}, intsOf ds = some is → DqAll K H vs ds → vs = is.map V.int
  | [], bs, vs, h, q => by cases h; cases q; rfl
  | d :: ds, bs, vs, h, q => by
    unfold intsOf at h
    split at h
    · rename_i e; cases e
    · rename_i b ds' e
      cases e
      obtain ⟨bs', h1, rfl⟩ := Option.map_eq_some_iff.mp h
      cases q with
      | cons q1 q2 =>
        cases q1
        rw [intsOf_vs h1 q2]
        rfl
    · cases h
theorem intsOf_eq : ∀ {ds : List PyData} {is : List Int}, intsOf ds = some is → ds = is.map PyData.int
  | [], bs, h => by cases h; rfl
  | d :: ds, bs, h => by
    unfold intsOf at h
    split at h
    · rename_i e; cases e
    · rename_i b ds' e
      cases e
      obtain ⟨bs', h1, rfl⟩ := Option.map_eq_some_iff.mp h
      rw [intsOf_eq h1]
      rfl
    · cases h
theorem intsOf_map : ∀ is : List Int, intsOf (is.map PyData.int) = some is
  | [] => rfl
  | i :: is => by
    rw [List.map_cons, intsOf, intsOf_map is]
    rfl
theorem dqAll_ints : ∀ is : List Int, DqAll K H (is.map V.int) (is.map PyData.int)
  | [] => .nil
  | i :: is => .cons (.int i) (dqAll_ints is)

/-! ### list(x), tuple(x) -/
def dList : List PyData → Option PyData
  | [.list xs] => some (.list xs)
  | [.tuple xs] => some (.list xs)
  | _ => none
theorem rcd_list : RCD K (fun xs H Q => ∃ p ys, xs = [.ref p] ∧ (SqL K H p ys ∨ SqT K H p ys) ∧ ∀ l, H l = none → Q (.ref l) (upd H l (.lst ys))) dList := by
  intro A H xs ds z lv q hf Q k
  unfold dList at hf
  split at hf
  · cases hf
    cases q with
    | cons q1 q2 =>
      cases q2
      cases q1 with
      | lst g a1 z1 => exact ⟨_, _, rfl, .inl (SqL.of (er_some.mp g).2), fun l hl => k _ _ (same_new hl) (.lst (er_new hl lv) (a1.refl_same (same_new hl)) z1)⟩
  · cases hf
    cases q with
    | cons q1 q2 =>
      cases q2
      cases q1 with
      | tup g a1 z1 => exact ⟨_, _, rfl, .inr (sqT_same er_le g), fun l hl => k _ _ (same_new hl) (.lst (er_new hl lv) (a1.refl_same (same_new hl)) z1)⟩
  · cases hf
def dTuple : List PyData → Option PyData
  | [.list xs] => some (.tuple xs)
  | [.tuple xs] => some (.tuple xs)
  | _ => none
theorem rcd_tuple : RCD K (fun xs H Q => ∃ p ys, xs = [.ref p] ∧ ((SqL K H p ys ∧ ∀ l, H l = none → Q (.ref l) (upd H l (.tup ys))) ∨ (SqT K H p ys ∧ Q (.ref p) H))) dTuple := by
  intro A H xs ds z lv q hf Q k
  unfold dTuple at hf
  split at hf
  · cases hf
    cases q with
    | cons q1 q2 =>
      cases q2
      cases q1 with
      | lst g a1 z1 => exact ⟨_, _, rfl, .inl ⟨SqL.of (er_some.mp g).2, fun l hl => k _ _ (same_new hl) (.tup (SqT.of (er_new hl lv)) (a1.refl_same (same_new hl)) z1)⟩⟩
  · cases hf
    cases q with
    | cons q1 q2 =>
      cases q2
      cases q1 with
      | tup g a1 z1 => exact ⟨_, _, rfl, .inr ⟨sqT_same er_le g, k _ H (Same.refl H) (.tup g a1 z1)⟩⟩
  · cases hf
/-- list(range(n)), list(range(m, n)) -/
theorem rgV_rng {lo hi : Int} : DqAll K H (rgV lo hi) (rng lo (hi - lo).toNat) := by
  unfold rgV rng
  generalize List.range (hi - lo).toNat = l
  induction l with
  | nil => exact .nil
  | cons x l ih => exact .cons (.int _) ih
theorem pd_listRg1 {p2 : Pos} {pos2 : Pos} (hc : X.calm = true) (hg : Gl X "list") (hm : X.mg "list" = none) (hg2 : Gl X "range") (hm2 : X.mg "range" = none) (ha : PDE X S a F) (na : starEach [a] X.env = (false, eval a X.env) :: starEach [] X.env := by rfl)
    (nb : starEach [.Call (.Name "range" p2) [a] [] pos2] X.env = (false, eval (.Call (.Name "range" p2) [a] [] pos2) X.env) :: starEach [] X.env := by rfl) :
    PDE X S (.Call (.Name "list" p) [.Call (.Name "range" p2) [a] [] pos2] [] pos) (fun ρ => (iRange1 F ρ).map .list) := (pe_listRg hc hg hm (prg_1 hg2 hm2 ha na) nb).weak fun σ H Q ⟨A, ρ, z, R, hf, k⟩ => by
  obtain ⟨ds, h1, rfl⟩ := Option.map_eq_some_iff.mp hf
  obtain ⟨d, h2, h1⟩ := bind_some h1
  split at h1
  · split at h1
    · rename_i n hn
      cases h1
      refine ⟨A, ρ, _, R, h2, fun v H1 s1 q1 => ?_⟩
      cases q1
      refine ⟨n, rfl, ⟨by omega, by omega, by omega, by omega, by omega⟩, fun q hq => k _ _ (s1.trans (same_new hq)) (.lst (er_new hq (live_same s1 R.live)) ?_ (by rw [rng_len]; show _ ≤ 1000000; omega))⟩
      have e : n.toNat = (n - 0).toNat := by simp
      rw [e]
      exact rgV_rng
    · cases h1
  · cases h1
end
end PD
end

section
set_option Elab.async false
set_option linter.all false
set_option maxRecDepth 100000
set_option maxHeartbeats 3200000
/-! # PD 6: sorted lists of data, sorted sets of a list's ints -/
namespace PD
open PySem PySem.Spec PyProof.Rows L2
section
variable {P : Program} {w : World} {A : Around} {E : Value → Shared → Prop} {s : Shared}
/-- the object of set() as it is made -/
abbrev set0 (w : World) : Obj := { cls := .type "set", dict := none, data := .set #[] 0 (.fresh 0 0 (!w.params.followText "set-order")) }
theorem call_set_lst {l : Addr} {items : Array Value} (ns : List Int) {Q : Value → Shared → Prop} (hh : A.handled = none) (hl : s.heap.IsList l items) (hit : IntsAre items.toList ns) (hb : ns.length + 1 < scanBound)
    (h : ∀ (h' : Heap) (tk c : Nat), SetR w h' s.heap.objs.size (fun j => decide (j ∈ ns)) c → c ≤ ns.length → (∀ b o, s.heap.get? b = some o → h'.get? b = some o) → Q (.ref s.heap.objs.size) { s with heap := h', toks := tk }) :
    wpAny (model P w) A (call (.type "set") [.ref l]) Q E s := by
  have zlen : items.size = ns.length := by have q := IntsAre.length hit; rwa [Array.length_toList] at q
  obtain ⟨c, tl, hm⟩ := F.called_set.mro
  have m1 := F.called_set.made
  have m2 := F.called_set.sub
  have m3 := F.called_set.notType
  have m4 := F.called_set.canCreate
  have m5 := F.typeCall_set_1 (.ref l)
  refine wpAny_call (codeAny_of_tree (show wpAny _ _ (callAny (.type "set") _) _ _ _ from ?_))
  refine wpAny_pure ⟨Code.quiet_builtin _ (by decide +kernel), codeAny_builtin F.entry_type_call ?_⟩
  rw [Around.under_plain (weight_type_call_type "set" [.ref l] []) rfl]
  repeat (any_goals (first | assumption | wp_step))
  refine codeAny_mono (code_set_led1 (.ref l) (E := E) (Q₁ := fun o1 s1 => o1 = .ref s.heap.objs.size ∧ s1 = { s with heap := s.heap.push (set0 w) }) ⟨rfl, rfl⟩) fun r s₁ hr => ?_
  rcases r with er | fl
  · exact hr
  · cases fl with
    | ret obj =>
      obtain ⟨rfl, rfl⟩ := hr
      have g0 : (s.heap.push (set0 w)).get? s.heap.objs.size = some (set0 w) := Heap.get?_push_size _ rfl
      have tI : Shared.TypeIs { s with heap := s.heap.push (set0 w) } (.ref s.heap.objs.size) "set" := ⟨_, g0, rfl⟩
      have n1 := F.called_set.init.lookup
      have n2 := F.called_set.init.bind (.ref s.heap.objs.size)
      repeat (any_goals (first | assumption | wp_step))
      refine codeAny_mono (codeAny_call_builtin (R := wants (fun r s₂ => r = .none ∧ ∃ h' tk c, s₂ = { s with heap := h', toks := tk } ∧ SetR w h' s.heap.objs.size (fun j => decide (j ∈ ns)) c ∧ c ≤ ns.length ∧ ∀ b o, s.heap.get? b = some o → h'.get? b = some o) E) F.called_set.init.plain F.entry_set_init (check_set_init_1 tI ?_)) fun r2 s2 q2 => ?_
      · obtain ⟨⟨ocls, odict, odata, oslots⟩, o1, o2, nl, o3⟩ := hl
        simp only at o2 o3
        subst o2 o3
        have g1 : (s.heap.push (set0 w)).get? l = some { cls := .type "list", dict := odict, data := .seq items nl, slots := oslots } := Heap.get?_push_of_some _ o1
        have u1 := F.sub_list_set
        have u2 := F.sub_list_frozenset
        have u3 : (Value.type "list" == Value.type "dict") = false := by decide
        have g2 : (s.heap.push (set0 w)).IsList l items := ⟨_, g1, rfl, nl, rfl⟩
        unfold Builtin.«set.__init__» noKeywords Builtin.Frozenset.updateFrom
        generalize hPI : pyIter = PI
        wp_walk
        subst hPI
        refine wpAny_pyIter_list g2 ?_
        refine wpAny_bind (wpAny_runValue ?_)
        have lS : l < s.heap.objs.size := Heap.lt_size o1
        have h3 : A.in1.in1.in1.handled = none := by simp [hh]
        have neI : l ≠ (s.heap.push (set0 w)).objs.size := by
          rw [Heap.size_push]; exact Nat.ne_of_lt (Nat.lt_succ_of_lt lS)
        have nSf : s.heap.objs.size ∉ [(s.heap.push (set0 w)).objs.size, l] := by
          rw [Heap.size_push]
          simp only [List.mem_cons, List.not_mem_nil, or_false, not_or]
          exact ⟨Nat.ne_of_lt (Nat.lt_succ_self _), Nat.ne_of_gt lS⟩
        have val : ∀ (i : Nat) (v : Value), items[i]? = some v → ∃ k t, ns[i]? = some k ∧ v = .int k t := fun i v hv => by
          have hi : i < ns.length := by have := (Array.getElem?_eq_some_iff.mp hv).1; omega
          obtain ⟨t, e⟩ := PyProof.Rows.IntsAre.int_at hit i v (by rw [Array.getElem?_toList]; exact hv)
          rw [List.getD_eq_getElem?_getD, List.getElem?_eq_getElem hi] at e
          exact ⟨ns[i], t, List.getElem?_eq_getElem hi, e⟩
        refine set_update_ints ((Walks.list h3 _ l neI items).toS) s.heap.objs.size nSf ns zlen hb val (items.size - 0) 0 _ (by omega) (Nat.zero_le _) ⟨⟨_, Heap.get?_push_size _ rfl, rfl, rfl⟩, g2.push _⟩ ⟨0, Nat.le_refl 0, setR_new_at (Heap.get?_push_of_some _ g0)⟩ ?_
        rintro ⟨h', g', d', tk', os'⟩ c' mv hc hS
        obtain rfl : g' = s.gens := mv.gens
        obtain rfl : d' = s.drawn := mv.drawn
        obtain rfl : os' = s.os := mv.os
        show wpAny _ _ _ _ _ _
        refine wpAny_pure (show wpAny _ _ (ret Value.none) _ _ _ from wpAny_pure ⟨rfl, h', tk', c', rfl, hS, by omega, fun b o e => ?_⟩)
        have b0 : b < s.heap.objs.size := Heap.lt_size e
        refine mv.heap b o ?_ (Heap.get?_push_of_some _ (Heap.get?_push_of_some _ e))
        simp only [List.mem_cons, List.not_mem_nil, or_false, not_or]
        rw [Heap.size_push]
        exact ⟨Nat.ne_of_lt b0, Nat.ne_of_lt (Nat.lt_succ_of_lt b0)⟩
      · rcases r2 with er2 | fl2
        · exact q2
        · cases fl2 with
          | ret r =>
            obtain ⟨rfl, h', tk, c', rfl, hS, hc, hk⟩ := q2
            repeat (any_goals (first | assumption | wp_step))
            exact h _ _ _ hS hc hk
          | _ => exact q2.elim
    | _ => exact hr.elim
end
section
variable {X : Cx} {S : Amb} {K : PySem.W.Frag} {A : Addr → Prop} {H H' : Hp} {e a b c : Expr} {es : List Expr} {pos p : Pos} {F G : Rho → Option PyData} {L : Rho → Option (List PyData)}
/-- an int put into a list that rises -/
def insI (k : Int) : List Int → List Int
  | [] => [k]
  | x :: xs => if k < x then k :: x :: xs else if k = x then x :: xs else x :: insI k xs
/-- the unlike ints, rising -/
def sortU (ns : List Int) : List Int := ns.foldr insI []
theorem mem_insI {k x : Int} : ∀ {l : List Int}, x ∈ insI k l ↔ x = k ∨ x ∈ l
  | [] => by simp [insI]
  | y :: ys => by
    unfold insI
    split
    · simp
    · split
      · rename_i h; subst h; simp
      · rw [List.mem_cons, mem_insI, List.mem_cons]
        constructor
        · rintro (h | h | h)
          · exact .inr (.inl h)
          · exact .inl h
          · exact .inr (.inr h)
        · rintro (h | h | h)
          · exact .inr (.inl h)
          · exact .inl h
          · exact .inr (.inr h)
theorem pw_insI {k : Int} : ∀ {l : List Int}, l.Pairwise (· < ·) → (insI k l).Pairwise (· < ·)
  | [], _ => by simp [insI]
  | y :: ys, h => by
    obtain ⟨h1, h2⟩ := List.pairwise_cons.mp h
    unfold insI
    split
    · rename_i hk
      exact List.pairwise_cons.mpr ⟨fun z hz => by
        rcases List.mem_cons.mp hz with rfl | hz
        · exact hk
        · have := h1 z hz; omega, h⟩
    · split
      · exact h
      · refine List.pairwise_cons.mpr ⟨fun z hz => ?_, pw_insI h2⟩
        rcases mem_insI.mp hz with rfl | hz
        · omega
        · exact h1 z hz
theorem sortU_mem {x : Int} {ns : List Int} : x ∈ sortU ns ↔ x ∈ ns := by
  unfold sortU
  induction ns with
  | nil => simp
  | cons n ns ih => rw [List.foldr_cons, mem_insI, ih, List.mem_cons]
theorem sortU_pw (ns : List Int) : (sortU ns).Pairwise (· < ·) := by
  unfold sortU
  induction ns with
  | nil => simp
  | cons n ns ih => exact pw_insI ih
theorem rising_eq : ∀ {l m : List Int}, l.Pairwise (· < ·) → m.Pairwise (· < ·) → (∀ x, x ∈ l ↔ x ∈ m) → l = m
  | [], [], _, _, _ => rfl
  | [], y :: ys, _, _, h => absurd ((h y).mpr List.mem_cons_self) (by simp)
  | x :: xs, [], _, _, h => absurd ((h x).mp List.mem_cons_self) (by simp)
  | x :: xs, y :: ys, h1, h2, h => by
    obtain ⟨a1, a2⟩ := List.pairwise_cons.mp h1
    obtain ⟨b1, b2⟩ := List.pairwise_cons.mp h2
    have e : x = y := by
      rcases List.mem_cons.mp ((h x).mp List.mem_cons_self) with q | q
      · exact q
      · rcases List.mem_cons.mp ((h y).mpr List.mem_cons_self) with r | r
        · exact r.symm
        · have := b1 x q
          have := a1 y r
          omega
    subst e
    rw [rising_eq a2 b2 fun z => ?_]
    constructor
    · intro hz
      rcases List.mem_cons.mp ((h z).mp (List.mem_cons_of_mem _ hz)) with q | q
      · have := a1 z hz; omega
      · exact q
    · intro hz
      rcases List.mem_cons.mp ((h z).mpr (List.mem_cons_of_mem _ hz)) with q | q
      · have := b1 z hz; omega
      · exact q
/-- sorted(set(e)), e a list of fewer than 60 ints -/
def eSortU (F : Rho → Option PyData) : Rho → Option PyData := fun ρ => (F ρ).bind fun d => match d with
  | .list ds => (intsOf ds).bind fun ns => if ns.length < 60 then some (.list ((sortU ns).map .int)) else none
  | _ => none
theorem sortU_len (ns : List Int) : (sortU ns).length ≤ ns.length := by
  have i1 : ∀ (k : Int) (l : List Int), (insI k l).length ≤ l.length + 1 := fun k l => by
    induction l with
    | nil => simp [insI]
    | cons y ys ih =>
      unfold insI
      split
      · simp
      · split
        · simp
        · simp only [List.length_cons]; omega
  unfold sortU
  induction ns with
  | nil => simp
  | cons n ns ih =>
    rw [List.foldr_cons, List.length_cons]
    have := i1 n (ns.foldr insI [])
    omega
def tSortSet (ta : TE) : TE := fun σ H Q => ta σ H fun x H1 => ∃ (l : Addr) (ns : List Int), x = .ref l ∧ H1 l = some (.lst (ns.map V.int)) ∧ ns.length < 60 ∧ ∀ p, H1 p = none → Q (.ref p) (upd H1 p (.lst ((sortU ns).map V.int)))
theorem pe_sortSet {ta : TE} {p2 q : Pos} (hc : X.calm = true) (hg : Gl X "sorted") (hm : X.mg "sorted" = none) (hg2 : Gl X "set") (hm2 : X.mg "set" = none) (ha : PE X a ta)
    (na : starEach [a] X.env = (false, eval a X.env) :: starEach [] X.env := by rfl) : PE X (.Call (.Name "sorted" p) [.Call (.Name "set" p2) [a] [] q] [] pos) (tSortSet ta) := by
  refine ⟨fun pins s σ H Q I h => ?_⟩
  refine Call_ (ld_blt (u := .builtin "sorted") I hg hm (by decide +kernel) ?_)
  refine PyProof.Rows.callWith_builtin1 (PyProof.Rows.args_cons ?_ rfl) rfl rfl
  refine Call_ (ld_blt I hg2 hm2 boot_set (PyProof.Rows.callWith_type1 (PyProof.Rows.args_cons (thn (ha.run pins s σ H _ I h) fun v s1 ⟨x, H1, I1, r1, q1⟩ => PyProof.Rows.args_nil ?_) na) na rfl))
  obtain ⟨l, ns, rfl, hq, hz, q1⟩ := q1
  cases r1
  obtain ⟨its, r, pl, _⟩ := I1.list (SqL.of hq)
  refine call_set_lst ns (I1.ok.hd hc) pl.isList (by simpa using r.ints) (by unfold scanBound; omega) fun h' tk c hS hcl hk => ?_
  refine PyProof.Rows.args_nil (sorted_set hS (I1.ok.hd hc) (by omega) ?_)
  intro s' pp out cc ks hk2 hg' ho' hp' hget hits hpw hmem hlen
  have e : ks = sortU ns := rising_eq hpw (sortU_pw ns) fun z => by rw [hmem, sortU_mem]; simp
  subst e
  have I2 : Inv X pins σ H1 { s1 with heap := h', toks := tk } := I1.kept hk
  obtain ⟨hh, gg, dd, tt, oo⟩ := s'
  obtain rfl : gg = s1.gens := hg'
  obtain rfl : oo = s1.os := ho'
  have fr : H1 pp = none := I2.hok.fresh hp'
  have hl2 : ((sortU ns).map V.int).length ≤ sizeLine := by
    rw [List.length_map, sizeLine_eq]
    have := sortU_len ns
    omega
  have I3 : Inv X pins σ (upd H1 pp (.lst ((sortU ns).map V.int))) { s1 with heap := hh, toks := tt } := I2.laid hk2 hp' ⟨hl2, out.toList, cc, vals_of_ints hits, by rw [Array.toArray_toList]; exact hget⟩
  obtain ⟨sh, sg, sd, st, so⟩ := s1
  exact ⟨.ref pp, _, (show Inv X pins σ _ ⟨hh, sg, dd, tt, so⟩ from ⟨I3.ok, I3.os, I3.bare, I3.base, I3.loc, I3.cell, I3.free, I3.freeC, I3.pin, I3.hok, I3.len⟩), rfl, q1 pp fr⟩
theorem pd_sortSet {p2 q : Pos} (hc : X.calm = true) (hg : Gl X "sorted") (hm : X.mg "sorted" = none) (hg2 : Gl X "set") (hm2 : X.mg "set" = none) (ha : PDE X S a F) (na : starEach [a] X.env = (false, eval a X.env) :: starEach [] X.env := by rfl) :
    PDE X S (.Call (.Name "sorted" p) [.Call (.Name "set" p2) [a] [] q] [] pos) (eSortU F) := (pe_sortSet hc hg hm hg2 hm2 ha na).weak fun σ H Q ⟨A, ρ, z, R, hf, k⟩ => by
  obtain ⟨d, h1, hf⟩ := bind_some hf
  split at hf
  · obtain ⟨ns, h2, hf⟩ := bind_some hf
    split at hf
    · rename_i hz
      cases hf
      refine ⟨A, ρ, _, R, h1, fun v H1 s1 q1 => ?_⟩
      cases q1 with
      | lst g a1 z1 =>
        have e := intsOf_vs h2 a1
        subst e
        refine ⟨_, ns, rfl, (er_some.mp g).2, hz, fun pp hp => k _ _ (s1.trans (same_new hp)) (.lst (er_new hp (live_same s1 R.live)) (dqAll_ints _) ?_)⟩
        rw [List.length_map]
        have := sortU_len ns
        show _ ≤ 1000000
        omega
    · cases hf
  · cases hf
end
end PD
end

section
set_option Elab.async false
set_option linter.all false
set_option maxRecDepth 100000
set_option maxHeartbeats 3200000
/-! # PD 7: sorted, methods, own functions, enumerate, zip, two clauses -/
namespace PD
open PySem PySem.Spec PyProof.Rows L2
section
variable {X : Cx} {S : Amb} {K : PySem.W.Frag} {A : Addr → Prop} {H H' : Hp} {e a b c tg : Expr} {es : List Expr} {pos p : Pos} {F G : Rho → Option PyData} {L : Rho → Option (List PyData)}

/-! ### sorted(xs), xs of alike data -/
def alikes (ds : List PyData) : Bool := ds.all fun d => ds.all fun e => PySem.W.alike d e
def noTup : PyData → Bool
  | .none => false
  | .tuple _ => false
  | _ => true
def tupOne : PyData → Bool
  | .tuple (_ :: _) => true
  | _ => false
def sortD (ds : List PyData) : List PyData := ds.mergeSort (PySem.W.dataLe false id)
def dSorted : List PyData → Option PyData
  | [.list ds] => if alikes ds = true ∧ (ds.all noTup = true ∨ ds.all tupOne = true) ∧ ds.all SeqAt.shaped = true then some (.list (sortD ds)) else none
  | _ => none
def rSortD (K : PySem.W.Frag) : List V → Hp → VK → Prop := fun xs H Q => ∃ (a : Addr) (vs : List V) (ds : List PyData), xs = [.ref a] ∧ H a = some (.lst vs) ∧ DqAll K H vs ds ∧ ds.length ≤ lim ∧ alikes ds = true ∧ (ds.all noTup = true ∨ ds.all tupOne = true) ∧ ds.all SeqAt.shaped = true ∧
  ∀ (ws : List V) (p : Addr), ws.length = ds.length → PySem.W.EachIs (fun v d => v ∈ vs ∧ ∀ B, DqAll K (er B H) vs ds → Dq K (er B H) v d) ws (sortD ds) → H p = none → Q (.ref p) (upd H p (.lst ws))
theorem each_zip {α β γ : Type} {R : α → β → Prop} {T : α → γ → Prop} : ∀ {as : List α} {bs : List β} {cs : List γ}, PySem.W.EachIs R as bs → PySem.W.EachIs T as cs → PySem.W.EachIs (fun b c => ∃ a, R a b ∧ T a c) bs cs
  | _, _, _, .nil, .nil => .nil
  | _, _, _, .cons h t, .cons h' t' => .cons ⟨_, h, h'⟩ (each_zip t t')
theorem each_of_vals {R : Value → PyData → Prop} : ∀ {vs : List V} {us : List Value} {ds : List PyData}, Vals vs us → vs.length = ds.length → (∀ (i : Nat) (v : V) (u : Value) (d : PyData), vs[i]? = some v → us[i]? = some u → ds[i]? = some d → RelV v u → R u d) → PySem.W.EachIs R us ds
  | _, _, [], .nil, _, _ => .nil
  | _, _, _ :: _, .nil, h, _ => by simp at h
  | _, _, [], .cons _ _, h, _ => by simp at h
  | _, _, _ :: _, .cons r t, h, f => .cons (f 0 _ _ _ rfl rfl rfl r) (each_of_vals t (by simpa using h) fun i v u d h1 h2 h3 h4 => f (i + 1) v u d (by simpa using h1) (by simpa using h2) (by simpa using h3) h4)
theorem each_vals {T : V → PyData → Prop} : ∀ {us : List Value} {ds : List PyData}, PySem.W.EachIs (fun u d => ∃ v, RelV v u ∧ T v d) us ds → ∃ vs, Vals vs us ∧ PySem.W.EachIs T vs ds
  | _, _, .nil => ⟨[], .nil, .nil⟩
  | _, _, .cons ⟨v, r, t⟩ h => by
    obtain ⟨vs, h1, h2⟩ := each_vals h
    exact ⟨v :: vs, .cons r h1, .cons t h2⟩
theorem cr_sortD (hu : X.A.units + 80 < cLine) : CallR X (.builtin "sorted") (rSortD X.K) := by
  intro pins s σ H xs us Q I r h
  obtain ⟨a, vs, ds, rfl, hH, hq, hlim, hal, hso, hsh, k⟩ := h
  obtain ⟨u, rfl, ru⟩ := vals1 r
  obtain rfl : u = Value.ref a := ru
  obtain ⟨its, rv, pl, hz⟩ := I.list (SqL.of hH)
  have hl := hq.length
  have hal' : PySem.W.AllAlike (ds.map id) := by
    rw [List.map_id]
    intro d hd d' hd'
    exact List.all_eq_true.mp (List.all_eq_true.mp hal d hd) d' hd'
  have hs' : PySem.W.Sortable (ds.map id) := by
    rw [List.map_id]
    rcases hso with q | q
    · refine .inr fun d hd => ?_
      have := List.all_eq_true.mp q d hd
      cases d with
      | none => simp [noTup] at this
      | tuple _ => simp [noTup] at this
      | bool _ => exact ⟨(fun z => nomatch z), (fun _ z => nomatch z)⟩
      | int _ => exact ⟨(fun z => nomatch z), (fun _ z => nomatch z)⟩
      | str _ => exact ⟨(fun z => nomatch z), (fun _ z => nomatch z)⟩
      | list _ => exact ⟨(fun z => nomatch z), (fun _ z => nomatch z)⟩
      | dict _ => exact ⟨(fun z => nomatch z), (fun _ z => nomatch z)⟩
    · refine .inl fun d hd => ?_
      have := List.all_eq_true.mp q d hd
      unfold tupOne at this
      split at this
      · exact ⟨_, _, rfl⟩
      · cases this
  refine PySem.W.sorted_data (enc := id) (bs := ds) (R := fun u d => ∃ v, RelV v u ∧ (v ∈ vs ∧ ∀ B, DqAll X.K (er B H) vs ds → Dq X.K (er B H) v d)) pl.isList (each_of_vals rv hl fun i v u d h1 h2 h3 h4 => ?_) (each_of_vals rv hl fun i v u d h1 h2 h3 h4 => ?_) hal' hs'
    (by have := lim_line; omega) (fun d hd => ?_) fun out ho eo => ?_
  · refine ⟨v, h4, List.mem_of_getElem? h1, fun B hB => ?_⟩
    obtain ⟨v', e, q⟩ := hB.get h3
    rw [h1] at e
    cases e
    exact q
  · obtain ⟨v', e, q⟩ := hq.get h3
    rw [h1] at e
    cases e
    have sh := List.all_eq_true.mp hsh d (List.mem_of_getElem? h3)
    exact Dp.reads I d v u (shaped_dp sh q) h4
  · have sh := SeqAt.depth_of_shaped (List.all_eq_true.mp hsh d hd)
    show X.A.units + 2 + PyData.depth d < cLine
    omega
  · obtain ⟨ws, w1, w2⟩ := each_vals eo
    have wl := w1.length
    obtain ⟨ep, he'⟩ := PyProof.Rows.sortedAll_at s.heap its out.toArray
    refine ⟨.ref _, upd H (s.heap.objs.size + 1) (.lst ws), I.laid (t' := s.toks) (fun _ _ => PyProof.Rows.sortedAll_old) (Nat.le_succ _) ⟨by have := lim_line; omega, out, ep, w1, he'⟩, rfl, k ws _ (by omega) w2 (I.hok.fresh (Nat.le_succ _))⟩
theorem each_dq {T : V → PyData → Prop} {B : Hp} (h : ∀ v d, T v d → Dq K B v d) : ∀ {vs : List V} {ds : List PyData}, PySem.W.EachIs T vs ds → DqAll K B vs ds
  | _, _, .nil => .nil
  | _, _, .cons t e => .cons (h _ _ t) (each_dq h e)
theorem sortD_len (ds : List PyData) : (sortD ds).length = ds.length := List.length_mergeSort ds
theorem rcd_sortD : RCD K (rSortD K) dSorted := by
  intro A H xs ds z lv q hf Q k
  unfold dSorted at hf
  split at hf
  · split at hf
    · rename_i hs
      cases hf
      cases q with
      | cons q1 q2 =>
        cases q2
        cases q1 with
        | lst g a1 z1 =>
          refine ⟨_, _, _, rfl, (er_some.mp g).2, a1.full, z1, hs.1, hs.2.1, hs.2.2, fun ws p hl he hp => ?_⟩
          exact k _ _ (same_new hp) (.lst (er_new hp lv) ((each_dq (fun v d t => t.2 A a1) he).refl_same (same_new hp)) (by rw [sortD_len]; exact z1))
    · cases hf
  · cases hf

/-! ### methods -/
def RMD (K : PySem.W.Frag) (r : V → List V → Hp → VK → Prop) (f : PyData → List PyData → Option PyData) : Prop := ∀ (A : Addr → Prop) (H : Hp) (x : V) (xs : List V) (d : PyData) (ds : List PyData) (z : PyData), (∀ a, A a → H a ≠ none) → Dq K (er A H) x d → DqAll K (er A H) xs ds → f d ds = some z →
  ∀ Q : VK, (∀ v H', Same H H' → Dq K (er A H') v z → Q v H') → r x xs H Q
def eMeth (f : PyData → List PyData → Option PyData) (F : Rho → Option PyData) (L : Rho → Option (List PyData)) : Rho → Option PyData := fun ρ => (F ρ).bind fun d => (L ρ).bind fun ds => f d ds
def tyOk (T : String) : PyData → Bool
  | .str _ => T == "str"
  | .list _ => T == "list"
  | .int _ => T == "int"
  | _ => false
theorem tyOk_V {T : String} {d : PyData} {v : V} (h : tyOk T d = true) (q : Dq K H v d) : tyV K T v H := by
  cases q <;> first
    | (simp [tyOk] at h; done)
    | skip
  · exact eq_of_beq h
  · exact eq_of_beq h
  · rename_i g _ _
    exact .inl ⟨eq_of_beq h, _, SqL.of g⟩
theorem pd_meth {name : Str} {apos cpos : Pos} {T id : String} {r : V → List V → Hp → VK → Prop} {f : PyData → List PyData → Option PyData} (pa : PlainAttrs T) (slot : Slot T name id) (hty : typeOf (.builtin id) = pure (.type "method_descriptor")) (hm : MtR X id r) (hr : RMD X.K r f)
    (hf : ∀ d ds z, f d ds = some z → tyOk T d = true) (ho : PDE X S a F) (ha : PDA X S (e :: es) L) (hbase : attributeBase a name X.env (eval a X.env) = eval a X.env := by rfl)
    (hfew : ((backTo cpos (starEach (e :: es) X.env)).all (fun x => !x.1) && (backToKw cpos (keywordEach [] X.env)).all (fun x => x.1.isSome)
      && decide ((e :: es).length + ([] : List Keyword).length + (if ([] : List Keyword).isEmpty then 0 else 1) < 30)) = true := by rfl)
    (hline : (apos.endLine == cpos.line) = true := by rfl) (hs : starEach (e :: es) X.env = (false, eval e X.env) :: starEach es X.env := by rfl) (hplain : (backTo cpos (starEach es X.env)).any (·.1) = false := by rfl) :
    PDE X S (.Call (.Attribute a name apos) (e :: es) [] cpos) (eMeth f F L) := (pe_bm pa slot hty hm ho ha hbase hfew hline hs hplain).weak fun σ H Q ⟨A, ρ, z, R, hq, k⟩ => by
  obtain ⟨d, h1, hq⟩ := bind_some hq
  obtain ⟨ds, h2, hq⟩ := bind_some hq
  refine ⟨A, ρ, d, R, h1, fun v H1 s1 q1 => ⟨tyOk_V (hf _ _ _ hq) q1.full, A, ρ, ds, R.same s1, h2, fun vs H2 s2 q2 => ?_⟩⟩
  exact hr A H2 v vs d ds z (live_same (s1.trans s2) R.live) (q1.refl_same s2) q2 hq Q fun u H3 s3 q3 => k u H3 ((s1.trans s2).trans s3) q3
/-- xs.index(d) -/
def dIndex : PyData → List PyData → Option PyData
  | .list ds, [d] => if SeqAt.shaped (.list ds) = true ∧ SeqAt.shaped d = true ∧ (ds.findIdx fun z => PyData.eqv z d) < ds.length then some (.int (ds.findIdx fun z => PyData.eqv z d)) else none
  | _, _ => none
theorem rmd_index : RMD K (rIndexD K) dIndex := by
  intro A H x xs d ds z lv q qs hf Q k
  unfold dIndex at hf
  split at hf
  · split at hf
    · rename_i es d0 hs
      obtain ⟨s1, s2, s3⟩ := hs
      cases hf
      cases qs with
      | cons q1 q2 =>
        cases q2
        have g := shaped_dp s1 q.full
        have g2 := shaped_dp s2 q1.full
        cases q with
        | lst h1 a1 z1 =>
          refine ⟨_, _, d0, es, es.findIdx fun z => PyData.eqv z d0, es[es.findIdx fun z => PyData.eqv z d0], rfl, rfl, g, g2, s1, s2, List.getElem?_eq_getElem s3, List.findIdx_getElem (p := fun z => PyData.eqv z d0) (w := s3), fun m z' hm hz => ?_, k _ H (Same.refl H) (.int _)⟩
          obtain ⟨hml, e⟩ := List.getElem?_eq_some_iff.mp hz
          have := List.not_of_lt_findIdx (p := fun z => PyData.eqv z d0) hm
          rw [← e]
          simpa using this
    · cases hf
  · cases hf
theorem dIndex_ty (d : PyData) (ds : List PyData) (z : PyData) (h : dIndex d ds = some z) : tyOk "list" d = true := by
  unfold dIndex at h
  split at h
  · rfl
  · cases h
theorem pd_index {apos cpos : Pos} (hu : X.A.units + 65 < cLine) (ho : PDE X S a F) (ha : PDA X S [e] L) (hbase : attributeBase a "index" X.env (eval a X.env) = eval a X.env := by rfl)
    (hfew : ((backTo cpos (starEach [e] X.env)).all (fun x => !x.1) && (backToKw cpos (keywordEach [] X.env)).all (fun x => x.1.isSome)
      && decide ([e].length + ([] : List Keyword).length + (if ([] : List Keyword).isEmpty then 0 else 1) < 30)) = true := by rfl)
    (hline : (apos.endLine == cpos.line) = true := by rfl) (hs : starEach [e] X.env = (false, eval e X.env) :: starEach [] X.env := by rfl) :
    PDE X S (.Call (.Attribute a "index" apos) [e] [] cpos) (eMeth dIndex F L) := pd_meth PySem.F.plainAttrs_list PySem.F.slot_list_index PySem.F.type_list_index (mt_indexD hu) rmd_index dIndex_ty ho ha hbase hfew hline hs (by rfl)
/-- xs.count(k), xs of ints -/
def dCount : PyData → List PyData → Option PyData
  | .list ds, [.int k] => (intsOf ds).map fun ns => .int (ns.count k : Nat)
  | _, _ => none
theorem rmd_count : RMD K (rCntI K) dCount := by
  intro A H x xs d ds z lv q qs hf Q k
  unfold dCount at hf
  split at hf
  · obtain ⟨ns, h1, rfl⟩ := Option.map_eq_some_iff.mp hf
    cases qs with
    | cons q1 q2 =>
      cases q2
      cases q1
      cases q with
      | lst g a1 z1 =>
        have e := intsOf_vs h1 a1
        subst e
        exact ⟨_, ns, _, rfl, rfl, SqL.of (er_some.mp g).2, k _ H (Same.refl H) (.int _)⟩
  · cases hf
theorem dCount_ty (d : PyData) (ds : List PyData) (z : PyData) (h : dCount d ds = some z) : tyOk "list" d = true := by
  unfold dCount at h
  split at h
  · rfl
  · cases h
theorem pd_count {apos cpos : Pos} (ho : PDE X S a F) (ha : PDA X S [e] L) (hbase : attributeBase a "count" X.env (eval a X.env) = eval a X.env := by rfl)
    (hfew : ((backTo cpos (starEach [e] X.env)).all (fun x => !x.1) && (backToKw cpos (keywordEach [] X.env)).all (fun x => x.1.isSome)
      && decide ([e].length + ([] : List Keyword).length + (if ([] : List Keyword).isEmpty then 0 else 1) < 30)) = true := by rfl)
    (hline : (apos.endLine == cpos.line) = true := by rfl) (hs : starEach [e] X.env = (false, eval e X.env) :: starEach [] X.env := by rfl) :
    PDE X S (.Call (.Attribute a "count" apos) [e] [] cpos) (eMeth dCount F L) := pd_meth PySem.F.plainAttrs_list PySem.F.slot_list_count PySem.F.type_list_count mt_lcount rmd_count dCount_ty ho ha hbase hfew hline hs (by rfl)

/-! ### own functions -/
/-- a def computes m of its arguments -/
def spP (K : PySem.W.Frag) (n : Nat) (m : List PyData → Option PyData) : Sp := fun vs H Q _ => ∃ (A : Addr → Prop) (ds : List PyData) (z : PyData), ds.length = n ∧ DqAll K (er A H) vs ds ∧ (∀ a, A a → H a ≠ none) ∧ m ds = some z ∧ ∀ v H', Same H H' → Dq K (er A H') v z → Q v H'
variable {CX : CXT} {k : Nat} {f : Addr} {fd : FuncData} {ps : List Str} {E : XK} {n : Nat} {m : List PyData → Option PyData}
def eFn (n : Nat) (m : List PyData → Option PyData) (L : Rho → Option (List PyData)) : Rho → Option PyData := fun ρ => (L ρ).bind fun ds => if ds.length = n then m ds else none
theorem pd_fn {x : Str} (Fk : FnOk X.prog X.w X.K X.mg X.base CX k f fd ps (spP X.K n m)) (hr : Room k X.A) (hg : Gl X x) (hm : X.mg x = some (.ref f)) (hk : PySem.W.keepIn X.K (.ref f) = true) (hb : Binds X.K fd ps []) (hx : Passes CX X E)
    (ha : PDA X S (e :: es) L) (hdb : (x == ("__debug__" : Str)) = false := by decide) (he : starEach (e :: es) X.env = (false, eval e X.env) :: starEach es X.env := by rfl) (hpl : (backTo pos (starEach es X.env)).any (·.1) = false := by rfl) :
    PDE X S (.Call (.Name x p) (e :: es) [] pos) (eFn n m L) := (pe_call (dvs := []) (E := E) Fk hr hg hm hk hb .nil hx ha hdb he hpl).weak fun σ H Q ⟨A, ρ, z, R, hf, k⟩ => by
  obtain ⟨ds, h1, hf⟩ := bind_some hf
  split at hf
  · rename_i hn
    refine ⟨A, ρ, ds, R, h1, fun vs H1 s1 q1 => ?_⟩
    show spP X.K n m (vs ++ []) H1 Q E
    rw [List.append_nil]
    exact ⟨A, ds, z, hn, q1, live_same s1 R.live, hf, fun v H2 s2 q2 => k v H2 (s1.trans s2) q2⟩
  · cases hf

/-! ### enumerate, zip -/
def enumD (ds : List PyData) : List PyData := ds.zipIdx.map fun q => .tuple [.int (q.2 : Nat), q.1]
theorem enumD_get (ds : List PyData) (i : Nat) : (enumD ds)[i]? = (ds[i]?).map fun d => .tuple [.int (i : Nat), d] := by
  unfold enumD
  rw [List.getElem?_map, List.getElem?_zipIdx]
  cases ds[i]? <;> simp
theorem enumD_len (ds : List PyData) : (enumD ds).length = ds.length := by simp [enumD]
def iEnumD (F : Rho → Option PyData) : Rho → Option (List PyData) := fun ρ => (F ρ).bind fun d => match d with
  | .list ds => some (enumD ds)
  | _ => none
theorem src_enum {q : Addr} {vs : List V} {ds : List PyData} (h : H q = some (.lst vs)) (hp : ¬ A q) (a1 : DqAll K (er A H) vs ds) : Src K A (Ite K q) (enumD ds) H := by
  intro A' H' s lv
  have h' := er_some.mp (s q _ (er_some.mpr ⟨hp, h⟩))
  refine ⟨fun i d hd => ?_, ⟨vs, SqL.of h'.2, by rw [a1.length, enumD_len]; exact Nat.le_refl _⟩⟩
  rw [enumD_get] at hd
  obtain ⟨d0, hd0, rfl⟩ := Option.map_eq_some_iff.mp hd
  obtain ⟨v, hv, qv⟩ := a1.get hd0
  refine ⟨⟨vs, v, SqL.of h'.2, hv⟩, fun x H'' hy => ?_⟩
  obtain ⟨T, y, rfl, hT, rfl, hy⟩ := hy
  have e := hy vs (SqL.of h'.2)
  rw [hv] at e
  cases e
  refine ⟨same_new hT, .tup (SqT.of (er_new hT lv)) (.cons (.int _) (.cons ((qv.mono s).refl_same (same_new hT)) .nil)) (by show 2 ≤ 1000000; decide)⟩
theorem pdi_enum {elts : List Expr} {kk : Nat} {tpos : Pos} (hg : Gl X "enumerate") (hm : X.mg "enumerate" = none) (ha : PDE X S a F) (hs : starEach [a] X.env = [(false, eval a X.env)] := by rfl) :
    PDI2 X S (.Tuple elts kk tpos) (.Call (.Name "enumerate" p) [a] [] pos) (iEnumD F) := (pi_enum hg hm (pa_cons ha pa_nil (by rw [hs]; rfl)) hs).weak fun σ H Rr ⟨A, ρ, ds, R, hf, k⟩ => by
  obtain ⟨d, h1, hf⟩ := bind_some hf
  split at hf
  · cases hf
    refine ⟨A, ρ, _, R, h1, fun v H1 s1 q1 => ?_⟩
    cases q1 with
    | lst g a1 z1 =>
      have g' := er_some.mp g
      exact ⟨_, _, rfl, SqL.of g'.2, k _ H1 s1 (by rw [enumD_len]; exact z1) (src_enum g'.2 g'.1 a1)⟩
  · cases hf
def zipD (ds es : List PyData) : List PyData := (ds.zip es).map fun q => .tuple [q.1, q.2]
theorem zipD_get (ds es : List PyData) (i : Nat) {z : PyData} (h : (zipD ds es)[i]? = some z) : ∃ d e, ds[i]? = some d ∧ es[i]? = some e ∧ z = .tuple [d, e] := by
  unfold zipD at h
  rw [List.getElem?_map] at h
  obtain ⟨q, hq, rfl⟩ := Option.map_eq_some_iff.mp h
  obtain ⟨q1, q2⟩ := List.getElem?_zip_eq_some.mp hq
  exact ⟨_, _, q1, q2, rfl⟩
theorem zipD_len (ds es : List PyData) : (zipD ds es).length = min ds.length es.length := by simp [zipD]
def iZipD (F G : Rho → Option PyData) : Rho → Option (List PyData) := fun ρ => (F ρ).bind fun d => (G ρ).bind fun e => match d, e with
  | .list ds, .list es => some (zipD ds es)
  | _, _ => none
theorem src_zip {q r : Addr} {vs ws : List V} {ds es : List PyData} (h : H q = some (.lst vs)) (hp : ¬ A q) (a1 : DqAll K (er A H) vs ds) (h2 : H r = some (.lst ws)) (hp2 : ¬ A r) (a2 : DqAll K (er A H) ws es) : Src K A (Itz K q r) (zipD ds es) H := by
  intro A' H' s lv
  have h' := er_some.mp (s q _ (er_some.mpr ⟨hp, h⟩))
  have h2' := er_some.mp (s r _ (er_some.mpr ⟨hp2, h2⟩))
  refine ⟨fun i d hd => ?_, ⟨vs, ws, SqL.of h'.2, SqL.of h2'.2, by rw [a1.length, a2.length, zipD_len]; omega⟩⟩
  obtain ⟨d0, e0, hd0, he0, rfl⟩ := zipD_get _ _ _ hd
  obtain ⟨v, hv, qv⟩ := a1.get hd0
  obtain ⟨w, hw, qw⟩ := a2.get he0
  refine ⟨⟨vs, ws, v, w, SqL.of h'.2, SqL.of h2'.2, hv, hw⟩, fun x H'' hy => ?_⟩
  obtain ⟨T, y, y2, rfl, hT, rfl, hy, hy2⟩ := hy
  have e := hy vs (SqL.of h'.2)
  rw [hv] at e
  cases e
  have e := hy2 ws (SqL.of h2'.2)
  rw [hw] at e
  cases e
  exact ⟨same_new hT, .tup (SqT.of (er_new hT lv)) (.cons ((qv.mono s).refl_same (same_new hT)) (.cons ((qw.mono s).refl_same (same_new hT)) .nil)) (by show 2 ≤ 1000000; decide)⟩
theorem pdi_zip {elts : List Expr} {kk : Nat} {tpos : Pos} (hg : Gl X "zip") (hm : X.mg "zip" = none) (ha : PDE X S a F) (hb : PDE X S b G) (hs : starEach [a, b] X.env = (false, eval a X.env) :: starEach [b] X.env := by rfl)
    (hs2 : starEach [b] X.env = (false, eval b X.env) :: starEach [] X.env := by rfl) (hpl : (backTo pos (starEach [b] X.env)).any (·.1) = false := by rfl) :
    PDI2 X S (.Tuple elts kk tpos) (.Call (.Name "zip" p) [a, b] [] pos) (iZipD F G) := (pi_zip hg hm (pa_cons ha (pa_cons hb pa_nil hs2) hs) hs hpl).weak fun σ H Rr ⟨A, ρ, ds, R, hf, k⟩ => by
  obtain ⟨d, h1, hf⟩ := bind_some hf
  obtain ⟨e, h2, hf⟩ := bind_some hf
  split at hf
  · cases hf
    refine ⟨A, ρ, _, R, h1, fun v H1 s1 q1 => ⟨A, ρ, _, R.same s1, h2, fun w H2 s2 q2 => ?_⟩⟩
    have q1 := q1.refl_same s2
    cases q1 with
    | lst g a1 z1 =>
      cases q2 with
      | lst g2 a2 z2 =>
        have g' := er_some.mp g
        have g2' := er_some.mp g2
        exact ⟨_, _, _, _, rfl, SqL.of g'.2, SqL.of g2'.2, k _ H2 (s1.trans s2) (by rw [zipD_len]; omega) (src_zip g'.2 g'.1 a1 g2'.2 g2'.1 a2)⟩
  · cases hf
end
end PD
end

section
set_option Elab.async false
set_option linter.all false
set_option maxRecDepth 100000
set_option maxHeartbeats 3200000
/-! # PD 8: statements -/
namespace PD
open PySem PySem.Spec PyProof.Rows L2

/-! ### steps -/
/-- what is not one's own stays, and stays not one's own -/
def SStep (A : Addr → Prop) (S : Amb) (H : Hp) (A' : Addr → Prop) (H' : Hp) : Prop := ∀ a o, H a = some o → (A a → S.S a) → H' a = some o ∧ (A' a → S.S a)
/-- the heap grows; new lists may be one's own -/
structure Gr (A : Addr → Prop) (H : Hp) (A' : Addr → Prop) (H' : Hp) : Prop where
  same : Same H H'
  le : ∀ a, A a → A' a
  new : ∀ a, A' a → A a ∨ H a = none
section
variable {A A' A'' : Addr → Prop} {S : Amb} {H H' H'' : Hp} {K : PySem.W.Frag} {ρ : Rho} {σ : L2.St}
theorem SStep.refl : SStep A S H A H := fun a o h1 h2 => ⟨h1, h2⟩
theorem SStep.trans (h : SStep A S H A' H') (h' : SStep A' S H' A'' H'') : SStep A S H A'' H'' := fun a o h1 h2 => let ⟨q1, q2⟩ := h a o h1 h2; h' a o q1 q2
theorem SStep.of_same (h : Same H H') : SStep A S H A H' := fun a o h1 h2 => ⟨h a o h1, h2⟩
theorem Gr.refl : Gr A H A H := ⟨Same.refl H, fun _ h => h, fun _ h => .inl h⟩
theorem Gr.of_same (h : Same H H') : Gr A H A H' := ⟨h, fun _ h => h, fun _ h => .inl h⟩
theorem Gr.trans (h : Gr A H A' H') (h' : Gr A' H' A'' H'') : Gr A H A'' H'' := ⟨h.same.trans h'.same, fun a q => h'.le a (h.le a q), fun a q => by
  rcases h'.new a q with q | q
  · exact h.new a q
  · exact .inr (same_back h.same q)⟩
theorem Gr.step (h : Gr A H A' H') : SStep A S H A' H' := fun a o h1 h2 => ⟨h.same a o h1, fun q => by
  rcases h.new a q with q | q
  · exact h2 q
  · rw [q] at h1; cases h1⟩
theorem Gr.er (h : Gr A H A' H') : Same (PD.er A H) (PD.er A' H') := fun a o q => by
  obtain ⟨q1, q2⟩ := er_some.mp q
  refine er_some.mpr ⟨fun z => ?_, h.same a o q2⟩
  rcases h.new a z with z | z
  · exact q1 z
  · rw [z] at q2; cases q2
/-- with what is around protected, a step keeps data -/
theorem SStep.er (h : SStep A S H A' H') (sub : ∀ a, S.S a → A a) : Same (PD.er A H) (PD.er A' H') := fun a o q => by
  obtain ⟨q1, q2⟩ := er_some.mp q
  obtain ⟨r1, r2⟩ := h a o q2 fun z => absurd z q1
  exact er_some.mpr ⟨fun z => q1 (sub a (r2 z)), r1⟩
/-- an entry as it comes out of an expression -/
def EnOk (K : PySem.W.Frag) (A A' : Addr → Prop) (S : Amb) (H' : Hp) (v : V) : Ent → Prop
  | .unk => True
  | .dat d => Dq K (PD.er A' H') v d
  | .own t ds => t = false ∧ ∃ (p : Addr) (vs : List V), v = .ref p ∧ A' p ∧ ¬ A p ∧ H' p = some (.lst vs) ∧ DqAll K (PD.er A' H') vs ds ∧ ds.length ≤ lim
theorem Rel.gr (r : Rel K A S ρ σ H) (g : Gr A H A' H') (lv : ∀ a, A' a → H' a ≠ none) : Rel K A' S ρ σ H' where
  len := r.len
  dat := fun i d h => let ⟨v, h1, h2⟩ := r.dat i d h; ⟨v, h1, h2.mono g.er⟩
  own := fun i t ds h => let ⟨l, vs, h1, h0, h2, h3, h4, h5, h6⟩ := r.own i t ds h; ⟨l, vs, h1, h0, g.le _ h2, h3, g.same _ _ h4, h5.mono g.er, h6⟩
  inj := r.inj
  sub := fun a h => g.le a (r.sub a h)
  live := lv
theorem Rel.unset (r : Rel K A S ρ σ H) (i : Nat) (v : V) : Rel K A S (ρ.set i .unk) (σ.set i (some v)) H := by
  have hne : ∀ m e, e ≠ Ent.unk → (ρ.set i .unk)[m]? = some e → i ≠ m ∧ ρ[m]? = some e := fun m e he q => by
    by_cases hm : i = m
    · subst hm
      by_cases hl : i < ρ.length
      · rw [List.getElem?_set_self hl] at q
        cases q; exact absurd rfl he
      · rw [List.getElem?_eq_none (by simpa using hl)] at q; cases q
    · rw [List.getElem?_set_ne hm] at q; exact ⟨hm, q⟩
  refine ⟨by simp [r.len], fun j d q => ?_, fun j t ds q => ?_, fun j k t u ds es l h1 h2 h3 h4 => ?_, r.sub, r.live⟩
  · obtain ⟨n, q⟩ := hne j _ (by intro z; cases z) q
    rw [List.getElem?_set_ne n]
    exact r.dat j d q
  · obtain ⟨n, q⟩ := hne j _ (by intro z; cases z) q
    rw [List.getElem?_set_ne n]
    exact r.own j t ds q
  · obtain ⟨n1, q1⟩ := hne j _ (by intro z; cases z) h1
    obtain ⟨n2, q2⟩ := hne k _ (by intro z; cases z) h2
    rw [List.getElem?_set_ne n1] at h3
    rw [List.getElem?_set_ne n2] at h4
    exact r.inj j k t u ds es l q1 q2 h3 h4
theorem Rel.putN {v : V} {en : Ent} {A0 : Addr → Prop} {H0 : Hp} (r0 : Rel K A0 S ρ σ H0) (g : Gr A0 H0 A' H') (r : Rel K A' S ρ σ H') (i : Nat) (h : EnOk K A0 A' S H' v en) : Rel K A' S (ρ.set i en) (σ.set i (some v)) H' := by
  cases en with
  | unk => exact r.unset i v
  | dat d => exact r.put i h
  | own t ds =>
    obtain ⟨rfl, p, vs, rfl, hA, hn, hp, hq, hz⟩ := h
    have old : ∀ (m : Nat) (e : Ent), m ≠ i → (ρ.set i (.own false ds))[m]? = some e → ρ[m]? = some e := fun m e hm q => by rwa [List.getElem?_set_ne (Ne.symm hm)] at q
    have self : ∀ (e : Ent), (ρ.set i (.own false ds))[i]? = some e → e = .own false ds ∧ i < ρ.length := fun e q => by
      by_cases hl : i < ρ.length
      · rw [List.getElem?_set_self hl] at q
        cases q; exact ⟨rfl, hl⟩
      · rw [List.getElem?_eq_none (by simpa using hl)] at q; cases q
    have nS : ¬ S.S p := fun z => hn (r0.sub p z)
    -- an own list that stood before is not the new one
    have apart : ∀ (j : Nat) (u : Bool) (es : List PyData) (l : Addr), ρ[j]? = some (.own u es) → σ[j]? = some (some (.ref l)) → l ≠ p := fun j u es l h1 h2 z => by
      obtain ⟨l', _, g1, _, g2, _⟩ := r0.own j u es h1
      rw [h2] at g1
      cases g1
      exact hn (z ▸ g2)
    refine ⟨by simp [r.len], fun j d q => ?_, fun j t es q => ?_, fun j k t u es fs l h1 h2 h3 h4 => ?_, r.sub, r.live⟩
    · by_cases hj : j = i
      · subst hj
        cases (self _ q).1
      · rw [List.getElem?_set_ne (Ne.symm hj)]
        exact r.dat j d (old j _ hj q)
    · by_cases hj : j = i
      · subst hj
        obtain ⟨e, hl⟩ := self _ q
        cases e
        exact ⟨p, vs, by rw [List.getElem?_set_self (r.len ▸ hl)], (fun z => nomatch z), hA, nS, hp, hq, hz⟩
      · rw [List.getElem?_set_ne (Ne.symm hj)]
        exact r.own j t es (old j _ hj q)
    · by_cases hj : j = i
      · by_cases hk : k = i
        · rw [hj, hk]
        · subst hj
          obtain ⟨_, hl⟩ := self _ h1
          rw [List.getElem?_set_self (r.len ▸ hl)] at h3
          cases h3
          rw [List.getElem?_set_ne (Ne.symm hk)] at h4
          exact absurd rfl (apart k u fs _ (old k _ hk h2) h4)
      · by_cases hk : k = i
        · subst hk
          obtain ⟨_, hl⟩ := self _ h2
          rw [List.getElem?_set_self (r.len ▸ hl)] at h4
          cases h4
          rw [List.getElem?_set_ne (Ne.symm hj)] at h3
          exact absurd rfl (apart j t es _ (old j _ hj h1) h3)
        · rw [List.getElem?_set_ne (Ne.symm hj)] at h3
          rw [List.getElem?_set_ne (Ne.symm hk)] at h4
          exact r.inj j k t u es fs l (old j _ hj h1) (old k _ hk h2) h3 h4
/-- a list of one's own changes -/
theorem Rel.write (r : Rel K A S ρ σ H) {i : Nat} {t : Bool} {ds es : List PyData} {l : Addr} {ws : List V} (h1 : ρ[i]? = some (.own t ds)) (h2 : σ[i]? = some (some (.ref l))) (hA : A l) (hq : DqAll K (PD.er A H) ws es) (hz : es.length ≤ lim) :
    Rel K A S (ρ.set i (.own t es)) σ (upd H l (.lst ws)) := by
  have hl : i < ρ.length := getElem_len h1
  have old : ∀ (m : Nat) (e : Ent), m ≠ i → (ρ.set i (.own t es))[m]? = some e → ρ[m]? = some e := fun m e hm q => by rwa [List.getElem?_set_ne (Ne.symm hm)] at q
  have self : ∀ (e : Ent), (ρ.set i (.own t es))[i]? = some e → e = .own t es := fun e q => by
    rw [List.getElem?_set_self hl] at q
    cases q; rfl
  have u := er_upd (A := A) (H := H) (a := l) (o := .lst ws) hA
  obtain ⟨l', vs', g1, g0, g2, g3, g4, g5, g6⟩ := r.own i t ds h1
  rw [h2] at g1
  cases g1
  refine ⟨by simp [r.len], fun j d q => ?_, fun j v fs q => ?_, fun j k v w fs gs m q1 q2 q3 q4 => ?_, r.sub, fun a ha => ?_⟩
  · by_cases hj : j = i
    · subst hj; cases self _ q
    · obtain ⟨x, e1, e2⟩ := r.dat j d (old j _ hj q)
      exact ⟨x, e1, e2.mono u⟩
  · by_cases hj : j = i
    · subst hj
      cases self _ q
      exact ⟨l, ws, h2, g0, g2, g3, upd_same, hq.mono u, hz⟩
    · obtain ⟨l2, vs2, e1, e0, e2, e3, e4, e5, e6⟩ := r.own j v fs (old j _ hj q)
      refine ⟨l2, vs2, e1, e0, e2, e3, ?_, e5.mono u, e6⟩
      rw [upd_ne (fun z => ?_)]
      · exact e4
      · subst z
        exact hj (r.inj j i v t fs ds _ (old j _ hj q) h1 e1 h2)
  · have back : ∀ (m : Nat) (x : Bool) (gs : List PyData), (ρ.set i (.own t es))[m]? = some (.own x gs) → ∃ x' gs', ρ[m]? = some (.own x' gs') := fun m x gs q => by
      by_cases hm : m = i
      · subst hm; exact ⟨t, ds, h1⟩
      · exact ⟨x, gs, old m _ hm q⟩
    obtain ⟨_, _, b1⟩ := back j v fs q1
    obtain ⟨_, _, b2⟩ := back k w gs q2
    exact r.inj j k _ _ _ _ m b1 b2 q3 q4
  · by_cases e : a = l
    · subst e; rw [upd_same]; exact fun z => nomatch z
    · rw [upd_ne e]; exact r.live a ha
theorem write_step {l : Addr} {o : HO} (hA : A l) (hS : ¬ S.S l) : SStep A S H A (upd H l o) := fun a u h1 h2 => by
  refine ⟨?_, h2⟩
  rw [upd_ne (fun z => ?_)]
  · exact h1
  · subst z; exact hS (h2 hA)
end

/-! ### entries out of expressions -/
def VN (K : PySem.W.Frag) (S : Amb) (F : Rho → Option Ent) : TE := fun σ H Q => ∃ (A : Addr → Prop) (ρ : Rho) (en : Ent), Rel K A S ρ σ H ∧ F ρ = some en ∧ ∀ A' v H', Gr A H A' H' → (∀ a, A' a → H' a ≠ none) → EnOk K A A' S H' v en → Q v H'
abbrev PDN (X : Cx) (S : Amb) (e : Expr) (F : Rho → Option Ent) : Prop := PE X e (VN X.K S F)
def nDat (F : Rho → Option PyData) : Rho → Option Ent := fun ρ => (F ρ).map .dat
/-- a new list, as one's own -/
def nOwn (F : Rho → Option PyData) : Rho → Option Ent := fun ρ => (F ρ).bind fun d => match d with
  | .list ds => some (.own false ds)
  | _ => none
section
variable {X : Cx} {S : Amb} {K : PySem.W.Frag} {A : Addr → Prop} {H H' : Hp} {e a b c tg : Expr} {es : List Expr} {pos p : Pos} {F G : Rho → Option PyData} {L : Rho → Option (List PyData)}
theorem pdn_dat (h : PDE X S e F) : PDN X S e (nDat F) := h.weak fun σ H Q ⟨A, ρ, en, R, hf, k⟩ => by
  obtain ⟨d, h1, rfl⟩ := Option.map_eq_some_iff.mp hf
  exact ⟨A, ρ, d, R, h1, fun v H' s q => k A v H' (Gr.of_same s) (live_same s R.live) q⟩
/-- a list is made at p -/
theorem gr_new {q : Addr} {vs : List V} {ds : List PyData} {σ : L2.St} {ρ : Rho} {H1 : Hp} (R : Rel K A S ρ σ H) (s : Same H H1) (hp : H1 q = none) (hq : DqAll K (er A H1) vs ds) (hz : ds.length ≤ lim) :
    Gr A H (fun a => A a ∨ a = q) (upd H1 q (.lst vs)) ∧ (∀ a, (A a ∨ a = q) → upd H1 q (.lst vs) a ≠ none) ∧ EnOk K A (fun a => A a ∨ a = q) S (upd H1 q (.lst vs)) (.ref q) (.own false ds) := by
  have s2 : Same H (upd H1 q (.lst vs)) := s.trans (same_new hp)
  refine ⟨⟨s2, fun _ h => .inl h, fun a h => ?_⟩, fun a h => ?_, rfl, q, vs, rfl, .inr rfl, fun z => live_same s R.live q z hp, upd_same, hq.mono (under_same (same_new hp) hp), hz⟩
  · rcases h with h | h
    · exact .inl h
    · rw [h]; exact .inr (same_back s hp)
  · rcases h with h | h
    · exact live_same s2 R.live a h
    · rw [h, upd_same]; exact fun z => nomatch z
theorem nOwn_some {ρ : Rho} {en : Ent} (h : nOwn F ρ = some en) : ∃ ds, F ρ = some (.list ds) ∧ en = .own false ds := by
  obtain ⟨d, h1, h⟩ := bind_some h
  split at h
  · cases h; exact ⟨_, h1, rfl⟩
  · cases h
theorem pdn_lst (h : PDA X S es L) : PDN X S (.List es pos) (nOwn (eLst L)) := (pe_lst h).weak fun σ H Q ⟨A, ρ, en, R, hf, k⟩ => by
  have ll := lim_line
  obtain ⟨ds, hf0, rfl⟩ := nOwn_some hf
  obtain ⟨ds', h1, hf⟩ := bind_some hf0
  split at hf
  · rename_i hz
    cases hf
    refine ⟨A, ρ, _, R, h1, fun vs H1 s1 q1 => ⟨by rw [q1.length]; omega, fun q hq => ?_⟩⟩
    obtain ⟨g1, g2, g3⟩ := gr_new R s1 hq q1 hz
    exact k _ _ _ g1 g2 g3
  · cases hf
/-- list(x) -/
theorem pdn_list (hg : Gl X "list") (hm : X.mg "list" = none) (ha : PDA X S [e] L) (he : starEach [e] X.env = (false, eval e X.env) :: starEach [] X.env := by rfl) : PDN X S (.Call (.Name "list" p) [e] [] pos) (nOwn (eCall dList L)) :=
  (pe_callTy call_list_of hg hm (by decide +kernel) ha (by decide) (by decide) he (by rfl)).weak fun σ H Q ⟨A, ρ, en, R, hf, k⟩ => by
    obtain ⟨ds, hf0, rfl⟩ := nOwn_some hf
    obtain ⟨xs, h1, hf⟩ := bind_some hf0
    refine ⟨A, ρ, xs, R, h1, fun vs H1 s1 q1 => ?_⟩
    unfold dList at hf
    split at hf
    · cases hf
      cases q1 with
      | cons q1 q2 =>
        cases q2
        cases q1 with
        | lst g a1 z1 =>
          refine ⟨_, _, rfl, .inl (SqL.of (er_some.mp g).2), fun l hl => ?_⟩
          obtain ⟨g1, g2, g3⟩ := gr_new R s1 hl a1 z1
          exact k _ _ _ g1 g2 g3
    · cases hf
      cases q1 with
      | cons q1 q2 =>
        cases q2
        cases q1 with
        | tup g a1 z1 =>
          refine ⟨_, _, rfl, .inr (sqT_same er_le g), fun l hl => ?_⟩
          obtain ⟨g1, g2, g3⟩ := gr_new R s1 hl a1 z1
          exact k _ _ _ g1 g2 g3
    · cases hf
/-- xs * n -/
theorem pdn_rep (ha : PDE X S a F) (hb : PDE X S b G) : PDN X S (.BinOp a .Mult b pos) (nOwn (eBin dMul F G)) := (pe_op op_rep ha hb).weak fun σ H Q ⟨A, ρ, en, R, hf, k⟩ => by
  have ll := lim_line
  obtain ⟨ds, hf0, rfl⟩ := nOwn_some hf
  obtain ⟨d, h1, hf⟩ := bind_some hf0
  obtain ⟨e, h2, hf⟩ := bind_some hf
  refine ⟨A, ρ, d, R, h1, fun v H1 s1 q1 => ⟨A, ρ, e, R.same s1, h2, fun w H2 s2 q2 => ?_⟩⟩
  have q1 := q1.refl_same s2
  unfold dMul at hf
  split at hf
  · split at hf <;> cases hf
  · split at hf
    · rename_i xs n _ _ hz
      obtain ⟨z0, z1, z2⟩ := hz
      cases hf
      cases q2
      cases q1 with
      | lst g a1 z3 =>
        have e1 := a1.length
        refine ⟨_, _, _, rfl, rfl, (er_some.mp g).2, by omega, by omega, by rw [e1]; omega, fun l hl => ?_⟩
        obtain ⟨g1, g2, g3⟩ := gr_new R (s1.trans s2) hl (a1.replicate n.toNat) (by
          rw [List.length_flatten, List.map_replicate, List.sum_replicate_nat, Nat.mul_comm]
          exact z2)
        exact k _ _ _ g1 g2 g3
    · cases hf
  · cases hf
theorem pdn_add (ha : PDE X S a F) (hb : PDE X S b G) : PDN X S (.BinOp a .Add b pos) (nOwn (eBin dAdd F G)) := (pe_op op_cat ha hb).weak fun σ H Q ⟨A, ρ, en, R, hf, k⟩ => by
  have ll := lim_line
  obtain ⟨ds, hf0, rfl⟩ := nOwn_some hf
  obtain ⟨d, h1, hf⟩ := bind_some hf0
  obtain ⟨e, h2, hf⟩ := bind_some hf
  refine ⟨A, ρ, d, R, h1, fun v H1 s1 q1 => ⟨A, ρ, e, R.same s1, h2, fun w H2 s2 q2 => ?_⟩⟩
  have q1 := q1.refl_same s2
  unfold dAdd at hf
  split at hf
  · cases hf
  · split at hf
    · rename_i xs ys hz
      cases hf
      cases q1 with
      | lst g a1 z1 =>
        cases q2 with
        | lst g' a2 z2 =>
          refine ⟨_, _, _, _, rfl, rfl, (er_some.mp g).2, (er_some.mp g').2, by rw [a1.length, a2.length]; omega, fun l hl => ?_⟩
          obtain ⟨g1, g2, g3⟩ := gr_new R (s1.trans s2) hl (a1.append a2) (by rw [List.length_append]; exact hz)
          exact k _ _ _ g1 g2 g3
    · cases hf
  · split at hf <;> cases hf
  · split at hf <;> cases hf
  · cases hf
/-- a new list out of a comprehension -/
theorem vn_lc {I : Rho → Option (List PyData)} {T : PyData → Rho → Option Rho} {C : Rho → Option Bool} {E : Rho → Option PyData} {ts vs : List Nat} {σ : L2.St} {Q : VK} (hts : ∀ i ∈ ts, i ∈ vs)
    (h : VN K S (nOwn (eLC I T C E vs)) σ H Q) : tLc (VIP K S I) (VGt K S ts T) (VT K S C) (VP K S E) vs σ H Q := by
  obtain ⟨A, ρ, en, R, hf, k⟩ := h
  obtain ⟨all, hf0, rfl⟩ := nOwn_some hf
  obtain ⟨ds, h1, hf⟩ := bind_some hf0
  obtain ⟨all', h2, hf⟩ := Option.map_eq_some_iff.mp hf
  cases hf
  exact lc_run hts R h1 h2 fun D ws H' hD nA s hDl hq hz => by
    refine k (fun a => A a ∨ a = D) (.ref D) H' ⟨s, fun a h => .inl h, fun a h => ?_⟩ (fun a h => ?_) ⟨rfl, D, ws, rfl, .inr rfl, nA, hDl, hq, hz⟩
    · rcases h with h | h
      · exact .inl h
      · rw [h]; exact .inr hD
    · rcases h with h | h
      · exact live_same s R.live a h
      · rw [h, hDl]; exact fun z => nomatch z
end
end PD
end

section
set_option Elab.async false
set_option linter.all false
set_option maxRecDepth 100000
set_option maxHeartbeats 3200000
/-! # PD 9: statements, loops, a def's promise -/
namespace PD
open PySem PySem.Spec PyProof.Rows L2

/-! ### what an expression leaves of the environment -/
/-- an entry for a slot: its own list is no one's yet -/
def EnOk2 (K : PySem.W.Frag) (A' : Addr → Prop) (S : Amb) (ρ : Rho) (σ : L2.St) (H' : Hp) (v : V) : Ent → Prop
  | .unk => True
  | .dat d => Dq K (er A' H') v d
  | .own t ds => t = false ∧ ∃ (p : Addr) (vs : List V), v = .ref p ∧ A' p ∧ ¬ S.S p ∧ (∀ (j : Nat) (u : Bool) (es : List PyData), ρ[j]? = some (.own u es) → σ[j]? ≠ some (some (.ref p))) ∧ H' p = some (.lst vs) ∧ DqAll K (er A' H') vs ds ∧ ds.length ≤ lim
section
variable {A A' A'' : Addr → Prop} {S : Amb} {H H' H'' : Hp} {K : PySem.W.Frag} {ρ : Rho} {σ : L2.St}
theorem EnOk.two {v : V} {en : Ent} (r0 : Rel K A S ρ σ H) (h : EnOk K A A' S H' v en) : EnOk2 K A' S ρ σ H' v en := by
  cases en with
  | unk => trivial
  | dat d => exact h
  | own t ds =>
    obtain ⟨rfl, p, vs, rfl, hA, hn, hp, hq, hz⟩ := h
    refine ⟨rfl, p, vs, rfl, hA, fun z => hn (r0.sub p z), fun j u es h1 h2 => ?_, hp, hq, hz⟩
    obtain ⟨l', _, g1, _, g2, _⟩ := r0.own j u es h1
    rw [h2] at g1
    cases g1
    exact hn g2
theorem Rel.put2 {v : V} {en : Ent} (r : Rel K A' S ρ σ H') (i : Nat) (h : EnOk2 K A' S ρ σ H' v en) : Rel K A' S (ρ.set i en) (σ.set i (some v)) H' := by
  cases en with
  | unk => exact r.unset i v
  | dat d => exact r.put i h
  | own t ds =>
    obtain ⟨rfl, p, vs, rfl, hA, nS, apart, hp, hq, hz⟩ := h
    have old : ∀ (m : Nat) (e : Ent), m ≠ i → (ρ.set i (.own false ds))[m]? = some e → ρ[m]? = some e := fun m e hm q => by rwa [List.getElem?_set_ne (Ne.symm hm)] at q
    have self : ∀ (e : Ent), (ρ.set i (.own false ds))[i]? = some e → e = .own false ds ∧ i < ρ.length := fun e q => by
      by_cases hl : i < ρ.length
      · rw [List.getElem?_set_self hl] at q
        cases q; exact ⟨rfl, hl⟩
      · rw [List.getElem?_eq_none (by simpa using hl)] at q; cases q
    refine ⟨by simp [r.len], fun j d q => ?_, fun j t es q => ?_, fun j k t u es fs l h1 h2 h3 h4 => ?_, r.sub, r.live⟩
    · by_cases hj : j = i
      · subst hj
        cases (self _ q).1
      · rw [List.getElem?_set_ne (Ne.symm hj)]
        exact r.dat j d (old j _ hj q)
    · by_cases hj : j = i
      · subst hj
        obtain ⟨e, hl⟩ := self _ q
        cases e
        exact ⟨p, vs, by rw [List.getElem?_set_self (r.len ▸ hl)], (fun z => nomatch z), hA, nS, hp, hq, hz⟩
      · rw [List.getElem?_set_ne (Ne.symm hj)]
        exact r.own j t es (old j _ hj q)
    · by_cases hj : j = i
      · by_cases hk : k = i
        · rw [hj, hk]
        · subst hj
          obtain ⟨_, hl⟩ := self _ h1
          rw [List.getElem?_set_self (r.len ▸ hl)] at h3
          cases h3
          rw [List.getElem?_set_ne (Ne.symm hk)] at h4
          exact absurd h4 (apart k u fs (old k _ hk h2))
      · by_cases hk : k = i
        · subst hk
          obtain ⟨_, hl⟩ := self _ h2
          rw [List.getElem?_set_self (r.len ▸ hl)] at h4
          cases h4
          rw [List.getElem?_set_ne (Ne.symm hj)] at h3
          exact absurd h3 (apart j t es (old j _ hj h1))
        · rw [List.getElem?_set_ne (Ne.symm hj)] at h3
          rw [List.getElem?_set_ne (Ne.symm hk)] at h4
          exact r.inj j k t u es fs l (old j _ hj h1) (old k _ hk h2) h3 h4
end
/-- an expression: an entry, and the environment behind it -/
def VM (K : PySem.W.Frag) (S : Amb) (F : Rho → Option (Ent × Rho)) : TE := fun σ H Q => ∃ (A : Addr → Prop) (ρ : Rho) (en : Ent) (ρ' : Rho), Rel K A S ρ σ H ∧ F ρ = some (en, ρ') ∧ ∀ A' v H', SStep A S H A' H' → Rel K A' S ρ' σ H' → EnOk2 K A' S ρ' σ H' v en → Q v H'
abbrev PDM (X : Cx) (S : Amb) (e : Expr) (F : Rho → Option (Ent × Rho)) : Prop := PE X e (VM X.K S F)
def mN (F : Rho → Option Ent) : Rho → Option (Ent × Rho) := fun ρ => (F ρ).map fun en => (en, ρ)
def mD (F : Rho → Option PyData) : Rho → Option (Ent × Rho) := fun ρ => (F ρ).map fun d => (.dat d, ρ)

inductive Out where
  | next
  | ret (d : PyData)
  | brk
  | cont
abbrev SF := Rho → Option (Out × Rho)
def VSE (K : PySem.W.Frag) (A : Addr → Prop) (S : Amb) (H : Hp) (D : Ends) (ρ' : Rho) : Out → Prop
  | .next => ∀ A' σ' H', SStep A S H A' H' → Rel K A' S ρ' σ' H' → D.nx σ' H'
  | .brk => ∀ A' σ' H', SStep A S H A' H' → Rel K A' S ρ' σ' H' → D.bk σ' H'
  | .cont => ∀ A' σ' H', SStep A S H A' H' → Rel K A' S ρ' σ' H' → D.ct σ' H'
  | .ret d => ∀ A' σ' v H', SStep A S H A' H' → Rel K A' S ρ' σ' H' → Dq K (er A' H') v d → D.rt v H'
def VS (K : PySem.W.Frag) (S : Amb) (F : SF) : TS := fun D σ H => ∃ (A : Addr → Prop) (ρ : Rho) (o : Out) (ρ' : Rho), Rel K A S ρ σ H ∧ F ρ = some (o, ρ') ∧ VSE K A S H D ρ' o
abbrev PDS (X : Cx) (S : Amb) (st : Stmt) (F : SF) : Prop := PS X st (VS X.K S F)
abbrev PDSs (X : Cx) (S : Amb) (st : List Stmt) (F : SF) : Prop := PSs X st (VS X.K S F)
section
variable {X : Cx} {S : Amb} {K : PySem.W.Frag} {A A' : Addr → Prop} {H H' : Hp} {e a b c tg : Expr} {es : List Expr} {pos p : Pos} {F G : Rho → Option PyData} {L : Rho → Option (List PyData)} {M N : Rho → Option (Ent × Rho)} {st : Stmt} {sts : List Stmt} {B C : SF}
theorem VSE.before {D : Ends} {ρ' : Rho} {o : Out} (s : SStep A S H A' H') (h : VSE K A S H D ρ' o) : VSE K A' S H' D ρ' o := by
  cases o with
  | next => exact fun A2 σ2 H2 s2 r => h A2 σ2 H2 (s.trans s2) r
  | brk => exact fun A2 σ2 H2 s2 r => h A2 σ2 H2 (s.trans s2) r
  | cont => exact fun A2 σ2 H2 s2 r => h A2 σ2 H2 (s.trans s2) r
  | ret d => exact fun A2 σ2 v H2 s2 r q => h A2 σ2 v H2 (s.trans s2) r q
theorem pdm_n {F : Rho → Option Ent} (h : PDN X S e F) : PDM X S e (mN F) := h.weak fun σ H Q ⟨A, ρ, en, ρ', R, hf, k⟩ => by
  obtain ⟨en', h1, hf⟩ := Option.map_eq_some_iff.mp hf
  cases hf
  exact ⟨A, ρ, en, R, h1, fun A' v H' g lv ok => k A' v H' g.step (R.gr g lv) (ok.two R)⟩
theorem pdm_d (h : PDE X S e F) : PDM X S e (mD F) := h.weak fun σ H Q ⟨A, ρ, en, ρ', R, hf, k⟩ => by
  obtain ⟨d, h1, hf⟩ := Option.map_eq_some_iff.mp hf
  cases hf
  exact ⟨A, ρ, d, R, h1, fun v H' s q => k A v H' (.of_same s) (R.same s) q⟩

/-! ### blocks -/
def sNext : SF := fun ρ => some (.next, ρ)
def sSeq (F G : SF) : SF := fun ρ => (F ρ).bind fun q => match q.1 with
  | .next => G q.2
  | o => some (o, q.2)
theorem pds_nil : PDSs X S [] sNext := pss_nil.weak fun D σ H ⟨A, ρ, o, ρ', R, hf, k⟩ => by
  cases hf
  exact k A σ H .refl R
theorem pds_cons (h1 : PDS X S st B) (h2 : PDSs X S sts C) : PDSs X S (st :: sts) (sSeq B C) := (pss_cons h1 h2).weak fun D σ H ⟨A, ρ, o, ρ', R, hf, k⟩ => by
  obtain ⟨⟨o1, ρ1⟩, g1, hf⟩ := bind_some hf
  cases o1 with
  | next => exact ⟨A, ρ, .next, ρ1, R, g1, fun A1 σ1 H1 s1 R1 => ⟨A1, ρ1, o, ρ', R1, hf, k.before s1⟩⟩
  | brk => cases hf; exact ⟨A, ρ, _, _, R, g1, k⟩
  | cont => cases hf; exact ⟨A, ρ, _, _, R, g1, k⟩
  | ret d => cases hf; exact ⟨A, ρ, _, _, R, g1, k⟩
theorem pds_one (h1 : PDS X S st B) : PDSs X S [st] B := pss_one h1
/-- a statement that is not come to -/
def sStuck : SF := fun _ => none
theorem pds_stuck : PDS X S st sStuck := ⟨fun pins s σ H D I ⟨A, ρ, o, ρ', R, hf, k⟩ => nomatch hf⟩
def sPass : SF := sNext
theorem pds_pass : PDS X S (.Pass pos) sNext := ps_pass.weak fun D σ H ⟨A, ρ, o, ρ', R, hf, k⟩ => by
  cases hf
  exact k A σ H .refl R
def sBrk : SF := fun ρ => some (.brk, ρ)
theorem pds_break : PDS X S (.Break pos) sBrk := ps_break.weak fun D σ H ⟨A, ρ, o, ρ', R, hf, k⟩ => by
  cases hf
  exact k A σ H .refl R
def sCont : SF := fun ρ => some (.cont, ρ)
theorem pds_continue : PDS X S (.Continue pos) sCont := ps_continue.weak fun D σ H ⟨A, ρ, o, ρ', R, hf, k⟩ => by
  cases hf
  exact k A σ H .refl R

/-! ### assignments -/
def sSet (i : Nat) (M : Rho → Option (Ent × Rho)) : SF := fun ρ => (M ρ).map fun q => (.next, q.2.set i q.1)
theorem vs_set {i : Nat} {D : Ends} {σ : L2.St} (h : VS K S (sSet i M) D σ H) : tAsg (VM K S M) (gName i) D σ H := by
  obtain ⟨A, ρ, o, ρ', R, hf, k⟩ := h
  obtain ⟨⟨en, ρ1⟩, h1, hf⟩ := Option.map_eq_some_iff.mp hf
  cases hf
  exact ⟨A, ρ, en, ρ1, R, h1, fun A1 v H1 s1 R1 ok => k A1 _ H1 s1 (R1.put2 i ok)⟩
theorem pds_set {i : Nat} {x : Str} {pos' : Pos} (hN : X.N.Nodup) (hi : X.N[i]? = some x) (hx : Loc X.env.scope x) (he : PDM X S e M) (hs : swapsWith e (some (.Name x pos')) pos.line X.env = pure false := by rfl)
    (hf : X.fn x = true ∨ X.env.scope.names.lookup x = some .local := by first | exact .inl rfl | exact .inr rfl | assumption) : PDS X S (.Assign [.Name x pos'] e pos) (sSet i M) := (ps_set hN hi hx he hs hf).weak fun D σ H h => vs_set h
section
variable {elt iter : Expr} {ifs : List Expr} {scope : Scope} {own : List (Str × Nat)} {I : Rho → Option (List PyData)} {T : PyData → Rho → Option Rho} {Cb : Rho → Option Bool} {E : Rho → Option PyData} {ts : List Nat}
/-- name = [..], the name a local: as a value, as a list of one's own -/
theorem pds_setLc {i : Nat} {y : Str} {py spos : Pos} (hc : X.calm = true) (hN : X.N.Nodup) (hy : X.N[i]? = some y) (hyl : X.env.scope.names.lookup y = some .local)
    (hsw : swapsWith (.ListComp elt [⟨tg, iter, ifs, 0⟩] scope pos) (some (.Name y py)) spos.line X.env = pure true) (hi : PDIP X S tg iter I) (ok : BlkOk X.N X.env.scope scope own) (hts : ∀ i ∈ ts, i ∈ own.map (·.2))
    (hg : ∀ (s : Shared) (H : Hp) (C : Addr) (cl : List (Str × Addr)) (fp : List Addr), PDG (X.blk s H scope (compEnvC scope cl C X.env) fp) S tg ts T)
    (ht : ∀ (s : Shared) (H : Hp) (D : Addr) (cl : List (Str × Addr)) (fp : List Addr), PTs (X.blk s H scope (compEnvC scope cl D X.env) fp) ifs (VT X.K S Cb))
    (he : ∀ (s : Shared) (H : Hp) (C : Addr) (cl : List (Str × Addr)) (fp : List Addr), PDE (X.blk s H scope (compEnvC scope cl C X.env) fp) S elt E) (hs : ∀ x, foldedSetIterable iter X.env x = pure x := by intro _; rfl) :
    PDS X S (.Assign [.Name y py] (.ListComp elt [⟨tg, iter, ifs, 0⟩] scope pos) spos) (sSet i (mD (eLC I T Cb E (own.map (·.2))))) := (ps_setLc hc hN hy hyl hsw hi ok hg ht he hs).weak fun D σ H ⟨A, ρ, o, ρ', R, hf, k⟩ => by
  obtain ⟨⟨en, ρ1⟩, h1, hf⟩ := Option.map_eq_some_iff.mp hf
  cases hf
  obtain ⟨d, h2, h1⟩ := Option.map_eq_some_iff.mp h1
  cases h1
  exact vp_lc hts ⟨A, ρ, d, R, h2, fun v H' s q => k A _ H' (.of_same s) ((R.same s).put i q)⟩
theorem pds_setLcN {i : Nat} {y : Str} {py spos : Pos} (hc : X.calm = true) (hN : X.N.Nodup) (hy : X.N[i]? = some y) (hyl : X.env.scope.names.lookup y = some .local)
    (hsw : swapsWith (.ListComp elt [⟨tg, iter, ifs, 0⟩] scope pos) (some (.Name y py)) spos.line X.env = pure true) (hi : PDIP X S tg iter I) (ok : BlkOk X.N X.env.scope scope own) (hts : ∀ i ∈ ts, i ∈ own.map (·.2))
    (hg : ∀ (s : Shared) (H : Hp) (C : Addr) (cl : List (Str × Addr)) (fp : List Addr), PDG (X.blk s H scope (compEnvC scope cl C X.env) fp) S tg ts T)
    (ht : ∀ (s : Shared) (H : Hp) (D : Addr) (cl : List (Str × Addr)) (fp : List Addr), PTs (X.blk s H scope (compEnvC scope cl D X.env) fp) ifs (VT X.K S Cb))
    (he : ∀ (s : Shared) (H : Hp) (C : Addr) (cl : List (Str × Addr)) (fp : List Addr), PDE (X.blk s H scope (compEnvC scope cl C X.env) fp) S elt E) (hs : ∀ x, foldedSetIterable iter X.env x = pure x := by intro _; rfl) :
    PDS X S (.Assign [.Name y py] (.ListComp elt [⟨tg, iter, ifs, 0⟩] scope pos) spos) (sSet i (mN (nOwn (eLC I T Cb E (own.map (·.2)))))) := (ps_setLc hc hN hy hyl hsw hi ok hg ht he hs).weak fun D σ H ⟨A, ρ, o, ρ', R, hf, k⟩ => by
  obtain ⟨⟨en, ρ1⟩, h1, hf⟩ := Option.map_eq_some_iff.mp hf
  cases hf
  obtain ⟨en', h2, h1⟩ := Option.map_eq_some_iff.mp h1
  cases h1
  exact vn_lc hts ⟨A, ρ, en, R, h2, fun A' v H' g lv ok => k A' _ H' g.step ((R.gr g lv).put2 i (ok.two R))⟩
end
/-- a, b = a tuple -/
def sUnp (T : PyData → Rho → Option Rho) (F : Rho → Option PyData) : SF := fun ρ => (F ρ).bind fun d => (T d ρ).map fun ρ' => (.next, ρ')
theorem pds_unp {ts : List Nat} {T : PyData → Rho → Option Rho} (he : PDE X S e F) (hg : PDG X S tg ts T) (hs : swapsWithSole [tg] e pos.line X.env = pure false := by rfl) (hw : swappedStores [tg] e X.env = pure none := by rfl)
    (h1 : (assignEach [tg] X.env).map (·.2) = [assign tg X.env] := by rfl) : PDS X S (.Assign [tg] e pos) (sUnp T F) := (ps_asg he hg hs hw h1).weak fun D σ H ⟨A, ρ, o, ρ', R, hf, k⟩ => by
  obtain ⟨d, g1, hf⟩ := bind_some hf
  obtain ⟨ρ2, g2, hf⟩ := Option.map_eq_some_iff.mp hf
  cases hf
  exact ⟨A, ρ, d, R, g1, fun v H1 s1 q1 => ⟨A, ρ, _, d, R.same s1, q1, g2, fun σ' R' _ _ => k A σ' H1 (.of_same s1) R'⟩⟩
/-- a, b = x, y -/
def sPar (i j : Nat) (M N : Rho → Option (Ent × Rho)) : SF := fun ρ => (M ρ).bind fun q => match q.1 with
  | .dat d => (N q.2).map fun r => (.next, (r.2.set i (.dat d)).set j r.1)
  | _ => none
theorem pds_par {i j : Nat} {x y : Str} {px py pt : Pos} {kt k2 : Nat} {pt2 : Pos} (hc : X.calm = true) (hN : X.N.Nodup) (hi : X.N[i]? = some x) (hj : X.N[j]? = some y) (hij : i ≠ j)
    (hx : X.env.scope.names.lookup x = some .local) (hy : X.env.scope.names.lookup y = some .local) (ha : PDM X S a M) (hb : PDM X S b N) (hw : swappedStores [.Tuple [.Name x px, .Name y py] kt pt] (.Tuple [a, b] k2 pt2) X.env = pure (some [x, y]))
    (hs : swapsWithSole [.Tuple [.Name x px, .Name y py] kt pt] (.Tuple [a, b] k2 pt2) pos.line X.env = pure false := by rfl)
    (hs1 : starEach [a, b] X.env = (false, eval a X.env) :: starEach [b] X.env := by rfl) (hs2 : starEach [b] X.env = (false, eval b X.env) :: starEach [] X.env := by rfl) :
    PDS X S (.Assign [.Tuple [.Name x px, .Name y py] kt pt] (.Tuple [a, b] k2 pt2) pos) (sPar i j M N) := (ps_par hc hN hi hj hij hx hy (pa_cons ha (pa_cons hb pa_nil hs2) hs1) hw hs).weak fun D σ H ⟨A, ρ, o, ρ', R, hf, k⟩ => by
  obtain ⟨⟨en, ρ1⟩, g1, hf⟩ := bind_some hf
  cases en with
  | unk => cases hf
  | own t ds => cases hf
  | dat d =>
    obtain ⟨⟨en2, ρ2⟩, g2, hf⟩ := Option.map_eq_some_iff.mp hf
    cases hf
    refine ⟨A, ρ, _, ρ1, R, g1, fun A1 v H1 s1 R1 q1 => ⟨A1, ρ1, en2, ρ2, R1, g2, fun A2 w H2 s2 R2 q2 => ?_⟩⟩
    have q1' : Dq X.K (er A2 H2) v d := Dq.mono (s2.er R1.sub) q1
    refine ⟨v, w, rfl, k A2 _ H2 (s1.trans s2) ((R2.put i q1').put2 j ?_)⟩
    cases en2 with
    | unk => trivial
    | dat d2 => exact q2
    | own t ds =>
      obtain ⟨rfl, q, vs, rfl, hA, nS, apart, hp, hq, hz⟩ := q2
      refine ⟨rfl, q, vs, rfl, hA, nS, fun m u es h1 h2 => ?_, hp, hq, hz⟩
      by_cases hm : m = i
      · subst hm
        by_cases hl : m < ρ2.length
        · rw [List.getElem?_set_self hl] at h1; cases h1
        · rw [List.getElem?_eq_none (by simpa using hl)] at h1; cases h1
      · rw [List.getElem?_set_ne (Ne.symm hm)] at h1 h2
        exact apart m u es h1 h2

/-! ### if, return, expressions as statements -/
def sIf (T : Rho → Option Bool) (B C : SF) : SF := fun ρ => (T ρ).bind fun t => if t = true then B ρ else C ρ
theorem pds_if {T : Rho → Option Bool} {p q : List Stmt} (hc : PDT X S c T) (ha : PDSs X S p B) (hb : PDSs X S q C) : PDS X S (.If c p q pos) (sIf T B C) := (ps_if hc ha hb).weak fun D σ H ⟨A, ρ, o, ρ', R, hf, k⟩ => by
  obtain ⟨t, g1, hf⟩ := bind_some hf
  refine ⟨A, ρ, t, R, g1, fun H1 s1 => ?_⟩
  cases t with
  | true =>
    rw [if_pos rfl] at hf
    exact iteT ⟨A, ρ, o, ρ', R.same s1, hf, k.before (.of_same s1)⟩
  | false =>
    rw [if_neg Bool.false_ne_true] at hf
    exact iteF ⟨A, ρ, o, ρ', R.same s1, hf, k.before (.of_same s1)⟩
def sRet (F : Rho → Option PyData) : SF := fun ρ => (F ρ).map fun d => (.ret d, ρ)
theorem pds_ret (he : PDE X S e F) : PDS X S (.Return (some e) pos) (sRet F) := (ps_ret he).weak fun D σ H ⟨A, ρ, o, ρ', R, hf, k⟩ => by
  obtain ⟨d, g1, hf⟩ := Option.map_eq_some_iff.mp hf
  cases hf
  exact ⟨A, ρ, d, R, g1, fun v H1 s1 q1 => k A σ v H1 (.of_same s1) (R.same s1) q1⟩
/-- return with what is left behind it -/
def sRetM (M : Rho → Option (Ent × Rho)) : SF := fun ρ => (M ρ).bind fun q => match q.1 with
  | .dat d => some (.ret d, q.2)
  | _ => none
theorem pds_retM (he : PDM X S e M) : PDS X S (.Return (some e) pos) (sRetM M) := (ps_ret he).weak fun D σ H ⟨A, ρ, o, ρ', R, hf, k⟩ => by
  obtain ⟨⟨en, ρ1⟩, g1, hf⟩ := bind_some hf
  cases en with
  | unk => cases hf
  | own t ds => cases hf
  | dat d =>
    cases hf
    exact ⟨A, ρ, _, ρ1, R, g1, fun A1 v H1 s1 R1 q1 => k A1 σ v H1 s1 R1 q1⟩
/-- a list of one's own handed out -/
theorem Rel.freeze {ρ : Rho} {σ : L2.St} (r : Rel K A S ρ σ H) {i : Nat} {t : Bool} {ds : List PyData} {l : Addr} {vs : List V} (h1 : ρ[i]? = some (.own t ds)) (h2 : σ[i]? = some (some (.ref l))) (h3 : ¬ S.S l) (h4 : H l = some (.lst vs)) (h5 : DqAll K (er A H) vs ds) (h6 : ds.length ≤ lim) :
    Rel K (fun a => A a ∧ a ≠ l) S (ρ.set i (.dat (.list ds))) σ H ∧ Dq K (er (fun a => A a ∧ a ≠ l) H) (.ref l) (.list ds) := by
  have u : Same (er A H) (er (fun a => A a ∧ a ≠ l) H) := er_sub fun a q => q.1
  have self : Dq K (er (fun a => A a ∧ a ≠ l) H) (.ref l) (.list ds) := .lst (er_some.mpr ⟨fun z => z.2 rfl, h4⟩) (h5.mono u) h6
  have hl : i < ρ.length := getElem_len h1
  have old : ∀ (m : Nat) (e : Ent), m ≠ i → (ρ.set i (.dat (.list ds)))[m]? = some e → ρ[m]? = some e := fun m e hm q => by rwa [List.getElem?_set_ne (Ne.symm hm)] at q
  have me : ∀ (e : Ent), (ρ.set i (.dat (.list ds)))[i]? = some e → e = .dat (.list ds) := fun e q => by
    rw [List.getElem?_set_self hl] at q
    cases q; rfl
  refine ⟨⟨by simp [r.len], fun j d q => ?_, fun j v fs q => ?_, fun j k v w fs gs m q1 q2 q3 q4 => ?_, fun a ha => ⟨r.sub a ha, fun z => h3 (z ▸ ha)⟩, fun a ha => r.live a ha.1⟩, self⟩
  · by_cases hj : j = i
    · subst hj; cases me _ q
      exact ⟨_, h2, self⟩
    · obtain ⟨x, e1, e2⟩ := r.dat j d (old j _ hj q)
      exact ⟨x, e1, e2.mono u⟩
  · by_cases hj : j = i
    · subst hj; cases me _ q
    · obtain ⟨l2, vs2, e1, e0, e2, e3, e4, e5, e6⟩ := r.own j v fs (old j _ hj q)
      exact ⟨l2, vs2, e1, e0, ⟨e2, fun z => hj (r.inj j i v t fs ds l (old j _ hj q) h1 (z ▸ e1) h2)⟩, e3, e4, e5.mono u, e6⟩
  · by_cases hj : j = i
    · subst hj; cases me _ q1
    · by_cases hk : k = i
      · subst hk; cases me _ q2
      · exact r.inj j k v w fs gs m (old j _ hj q1) (old k _ hk q2) q3 q4
theorem freeze_step {l : Addr} : SStep A S H (fun a => A a ∧ a ≠ l) H := fun a o h1 h2 => ⟨h1, fun z => h2 z.1⟩
def sRetOwn (i : Nat) : SF := fun ρ => match ρ[i]? with
  | some (.own _ ds) => some (.ret (.list ds), ρ.set i (.dat (.list ds)))
  | _ => none
theorem pds_retOwn {i : Nat} (h : PE X e (tVar i)) : PDS X S (.Return (some e) pos) (sRetOwn i) := (ps_ret h).weak fun D σ H ⟨A, ρ, o, ρ', R, hf, k⟩ => by
  unfold sRetOwn at hf
  split at hf
  · rename_i t ds hi
    cases hf
    obtain ⟨l, vs, e1, e0, e2, e3, e4, e5, e6⟩ := R.own i t ds hi
    obtain ⟨R', q⟩ := R.freeze hi e1 e3 e4 e5 e6
    exact ⟨_, e1, k _ σ _ H freeze_step R' q⟩
  · cases hf
/-- a list of one's own, from here on a value -/
def eFrz (i : Nat) : Rho → Option (Ent × Rho) := fun ρ => match ρ[i]? with
  | some (.own _ ds) => some (.dat (.list ds), ρ.set i (.dat (.list ds)))
  | _ => none
theorem pdm_frz {i : Nat} (h : PE X e (tVar i)) : PDM X S e (eFrz i) := h.weak fun σ H Q ⟨A, ρ, en, ρ', R, hf, k⟩ => by
  unfold eFrz at hf
  split at hf
  · rename_i t ds hi
    cases hf
    obtain ⟨l, vs, e1, e0, e2, e3, e4, e5, e6⟩ := R.own i t ds hi
    obtain ⟨R', q⟩ := R.freeze hi e1 e3 e4 e5 e6
    exact ⟨_, e1, k _ _ H freeze_step R' q⟩
  · cases hf
def sDrop (M : Rho → Option (Ent × Rho)) : SF := fun ρ => (M ρ).map fun q => (.next, q.2)
theorem pds_drop (he : PDM X S e M) (hs : swapsWith e none pos.line X.env = pure false := by rfl) : PDS X S (.Expr e pos) (sDrop M) := (ps_expr he hs).weak fun D σ H ⟨A, ρ, o, ρ', R, hf, k⟩ => by
  obtain ⟨⟨en, ρ1⟩, g1, hf⟩ := Option.map_eq_some_iff.mp hf
  cases hf
  exact ⟨A, ρ, en, ρ1, R, g1, fun A1 v H1 s1 R1 _ => k A1 σ H1 s1 R1⟩
end
end PD
end

section
set_option Elab.async false
set_option linter.all false
set_option maxRecDepth 100000
set_option maxHeartbeats 3200000
/-! # PD 10: lists of one's own, loops, defs -/
namespace PD
open PySem PySem.Spec PyProof.Rows L2
section
variable {X : Cx} {S : Amb} {K : PySem.W.Frag} {A A' : Addr → Prop} {H H' : Hp} {e a b c tg : Expr} {es : List Expr} {pos p : Pos} {F G : Rho → Option PyData} {L : Rho → Option (List PyData)} {M N : Rho → Option (Ent × Rho)} {st : Stmt} {sts : List Stmt} {B C : SF}

/-! ### lists of one's own, read -/
def ownAt (i : Nat) (ρ : Rho) : Option (List PyData) := match ρ[i]? with
  | some (.own _ ds) => some ds
  | _ => none
theorem ownAt_some {i : Nat} {ρ : Rho} {ds : List PyData} (h : ownAt i ρ = some ds) : ∃ t, ρ[i]? = some (.own t ds) := by
  unfold ownAt at h
  split at h
  · rename_i t ds' hi
    cases h
    exact ⟨t, hi⟩
  · cases h
/-- x[e] -/
def eOwnIx (i : Nat) (F : Rho → Option PyData) : Rho → Option PyData := fun ρ => (F ρ).bind fun d => match d with
  | .int k => (ownAt i ρ).bind fun ds => atI ds k
  | _ => none
theorem pd_ownIx {i : Nat} (ha : PE X a (tVar i)) (hb : PDE X S b F) (hs : PlainIx b) : PDE X S (.Subscript a b pos) (eOwnIx i F) := (pe_ix ix_list ha hb hs).weak fun σ H Q ⟨A, ρ, z, R, hf, k⟩ => by
  obtain ⟨d, g1, hf⟩ := bind_some hf
  split at hf
  · obtain ⟨ds, g2, hf⟩ := bind_some hf
    obtain ⟨t, hi⟩ := ownAt_some g2
    obtain ⟨l, vs, e1, e0, e2, e3, e4, e5, e6⟩ := R.own i t ds hi
    refine ⟨_, e1, A, ρ, _, R, g1, fun v H1 s1 q1 => ?_⟩
    cases q1
    obtain ⟨w, h1, h2⟩ := (e5.refl_same s1).atI hf
    exact ⟨l, vs, _, w, rfl, rfl, SqL.of (s1 _ _ e4), h1, k w H1 s1 h2⟩
  · cases hf
/-- a list of one's own, only looked at -/
def ePeek (i : Nat) : Rho → Option PyData := fun ρ => (ownAt i ρ).map .list
/-- VP, of a value that is not kept -/
def VK0 (K : PySem.W.Frag) (S : Amb) (F : Rho → Option PyData) : TE := fun σ H Q => ∃ (A : Addr → Prop) (ρ : Rho) (d : PyData), Rel K A S ρ σ H ∧ F ρ = some d ∧ ∀ v H', Same H H' → Dq K H' v d → Q v H'
theorem vk_own {i : Nat} {σ : L2.St} {Q : VK} (h : VK0 K S (ePeek i) σ H Q) : tVar i σ H Q := by
  obtain ⟨A, ρ, d, R, hf, k⟩ := h
  obtain ⟨ds, g2, rfl⟩ := Option.map_eq_some_iff.mp hf
  obtain ⟨t, hi⟩ := ownAt_some g2
  obtain ⟨l, vs, e1, e0, e2, e3, e4, e5, e6⟩ := R.own i t ds hi
  exact ⟨_, e1, k _ H (Same.refl H) (.lst e4 e5.full e6)⟩
/-- len(x) -/
theorem pd_lenOwn {i : Nat} (hg : Gl X "len") (hm : X.mg "len" = none) (ha : PE X a (tVar i)) (hs : starEach [a] X.env = (false, eval a X.env) :: starEach [] X.env := by rfl) : PDE X S (.Call (.Name "len" p) [a] [] pos) (fun ρ => (ownAt i ρ).map fun ds => .int ds.length) :=
  (pe_callB call_len_seq hg hm boot_len (pa_cons ha pa_nil hs) (by decide) (by decide) hs (by rfl)).weak fun σ H Q ⟨A, ρ, z, R, hf, k⟩ => by
    obtain ⟨ds, g2, rfl⟩ := Option.map_eq_some_iff.mp hf
    obtain ⟨t, hi⟩ := ownAt_some g2
    obtain ⟨l, vs, e1, e0, e2, e3, e4, e5, e6⟩ := R.own i t ds hi
    refine ⟨_, e1, l, vs, rfl, .inl (SqL.of e4), ?_⟩
    rw [e5.length]
    exact k _ H (Same.refl H) (.int _)
/-- list(x): a copy -/
theorem pd_listOwn {i : Nat} (hg : Gl X "list") (hm : X.mg "list" = none) (ha : PE X a (tVar i)) (hs : starEach [a] X.env = (false, eval a X.env) :: starEach [] X.env := by rfl) : PDE X S (.Call (.Name "list" p) [a] [] pos) (ePeek i) :=
  (pe_callTy call_list_of hg hm (by decide +kernel) (pa_cons ha pa_nil hs) (by decide) (by decide) hs (by rfl)).weak fun σ H Q ⟨A, ρ, z, R, hf, k⟩ => by
    obtain ⟨ds, g2, rfl⟩ := Option.map_eq_some_iff.mp hf
    obtain ⟨t, hi⟩ := ownAt_some g2
    obtain ⟨l, vs, e1, e0, e2, e3, e4, e5, e6⟩ := R.own i t ds hi
    exact ⟨_, e1, l, vs, rfl, .inl (SqL.of e4), fun q hq => k _ _ (same_new hq) (.lst (er_new hq R.live) (e5.refl_same (same_new hq)) e6)⟩
/-- x[lo:hi] -/
def eOwnCut (i : Nat) (U V : Rho → Option (Option Int)) : Rho → Option PyData := fun ρ => (U ρ).bind fun l => (V ρ).bind fun u => (ownAt i ρ).map fun ds => .list (cutD ds l u)
theorem pd_ownCut {i : Nat} {lo hi : Option Expr} {U V : Rho → Option (Option Int)} {p2 : Pos} (he : PE X a (tVar i)) (hl : PDO X S lo U) (hu : PDO X S hi V) : PDE X S (.Subscript a (.Slice lo hi none p2) pos) (eOwnCut i U V) :=
  (pe_slice sl_list he hl hu).weak fun σ H Q ⟨A, ρ, z, R, hf, k⟩ => by
    obtain ⟨l, h2, hf⟩ := bind_some hf
    obtain ⟨u, h3, hf⟩ := bind_some hf
    obtain ⟨ds, g2, rfl⟩ := Option.map_eq_some_iff.mp hf
    obtain ⟨t, hi⟩ := ownAt_some g2
    obtain ⟨q, vs, e1, e0, e2, e3, e4, e5, e6⟩ := R.own i t ds hi
    refine ⟨_, e1, A, ρ, l, R, h2, fun H2 s2 => ⟨A, ρ, u, R.same s2, h3, fun H3 s3 => ⟨q, vs, rfl, SqL.of (s3 _ _ (s2 _ _ e4)), fun m hm => ?_⟩⟩⟩
    have s23 := s2.trans s3
    refine k _ _ (s23.trans (same_new hm)) (.lst (er_new hm (live_same s23 R.live)) ?_ (Nat.le_trans (cutD_len _ _ _) e6))
    unfold cutV cutD
    rw [e5.length]
    exact ((e5.drop _).take _).refl_same (s23.trans (same_new hm))
/-! ### .. changed -/
def sApp (i : Nat) (M : Rho → Option (Ent × Rho)) : SF := fun ρ => (ownAt i ρ).bind fun _ => (M ρ).bind fun q => match q.1, q.2[i]? with
  | .dat d, some (.own t ds) => if ds.length < lim then some (.next, q.2.set i (.own t (ds ++ [d]))) else none
  | _, _ => none
theorem pds_app {i : Nat} {apos cpos : Pos} (ho : PE X a (tVar i)) (he : PDM X S e M) (hbase : attributeBase a "append" X.env (eval a X.env) = eval a X.env := by rfl)
    (hfew : ((backTo cpos (starEach [e] X.env)).all (fun x => !x.1) && (backToKw cpos (keywordEach [] X.env)).all (fun x => x.1.isSome)
      && decide ([e].length + ([] : List Keyword).length + (if ([] : List Keyword).isEmpty then 0 else 1) < 30)) = true := by rfl)
    (hline : (apos.endLine == cpos.line) = true := by rfl) (hs : starEach [e] X.env = (false, eval e X.env) :: starEach [] X.env := by rfl) (hsw : swapsWith (.Call (.Attribute a "append" apos) [e] [] cpos) none pos.line X.env = pure false := by rfl) :
    PDS X S (.Expr (.Call (.Attribute a "append" apos) [e] [] cpos) pos) (sApp i M) :=
  (ps_expr (pe_bm PySem.F.plainAttrs_list PySem.F.slot_list_append PySem.F.type_list_append mt_append ho (pa_cons he pa_nil hs) hbase hfew hline hs (by rfl)) hsw).weak fun D σ H ⟨A, ρ, o, ρ', R, hf, k⟩ => by
    have ll := lim_line
    obtain ⟨ds0, g0, hf⟩ := bind_some hf
    obtain ⟨⟨en, ρ1⟩, g1, hf⟩ := bind_some hf
    split at hf
    · rename_i d t ds he1 he2
      simp only at he1 he2
      subst he1
      split at hf
      · rename_i hz
        cases hf
        -- the list stands there ahead of what is appended, too: its slot is the same
        have hx : ∃ l, σ[i]? = some (some (V.ref l)) ∧ ∃ vs, SqL X.K H l vs := by
          obtain ⟨t0, hi⟩ := ownAt_some g0
          obtain ⟨l, vs, e1, e0, e2, e3, e4, e5, e6⟩ := R.own i t0 ds0 hi
          exact ⟨l, e1, vs, SqL.of e4⟩
        obtain ⟨l0, x1, vs0, x2⟩ := hx
        refine ⟨_, x1, .inl ⟨rfl, vs0, x2⟩, A, ρ, _, ρ1, R, g1, fun A1 v H1 s1 R1 q1 => ?_⟩
        obtain ⟨l, vs, e1, e0, e2, e3, e4, e5, e6⟩ := R1.own i t ds he2
        rw [x1] at e1
        cases e1
        refine ⟨_, vs, v, rfl, rfl, e4, by rw [e5.length]; omega, ?_⟩
        exact k A1 σ _ (s1.trans (write_step e2 e3)) (R1.write he2 x1 e2 (e5.snoc q1) (by rw [List.length_append]; exact hz))
      · cases hf
    · cases hf

/-- x[e] = v -/
def sPut (i : Nat) (F : Rho → Option PyData) (M : Rho → Option (Ent × Rho)) : SF := fun ρ => (M ρ).bind fun q => match q.1, q.2[i]? with
  | .dat d, some (.own t ds) => (F q.2).bind fun k => match k with
    | .int k => (ixN ds.length k).map fun j => (.next, q.2.set i (.own t (ds.set j d)))
    | _ => none
  | _, _ => none
theorem pds_put {i : Nat} {tpos : Pos} (hv : PDM X S e M) (ho : PE X a (tVar i)) (hi : PDE X S b F)
    (ha : ∀ v, assign (.Subscript a b tpos) X.env v = (do
      let ov ← holding [v] (eval a X.env)
      let iv ← holding [v, ov] (eval b X.env)
      standAt tpos
      holding [v, ov, iv] (setItem ov iv v)
      release [v, ov, iv] []) := by intro _; rfl)
    (hs : swapsWithSole [.Subscript a b tpos] e pos.line X.env = pure false := by rfl) (hw : swappedStores [.Subscript a b tpos] e X.env = pure none := by rfl)
    (h1 : (assignEach [.Subscript a b tpos] X.env).map (·.2) = [assign (.Subscript a b tpos) X.env] := by rfl) : PDS X S (.Assign [.Subscript a b tpos] e pos) (sPut i F M) :=
  (ps_asg hv (pg_sub ho hi set_list ha) hs hw h1).weak fun D σ H ⟨A, ρ, o, ρ', R, hf, k⟩ => by
    obtain ⟨⟨en, ρ1⟩, g1, hf⟩ := bind_some hf
    split at hf
    · rename_i d t ds he1 he2
      simp only at he1 he2
      subst he1
      obtain ⟨x, g2, hf⟩ := bind_some hf
      split at hf
      · obtain ⟨j, g3, hf⟩ := Option.map_eq_some_iff.mp hf
        cases hf
        refine ⟨A, ρ, _, ρ1, R, g1, fun A1 v H1 s1 R1 q1 => ?_⟩
        obtain ⟨l, vs, e1, e0, e2, e3, e4, e5, e6⟩ := R1.own i t ds he2
        refine ⟨_, e1, A1, ρ1, _, R1, g2, fun w H2 s2 q2 => ?_⟩
        cases q2
        refine ⟨l, vs, _, j, rfl, rfl, s2 _ _ e4, by rw [e5.length]; exact g3, ?_⟩
        have R2 := R1.same s2
        exact k A1 σ _ ((s1.trans (.of_same s2)).trans (write_step e2 e3)) (R2.write he2 e1 e2 ((e5.refl_same s2).set j (Dq.refl_same q1 s2)) (by rw [List.length_set]; exact e6))
      · cases hf
    · cases hf

/-! ### for -/
/-- what is walked, with what it leaves of the environment -/
def VIM (K : PySem.W.Frag) (S : Amb) (I : Rho → Option (List PyData × Rho)) : TI := fun σ H R => ∃ (A : Addr → Prop) (ρ : Rho) (ds : List PyData) (ρ' : Rho), Rel K A S ρ σ H ∧ I ρ = some (ds, ρ') ∧ ∀ A' J H', SStep A S H A' H' → Rel K A' S ρ' σ H' → ds.length ≤ lim → Src K A' J ds H' → R J H'
abbrev PDIM (X : Cx) (S : Amb) (tg e : Expr) (I : Rho → Option (List PyData × Rho)) : Prop := PI X tg e (VIM X.K S I)
def mI (I : Rho → Option (List PyData)) : Rho → Option (List PyData × Rho) := fun ρ => (I ρ).map fun ds => (ds, ρ)
theorem pdim {I : Rho → Option (List PyData)} (h : PDI2 X S tg e I) : PDIM X S tg e (mI I) := h.weak fun σ H R ⟨A, ρ, ds, ρ', Re, hf, k⟩ => by
  obtain ⟨ds', g1, hf⟩ := Option.map_eq_some_iff.mp hf
  cases hf
  exact ⟨A, ρ, ds, Re, g1, fun J H' s hl src => k A J H' (.of_same s) (Re.same s) hl src⟩
def forGo (T : PyData → Rho → Option Rho) (B : SF) : List PyData → SF
  | [], ρ => some (.next, ρ)
  | d :: ds, ρ => (T d ρ).bind fun ρ1 => (B ρ1).bind fun q => match q.1 with
    | .next => forGo T B ds q.2
    | .cont => forGo T B ds q.2
    | .brk => some (.next, q.2)
    | .ret d => some (.ret d, q.2)
def sFor (I : Rho → Option (List PyData × Rho)) (T : PyData → Rho → Option Rho) (B : SF) : SF := fun ρ => (I ρ).bind fun q => forGo T B q.1 q.2
theorem pds_for {I : Rho → Option (List PyData × Rho)} {T : PyData → Rho → Option Rho} {ts : List Nat} {iter : Expr} {body : List Stmt} (hp : PassesOwn (model X.prog X.w) X.A X.env X.xe) (hc : X.calm = true) (hi : PDIM X S tg iter I) (hg : PDG X S tg ts T) (hb : PDSs X S body B)
    (hs : ∀ x, foldedSetIterable iter X.env x = pure x := by intro _; rfl) : PDS X S (.For tg iter body [] pos) (sFor I T B) := (ps_for hp hc hi hg hb hs).weak fun D σ H ⟨A, ρ, o, ρ', R, hf, k⟩ => by
  obtain ⟨⟨ds, ρ1⟩, g1, hf⟩ := bind_some hf
  refine ⟨A, ρ, ds, ρ1, R, g1, fun A1 J H1 s1 R1 hl src => ?_⟩
  have k1 := k.before s1
  refine ⟨fun i m σ2 H2 => m = ds.length - i ∧ i ≤ ds.length ∧ ∃ A2 ρ2, SStep A1 S H1 A2 H2 ∧ Rel X.K A2 S ρ2 σ2 H2 ∧ forGo T B (ds.drop i) ρ2 = some (o, ρ'), ⟨ds.length, by simp, Nat.zero_le _, A1, ρ1, .refl, R1, hf⟩, ?_⟩
  rintro i m σ2 H2 ⟨rfl, hi, A2, ρ2, s2, R2, hgo⟩
  obtain ⟨sgo, sstop⟩ := src A2 H2 (s2.er R1.sub) R2.live
  have k2 := k1.before s2
  by_cases hlt : i < ds.length
  · obtain ⟨d, hd⟩ : ∃ d, ds[i]? = some d := ⟨ds[i], by simp [hlt]⟩
    obtain ⟨q1, q2⟩ := sgo i d hd
    rw [drop_get hd] at hgo
    unfold forGo at hgo
    obtain ⟨ρ3, hT, hgo⟩ := bind_some hgo
    obtain ⟨⟨o4, ρ4⟩, hB, hgo⟩ := bind_some hgo
    refine .inr ⟨q1, fun σ' H' => i + 1 ≤ ds.length ∧ ∃ A2 ρ2, SStep A1 S H1 A2 H' ∧ Rel X.K A2 S ρ2 σ' H' ∧ forGo T B (ds.drop (i + 1)) ρ2 = some (o, ρ'), fun σ' H' p => ⟨ds.length - (i + 1), by omega, rfl, p⟩, fun x H3 hy => ?_⟩
    obtain ⟨s3, qx⟩ := q2 x H3 hy
    refine ⟨A2, ρ2, ρ3, d, R2.same s3, qx, hT, fun σ3 R3 _ _ => ⟨A2, ρ3, o4, ρ4, R3, hB, ?_⟩⟩
    have s23 : SStep A1 S H1 A2 H3 := s2.trans (.of_same s3)
    cases o4 with
    | next => exact fun A5 σ5 H5 s5 R5 => ⟨hlt, A5, ρ4, s23.trans s5, R5, hgo⟩
    | cont => exact fun A5 σ5 H5 s5 R5 => ⟨hlt, A5, ρ4, s23.trans s5, R5, hgo⟩
    | brk =>
      cases hgo
      exact fun A5 σ5 H5 s5 R5 => k2 A5 σ5 H5 ((SStep.of_same s3).trans s5) R5
    | ret d =>
      cases hgo
      exact fun A5 σ5 v H5 s5 R5 q5 => k2 A5 σ5 v H5 ((SStep.of_same s3).trans s5) R5 q5
  · have e : i = ds.length := by omega
    subst e
    rw [List.drop_length] at hgo
    cases hgo
    exact .inl ⟨sstop, k2 A2 σ2 H2 .refl R2⟩

/-! ### while -/
def sWhile (T : Rho → Option Bool) (B : SF) : Nat → SF
  | 0, _ => none
  | n + 1, ρ => (T ρ).bind fun t => if t = true then (B ρ).bind fun q => match q.1 with
    | .next => sWhile T B n q.2
    | .cont => sWhile T B n q.2
    | .brk => some (.next, q.2)
    | .ret d => some (.ret d, q.2) else some (.next, ρ)
theorem pds_while {T : Rho → Option Bool} {n : Nat} {body : List Stmt} (hp : PassesOwn (model X.prog X.w) X.A X.env X.xe) (hc : PDT X S c T) (hb : PDSs X S body B) : PDS X S (.While c body [] pos) (sWhile T B n) := (ps_while hp hc hb).weak fun D σ H ⟨A, ρ, o, ρ', R, hf, k⟩ => by
  refine ⟨fun m σ2 H2 => ∃ A2 ρ2, SStep A S H A2 H2 ∧ Rel X.K A2 S ρ2 σ2 H2 ∧ sWhile T B m ρ2 = some (o, ρ'), ⟨n, A, ρ, .refl, R, hf⟩, ?_⟩
  rintro m σ2 H2 ⟨A2, ρ2, s2, R2, hgo⟩
  have k2 := k.before s2
  cases m with
  | zero => cases hgo
  | succ m =>
    unfold sWhile at hgo
    obtain ⟨t, hT, hgo⟩ := bind_some hgo
    refine ⟨A2, ρ2, t, R2, hT, fun H3 s3 => ?_⟩
    cases t with
    | true =>
      rw [if_pos rfl] at hgo
      refine iteT ?_
      obtain ⟨⟨o4, ρ4⟩, hB, hgo⟩ := bind_some hgo
      refine ⟨fun σ' H' => ∃ A2 ρ2, SStep A S H A2 H' ∧ Rel X.K A2 S ρ2 σ' H' ∧ sWhile T B m ρ2 = some (o, ρ'), fun σ' H' p => ⟨m, Nat.lt_succ_self m, p⟩, A2, ρ2, o4, ρ4, R2.same s3, hB, ?_⟩
      have s23 : SStep A S H A2 H3 := s2.trans (.of_same s3)
      cases o4 with
      | next => exact fun A5 σ5 H5 s5 R5 => ⟨A5, ρ4, s23.trans s5, R5, hgo⟩
      | cont => exact fun A5 σ5 H5 s5 R5 => ⟨A5, ρ4, s23.trans s5, R5, hgo⟩
      | brk =>
        cases hgo
        exact fun A5 σ5 H5 s5 R5 => k2 A5 σ5 H5 ((SStep.of_same s3).trans s5) R5
      | ret d =>
        cases hgo
        exact fun A5 σ5 v H5 s5 R5 q5 => k2 A5 σ5 v H5 ((SStep.of_same s3).trans s5) R5 q5
    | false =>
      rw [if_neg Bool.false_ne_true] at hgo
      cases hgo
      exact iteF (k2 A2 σ2 H3 (.of_same s3) (R2.same s3))

/-! ### a def -/
def start0 (N : Nat) (ds : List PyData) : Rho := ds.map .dat ++ List.replicate (N - ds.length) .unk
/-- what a def hands back -/
def runP (N n : Nat) (F : SF) : List PyData → Option PyData := fun ds => (F (start0 N ds)).bind fun q => match q.1 with
  | .ret d => some d
  | .next => some .none
  | _ => none
theorem rel_start {vs : List V} {ds : List PyData} {N : List Str} (hl : ds.length ≤ N.length) (hq : DqAll K (er A H) vs ds) (lv : ∀ a, A a → H a ≠ none) : Rel K A ⟨A, none⟩ (start0 N.length ds) (L2.start N vs) H := by
  have e := hq.length
  have own0 : ∀ (i : Nat) (en : Ent), (start0 N.length ds)[i]? = some en → en = .unk ∨ ∃ d, ds[i]? = some d ∧ en = .dat d := fun i en h => by
    unfold start0 at h
    by_cases hi : i < (ds.map Ent.dat).length
    · rw [List.getElem?_append_left hi, List.getElem?_map] at h
      obtain ⟨d, h1, rfl⟩ := Option.map_eq_some_iff.mp h
      exact .inr ⟨d, h1, rfl⟩
    · rw [List.getElem?_append_right (by omega), List.getElem?_replicate] at h
      split at h
      · cases h; exact .inl rfl
      · cases h
  refine ⟨?_, fun i d h => ?_, fun i t es h => ?_, fun i j t u es fs l h => ?_, fun a h => h, lv⟩
  · simp only [start0, L2.start, List.length_append, List.length_map, List.length_replicate]
    rw [e]
  · rcases own0 i _ h with q | ⟨d', h1, q⟩
    · cases q
    · cases q
      obtain ⟨v, h2, h3⟩ := hq.get h1
      refine ⟨v, ?_, h3⟩
      unfold L2.start
      have := getElem_len h2
      rw [List.getElem?_append_left (by simpa using this), List.getElem?_map, h2]
      rfl
  · rcases own0 i _ h with q | ⟨d', h1, q⟩ <;> cases q
  · rcases own0 i _ h with q | ⟨d', h1, q⟩ <;> cases q
section
variable {P : Program} {w : World} {mg : Str → Option Value} {base : Heap} {x qual : Str} {params : Arguments} {body : List Stmt} {scope : Scope} {kws : List (Str × V)} {f : Addr} {fd : FuncData} {Ns ps : List Str} {k n : Nat}
theorem fn_p {CX : CXT} (Fd : FunD K x qual params body scope [] kws f fd) (sc : FnScope Ns ps scope) (hps : ps.length = n) (hn : n ≤ Ns.length)
    (hb : ∀ (cdv : Value) (A : Around) (outer : List PySem.Env) (s : Shared) (H : Hp) (E : XK) (S : Amb), Room k (A.deeper (envOfC qual scope s.heap.objs.size f cdv)) → PDSs (cxOf CX P w K mg base Ns qual scope f cdv A outer s H E).nox S body B) :
    FnOk P w K mg base CX (k + 1) f fd ps (spP K n (runP Ns.length n B)) := by
  refine Fd.ok sc (fun vs H Q E h => ?_) (fun cdv A outer s H vs Q E hr h => ?_)
  · obtain ⟨A, ds, z, hl, hq, _⟩ := h
    rw [hq.length, hl, hps]
  · obtain ⟨Ad, ds, z, hl, hq, lv, hm, kk⟩ := h
    refine ⟨_, PSs.nox (hb cdv A outer s H E ⟨Ad, none⟩ hr), ?_⟩
    obtain ⟨⟨o, ρ'⟩, g1, hm⟩ := bind_some hm
    refine ⟨Ad, _, o, ρ', rel_start (by omega) hq lv, g1, ?_⟩
    have fin : ∀ (A' : Addr → Prop) (H' : Hp) (σ' : L2.St), SStep Ad ⟨Ad, none⟩ H A' H' → Rel K A' ⟨Ad, none⟩ ρ' σ' H' → ∀ v, Dq K (er A' H') v z → Q v H' := fun A' H' σ' s' R' v q => kk v H' (fun a o e => (s' a o e fun z => z).1) (q.mono (er_sub R'.sub))
    cases o with
    | next =>
      cases hm
      exact fun A' σ' H' s' R' => fin A' H' σ' s' R' .non .non
    | ret d =>
      cases hm
      exact fun A' σ' v H' s' R' q => fin A' H' σ' s' R' v q
    | brk => cases hm
    | cont => cases hm
end
end
end PD
end

section
set_option Elab.async false
set_option linter.all false
set_option maxRecDepth 100000
set_option maxHeartbeats 3200000
/-! # PD 11: what draws: expressions that change a list of one's own -/
namespace PD
open PySem PySem.Spec PyProof.Rows L2
section
variable {X : Cx} {S : Amb} {K : PySem.W.Frag} {A A' : Addr → Prop} {H H' : Hp} {e a b c tg : Expr} {es : List Expr} {pos p : Pos} {F G : Rho → Option PyData} {L : Rho → Option (List PyData)} {M N : Rho → Option (Ent × Rho)} {st : Stmt} {sts : List Stmt} {B C : SF}

def VAM (K : PySem.W.Frag) (S : Amb) (F : Rho → Option (List PyData × Rho)) : TA := fun σ H Q => ∃ (A : Addr → Prop) (ρ : Rho) (ds : List PyData) (ρ' : Rho), Rel K A S ρ σ H ∧ F ρ = some (ds, ρ') ∧ ∀ A' vs H', SStep A S H A' H' → Rel K A' S ρ' σ H' → DqAll K (er A' H') vs ds → Q vs H'
abbrev PDAM (X : Cx) (S : Amb) (es : List Expr) (F : Rho → Option (List PyData × Rho)) : Prop := PA X es (VAM X.K S F)
variable {LM : Rho → Option (List PyData × Rho)}
def mNil : Rho → Option (List PyData × Rho) := fun ρ => some ([], ρ)
def mCons (M : Rho → Option (Ent × Rho)) (L : Rho → Option (List PyData × Rho)) : Rho → Option (List PyData × Rho) := fun ρ => (M ρ).bind fun q => match q.1 with
  | .dat d => (L q.2).map fun r => (d :: r.1, r.2)
  | _ => none
theorem pam_nil : PDAM X S [] mNil := pa_nil.weak fun σ H Q ⟨A, ρ, z, ρ', R, hf, k⟩ => by
  cases hf
  exact k A [] H .refl R .nil
theorem pam_cons (ha : PDM X S e M) (hr : PDAM X S es LM) (hs : starEach (e :: es) X.env = (false, eval e X.env) :: starEach es X.env := by rfl) : PDAM X S (e :: es) (mCons M LM) := (pa_cons ha hr hs).weak fun σ H Q ⟨A, ρ, z, ρ', R, hf, k⟩ => by
  obtain ⟨⟨en, ρ1⟩, g1, hf⟩ := bind_some hf
  cases en with
  | unk => cases hf
  | own t ds => cases hf
  | dat d =>
    obtain ⟨⟨ds, ρ2⟩, g2, hf⟩ := Option.map_eq_some_iff.mp hf
    cases hf
    exact ⟨A, ρ, _, ρ1, R, g1, fun A1 v H1 s1 R1 q1 => ⟨A1, ρ1, _, _, R1, g2, fun A2 vs H2 s2 R2 q2 => k A2 _ H2 (s1.trans s2) R2 (.cons (Dq.mono (s2.er R1.sub) q1) q2)⟩⟩
def mA (L : Rho → Option (List PyData)) : Rho → Option (List PyData × Rho) := fun ρ => (L ρ).map fun ds => (ds, ρ)
theorem pam_of (h : PDA X S es L) : PDAM X S es (mA L) := h.weak fun σ H Q ⟨A, ρ, z, ρ', R, hf, k⟩ => by
  obtain ⟨ds, g1, hf⟩ := Option.map_eq_some_iff.mp hf
  cases hf
  exact ⟨A, ρ, _, R, g1, fun vs H' s q => k A vs H' (.of_same s) (R.same s) q⟩
/-- two operands -/
def mBin (f : PyData → PyData → Option PyData) (M N : Rho → Option (Ent × Rho)) : Rho → Option (Ent × Rho) := fun ρ => (M ρ).bind fun q => match q.1 with
  | .dat d => (N q.2).bind fun r => match r.1 with
    | .dat e => (f d e).map fun z => (.dat z, r.2)
    | _ => none
  | _ => none
theorem vm_bin {r : R2} {f : PyData → PyData → Option PyData} (hr : RD K r f) {σ : L2.St} {Q : VK} (h : VM K S (mBin f M N) σ H Q) : tOp r (VM K S M) (VM K S N) σ H Q := by
  obtain ⟨A, ρ, en, ρ', R, hf, k⟩ := h
  obtain ⟨⟨en1, ρ1⟩, g1, hf⟩ := bind_some hf
  cases en1 with
  | unk => cases hf
  | own t ds => cases hf
  | dat d =>
    obtain ⟨⟨en2, ρ2⟩, g2, hf⟩ := bind_some hf
    cases en2 with
    | unk => cases hf
    | own t ds => cases hf
    | dat e =>
      obtain ⟨z, g3, hf⟩ := Option.map_eq_some_iff.mp hf
      cases hf
      refine ⟨A, ρ, _, ρ1, R, g1, fun A1 v H1 s1 R1 q1 => ⟨A1, ρ1, _, _, R1, g2, fun A2 w H2 s2 R2 q2 => ?_⟩⟩
      exact hr A2 H2 v w d e z R2.live (Dq.mono (s2.er R1.sub) q1) q2 g3 Q fun u H3 s3 q3 => k A2 u H3 ((s1.trans s2).trans (.of_same s3)) (R2.same s3) q3
theorem pm_bin {op : Operator} {r : R2} {f : PyData → PyData → Option PyData} (ho : OpR X (binaryOp op) r) (hr : RD X.K r f) (ha : PDM X S a M) (hb : PDM X S b N) : PDM X S (.BinOp a op b pos) (mBin f M N) := (pe_op ho ha hb).weak fun _ _ _ h => vm_bin hr h
theorem pm_add (ha : PDM X S a M) (hb : PDM X S b N) : PDM X S (.BinOp a .Add b pos) (mBin dAdd M N) := pm_bin op_addD rd_addD ha hb
theorem pm_ix (ha : PDM X S a M) (hb : PDM X S b N) (hs : PlainIx b) : PDM X S (.Subscript a b pos) (mBin dIx M N) := (pe_ix ix_seq ha hb hs).weak fun _ _ _ h => vm_bin rd_ix h
/-- displays -/
def mLst (L : Rho → Option (List PyData × Rho)) : Rho → Option (Ent × Rho) := fun ρ => (L ρ).bind fun q => if q.1.length ≤ lim then some (.dat (.list q.1), q.2) else none
def mTup (L : Rho → Option (List PyData × Rho)) : Rho → Option (Ent × Rho) := fun ρ => (L ρ).bind fun q => if q.1.length ≤ lim then some (.dat (.tuple q.1), q.2) else none
theorem pm_lst (h : PDAM X S es LM) : PDM X S (.List es pos) (mLst LM) := (pe_lst h).weak fun σ H Q ⟨A, ρ, z, ρ', R, hf, k⟩ => by
  have ll := lim_line
  obtain ⟨⟨ds, ρ1⟩, h1, hf⟩ := bind_some hf
  split at hf
  · rename_i hz
    cases hf
    refine ⟨A, ρ, ds, _, R, h1, fun A1 vs H1 s1 R1 q1 => ⟨by rw [q1.length]; exact Nat.le_trans hz (Nat.le_of_lt ll), fun p hp => ?_⟩⟩
    exact k A1 _ _ (s1.trans (.of_same (same_new hp))) (R1.same (same_new hp)) (.lst (er_new hp R1.live) (q1.refl_same (same_new hp)) hz)
  · cases hf
theorem pm_tup {x1} (h : PDAM X S es LM) : PDM X S (.Tuple es x1 pos) (mTup LM) := (pe_tup h).weak fun σ H Q ⟨A, ρ, z, ρ', R, hf, k⟩ => by
  have ll := lim_line
  obtain ⟨⟨ds, ρ1⟩, h1, hf⟩ := bind_some hf
  split at hf
  · rename_i hz
    cases hf
    refine ⟨A, ρ, ds, _, R, h1, fun A1 vs H1 s1 R1 q1 => ⟨by rw [q1.length]; exact Nat.le_trans hz (Nat.le_of_lt ll), fun p hp => ?_⟩⟩
    exact k A1 _ _ (s1.trans (.of_same (same_new hp))) (R1.same (same_new hp)) (.tup (SqT.of (er_new hp R1.live)) (q1.refl_same (same_new hp)) hz)
  · cases hf
/-- a function that draws nothing, its arguments do -/
def mFn (n : Nat) (m : List PyData → Option PyData) (L : Rho → Option (List PyData × Rho)) : Rho → Option (Ent × Rho) := fun ρ => (L ρ).bind fun q => if q.1.length = n then (m q.1).map fun d => (.dat d, q.2) else none
section
variable {CX : CXT} {k : Nat} {f : Addr} {fd : FuncData} {ps : List Str} {E : XK} {n : Nat} {m : List PyData → Option PyData}
theorem pm_fn {x : Str} (Fk : FnOk X.prog X.w X.K X.mg X.base CX k f fd ps (spP X.K n m)) (hr : Room k X.A) (hg : Gl X x) (hm : X.mg x = some (.ref f)) (hk : PySem.W.keepIn X.K (.ref f) = true) (hb : Binds X.K fd ps []) (hx : Passes CX X E)
    (ha : PDAM X S (e :: es) LM) (hdb : (x == ("__debug__" : Str)) = false := by decide) (he : starEach (e :: es) X.env = (false, eval e X.env) :: starEach es X.env := by rfl) (hpl : (backTo pos (starEach es X.env)).any (·.1) = false := by rfl) :
    PDM X S (.Call (.Name x p) (e :: es) [] pos) (mFn n m LM) := (pe_call (dvs := []) (E := E) Fk hr hg hm hk hb .nil hx ha hdb he hpl).weak fun σ H Q ⟨A, ρ, z, ρ', R, hf, k⟩ => by
  obtain ⟨⟨ds, ρ1⟩, h1, hf⟩ := bind_some hf
  split at hf
  · rename_i hn
    obtain ⟨d, h2, hf⟩ := Option.map_eq_some_iff.mp hf
    cases hf
    refine ⟨A, ρ, ds, _, R, h1, fun A1 vs H1 s1 R1 q1 => ?_⟩
    show spP X.K n m (vs ++ []) H1 Q E
    rw [List.append_nil]
    exact ⟨A1, ds, d, hn, q1, R1.live, h2, fun v H2 s2 q2 => k A1 v H2 (s1.trans (.of_same s2)) (R1.same s2) q2⟩
  · cases hf
end
/-! ### functions that draw -/
def spG (K : PySem.W.Frag) (n : Nat) (m : List PyData → List PyData → Option (PyData × List PyData)) : Sp := fun vs H Q _ => ∃ (A : Addr → Prop) (g : Addr) (gv ws : List V) (γ ds : List PyData) (z : PyData) (γ' : List PyData), vs = .ref g :: ws ∧ ds.length = n ∧
  A g ∧ H g = some (.lst gv) ∧ DqAll K (er A H) gv γ ∧ γ.length ≤ lim ∧ DqAll K (er A H) ws ds ∧ (∀ a, A a → H a ≠ none) ∧ m γ ds = some (z, γ') ∧
  ∀ v H' gv', (∀ a o, H a = some o → a ≠ g → H' a = some o) → H' g = some (.lst gv') → DqAll K (er A H') gv' γ' → γ'.length ≤ lim → Dq K (er A H') v z → Q v H'
/-- f(generator, ..), the generator in slot i -/
def mGen (i n : Nat) (m : List PyData → List PyData → Option (PyData × List PyData)) (L : Rho → Option (List PyData × Rho)) : Rho → Option (Ent × Rho) := fun ρ => (ownAt i ρ).bind fun _ => (L ρ).bind fun q => match q.2[i]? with
  | some (.own t γ) => if q.1.length = n then (m γ q.1).map fun r => (.dat r.1, q.2.set i (.own t r.2)) else none
  | _ => none
/-- a list of one's own was changed by another -/
theorem Rel.changed {ρ : Rho} {σ : L2.St} (r : Rel K A S ρ σ H) {i : Nat} {t : Bool} {ds es : List PyData} {l : Addr} {ws : List V} (h1 : ρ[i]? = some (.own t ds)) (h2 : σ[i]? = some (some (.ref l))) (hA : A l) (keep : ∀ a o, H a = some o → a ≠ l → H' a = some o) (hl' : H' l = some (.lst ws)) (hq : DqAll K (er A H') ws es) (hz : es.length ≤ lim) :
    Rel K A S (ρ.set i (.own t es)) σ H' := by
  have hl : i < ρ.length := getElem_len h1
  have old : ∀ (m : Nat) (e : Ent), m ≠ i → (ρ.set i (.own t es))[m]? = some e → ρ[m]? = some e := fun m e hm q => by rwa [List.getElem?_set_ne (Ne.symm hm)] at q
  have self : ∀ (e : Ent), (ρ.set i (.own t es))[i]? = some e → e = .own t es := fun e q => by
    rw [List.getElem?_set_self hl] at q
    cases q; rfl
  have u : Same (er A H) (er A H') := fun a o q => by
    obtain ⟨q1, q2⟩ := er_some.mp q
    exact er_some.mpr ⟨q1, keep a o q2 fun z => q1 (z ▸ hA)⟩
  obtain ⟨l', vs', g1, g0, g2, g3, g4, g5, g6⟩ := r.own i t ds h1
  rw [h2] at g1
  cases g1
  refine ⟨by simp [r.len], fun j d q => ?_, fun j v fs q => ?_, fun j k v w fs gs m q1 q2 q3 q4 => ?_, r.sub, fun a ha => ?_⟩
  · by_cases hj : j = i
    · subst hj; cases self _ q
    · obtain ⟨x, e1, e2⟩ := r.dat j d (old j _ hj q)
      exact ⟨x, e1, e2.mono u⟩
  · by_cases hj : j = i
    · subst hj
      cases self _ q
      exact ⟨l, ws, h2, g0, g2, g3, hl', hq, hz⟩
    · obtain ⟨l2, vs2, e1, e0, e2, e3, e4, e5, e6⟩ := r.own j v fs (old j _ hj q)
      exact ⟨l2, vs2, e1, e0, e2, e3, keep _ _ e4 (fun z => hj (r.inj j i v t fs ds l (old j _ hj q) h1 (z ▸ e1) h2)), e5.mono u, e6⟩
  · have back : ∀ (m : Nat) (x : Bool) (gs : List PyData), (ρ.set i (.own t es))[m]? = some (.own x gs) → ∃ x' gs', ρ[m]? = some (.own x' gs') := fun m x gs q => by
      by_cases hm : m = i
      · subst hm; exact ⟨t, ds, h1⟩
      · exact ⟨x, gs, old m _ hm q⟩
    obtain ⟨_, _, b1⟩ := back j v fs q1
    obtain ⟨_, _, b2⟩ := back k w gs q2
    exact r.inj j k _ _ _ _ m b1 b2 q3 q4
  · by_cases e : a = l
    · subst e; rw [hl']; exact fun z => nomatch z
    · cases q : H a with
      | none => exact absurd q (r.live a ha)
      | some o => rw [keep a o q e]; exact fun z => nomatch z
section
variable {CX : CXT} {k : Nat} {f : Addr} {fd : FuncData} {ps : List Str} {E : XK} {n : Nat} {m : List PyData → List PyData → Option (PyData × List PyData)}
theorem vm_gen {i : Nat} {σ : L2.St} {Q : VK} (h : VM K S (mGen i n m LM) σ H Q) : tCall (spG K n m) [] E (tCons (tVar i) (VAM K S LM)) σ H Q := by
  obtain ⟨A, ρ, z, ρ', R, hf, k⟩ := h
  obtain ⟨γ0, h0, hf⟩ := bind_some hf
  obtain ⟨⟨ds, ρ1⟩, h1, hf⟩ := bind_some hf
  obtain ⟨t0, hi0⟩ := ownAt_some h0
  obtain ⟨l0, vs0, x1, x0, x2, x3, x4, x5, x6⟩ := R.own i t0 γ0 hi0
  split at hf
  · rename_i t γ hi
    split at hf
    · rename_i hn
      obtain ⟨⟨d, γ'⟩, h2, hf⟩ := Option.map_eq_some_iff.mp hf
      cases hf
      refine ⟨_, x1, A, ρ, ds, ρ1, R, h1, fun A1 ws H1 s1 R1 q1 => ?_⟩
      obtain ⟨l, vs, e1, e0, e2, e3, e4, e5, e6⟩ := R1.own i t γ hi
      rw [x1] at e1
      cases e1
      show spG K n m ((V.ref l0 :: ws) ++ []) H1 Q E
      rw [List.append_nil]
      refine ⟨A1, l0, vs, ws, γ, ds, d, γ', rfl, hn, e2, e4, e5, e6, q1, R1.live, h2, fun v H2 gv' keep hg hq hz qv => ?_⟩
      refine k A1 v H2 (s1.trans fun a o g1 g2 => ⟨keep a o g1 (fun z => e3 (z ▸ g2 (z ▸ e2))), g2⟩) (R1.changed hi x1 e2 keep hg hq hz) qv
    · cases hf
  · cases hf
theorem pm_gen {x : Str} {i : Nat} (Fk : FnOk X.prog X.w X.K X.mg X.base CX k f fd ps (spG X.K n m)) (hr : Room k X.A) (hg : Gl X x) (hm : X.mg x = some (.ref f)) (hk : PySem.W.keepIn X.K (.ref f) = true) (hb : Binds X.K fd ps []) (hx : Passes CX X E)
    (h0 : PE X e (tVar i)) (ha : PDAM X S es LM) (hdb : (x == ("__debug__" : Str)) = false := by decide) (he : starEach (e :: es) X.env = (false, eval e X.env) :: starEach es X.env := by rfl) (hpl : (backTo pos (starEach es X.env)).any (·.1) = false := by rfl) :
    PDM X S (.Call (.Name x p) (e :: es) [] pos) (mGen i n m LM) := (pe_call (dvs := []) (E := E) Fk hr hg hm hk hb .nil hx (pa_cons h0 ha he) hdb he hpl).weak fun σ H Q h => vm_gen h
end
/-- a def that draws -/
def startG (N : Nat) (γ ds : List PyData) : Rho := .own true γ :: (ds.map .dat ++ List.replicate (N - (ds.length + 1)) .unk)
def runG (N n : Nat) (F : SF) : List PyData → List PyData → Option (PyData × List PyData) := fun γ ds => (F (startG N γ ds)).bind fun (q : Out × Rho) => match q.2[0]? with
  | some (Ent.own true γ') => (match q.1 with
    | .ret d => some (d, γ')
    | .next => some (.none, γ')
    | _ => none)
  | _ => none
theorem rel_startG {g : Addr} {gv ws : List V} {γ ds : List PyData} {N : List Str} (hl : ds.length + 1 ≤ N.length) (hA : A g) (hH : H g = some (.lst gv)) (hg : DqAll K (er A H) gv γ) (hz : γ.length ≤ lim) (hq : DqAll K (er A H) ws ds) (lv : ∀ a, A a → H a ≠ none) :
    Rel K A ⟨fun a => A a ∧ a ≠ g, some g⟩ (startG N.length γ ds) (L2.start N (.ref g :: ws)) H := by
  have e := hq.length
  have own0 : ∀ (i : Nat) (en : Ent), (startG N.length γ ds)[i]? = some en → (i = 0 ∧ en = .own true γ) ∨ en = .unk ∨ ∃ j d, i = j + 1 ∧ ds[j]? = some d ∧ en = .dat d := fun i en h => by
    unfold startG at h
    cases i with
    | zero => exact .inl ⟨rfl, by simpa using h.symm⟩
    | succ i =>
      rw [List.getElem?_cons_succ] at h
      by_cases hi : i < (ds.map Ent.dat).length
      · rw [List.getElem?_append_left hi, List.getElem?_map] at h
        obtain ⟨d, h1, rfl⟩ := Option.map_eq_some_iff.mp h
        exact .inr (.inr ⟨i, d, rfl, h1, rfl⟩)
      · rw [List.getElem?_append_right (by omega), List.getElem?_replicate] at h
        split at h
        · cases h; exact .inr (.inl rfl)
        · cases h
  have st0 : (L2.start N (.ref g :: ws))[0]? = some (some (V.ref g)) := rfl
  refine ⟨?_, fun i d h => ?_, fun i t es h => ?_, fun i j t u es fs l h h' _ _ => ?_, fun a h => h.1, lv⟩
  · simp only [startG, L2.start, List.length_append, List.length_map, List.length_replicate, List.length_cons, e]
    omega
  · rcases own0 i _ h with ⟨_, q⟩ | q | ⟨j, d', rfl, h1, q⟩
    · cases q
    · cases q
    · cases q
      obtain ⟨v, h2, h3⟩ := hq.get h1
      refine ⟨v, ?_, h3⟩
      unfold L2.start
      have := getElem_len h2
      rw [List.getElem?_append_left (by simpa using this), List.getElem?_map, List.getElem?_cons_succ, h2]
      rfl
  · rcases own0 i _ h with ⟨rfl, q⟩ | q | ⟨j, d', rfl, h1, q⟩
    · cases q
      exact ⟨g, gv, st0, fun _ => rfl, hA, fun z => z.2 rfl, hH, hg, hz⟩
    · cases q
    · cases q
  · rcases own0 i _ h with ⟨rfl, q⟩ | q | ⟨_, _, _, _, q⟩
    · rcases own0 j _ h' with ⟨rfl, q'⟩ | q' | ⟨_, _, _, _, q'⟩
      · rfl
      · cases q'
      · cases q'
    · cases q
    · cases q
section
variable {P : Program} {w : World} {mg : Str → Option Value} {base : Heap} {x qual : Str} {params : Arguments} {body : List Stmt} {scope : Scope} {kws : List (Str × V)} {f : Addr} {fd : FuncData} {Ns ps : List Str} {k n : Nat}
theorem fn_g {CX : CXT} (Fd : FunD K x qual params body scope [] kws f fd) (sc : FnScope Ns ps scope) (hps : ps.length = n + 1) (hn : n + 1 ≤ Ns.length)
    (hb : ∀ (cdv : Value) (A : Around) (outer : List PySem.Env) (s : Shared) (H : Hp) (E : XK) (S : Amb), Room k (A.deeper (envOfC qual scope s.heap.objs.size f cdv)) → PDSs (cxOf CX P w K mg base Ns qual scope f cdv A outer s H E).nox S body B) :
    FnOk P w K mg base CX (k + 1) f fd ps (spG K n (runG Ns.length n B)) := by
  refine Fd.ok sc (fun vs H Q E h => ?_) (fun cdv A outer s H vs Q E hr h => ?_)
  · obtain ⟨A, g, gv, ws, γ, ds, z, γ', rfl, hl, _, _, _, _, hq, _⟩ := h
    rw [List.length_cons, hq.length, hl, hps]
  · obtain ⟨Ad, g, gv, ws, γ, ds, z, γ', rfl, hl, hA, hH, hg, hz, hq, lv, hm, kk⟩ := h
    refine ⟨_, PSs.nox (hb cdv A outer s H E ⟨fun a => Ad a ∧ a ≠ g, some g⟩ hr), ?_⟩
    obtain ⟨⟨o, ρ'⟩, g1, hm⟩ := bind_some hm
    refine ⟨Ad, _, o, ρ', rel_startG (by omega) hA hH hg hz hq lv, g1, ?_⟩
    split at hm
    · rename_i γ2 hi
      have fin : ∀ (A' : Addr → Prop) (H' : Hp) (σ' : L2.St), SStep Ad ⟨fun a => Ad a ∧ a ≠ g, some g⟩ H A' H' → Rel K A' ⟨fun a => Ad a ∧ a ≠ g, some g⟩ ρ' σ' H' → ∀ v, γ2 = γ' → Dq K (er A' H') v z → Q v H' := fun A' H' σ' s' R' v e q => by
        subst e
        obtain ⟨l, vs, e1, e0, e2, e3, e4, e5, e6⟩ := R'.own 0 true _ hi
        have el := e0 rfl
        cases el
        have sub : ∀ a, Ad a → A' a := fun a ha => by
          by_cases hag : a = g
          · rw [hag]; exact e2
          · exact R'.sub a ⟨ha, hag⟩
        exact kk v H' vs (fun a o e ne => (s' a o e fun z => ⟨z, ne⟩).1) e4 (e5.mono (er_sub sub)) e6 (q.mono (er_sub sub))
      simp only at hm
      cases o with
      | next =>
        cases hm
        exact fun A' σ' H' s' R' => fin A' H' σ' s' R' .non rfl .non
      | ret d =>
        cases hm
        exact fun A' σ' v H' s' R' q => fin A' H' σ' s' R' v rfl q
      | brk => cases hm
      | cont => cases hm
    · cases hm
end

/-! ### a list made while drawing -/
/-- the slots vs as they were -/
def backR (ρ ρ' : Rho) : List Nat → Rho
  | [] => ρ'
  | v :: vs => (backR ρ ρ' vs).set v (ρ.getD v .unk)
def isOwn : Ent → Bool
  | .own _ _ => true
  | _ => false
def vsOk (ρ : Rho) (vs : List Nat) : Bool := vs.all fun v => !isOwn (ρ.getD v .unk)
theorem backR_len (ρ ρ' : Rho) : ∀ vs, (backR ρ ρ' vs).length = ρ'.length
  | [] => rfl
  | v :: vs => by unfold backR; rw [List.length_set, backR_len ρ ρ' vs]
theorem backR_get (ρ ρ' : Rho) (i : Nat) : ∀ vs : List Nat, (backR ρ ρ' vs)[i]? = if i ∈ vs ∧ i < ρ'.length then some (ρ.getD i .unk) else ρ'[i]?
  | [] => by simp [backR]
  | v :: vs => by
    have ih := backR_get ρ ρ' i vs
    unfold backR
    by_cases hv : v = i
    · subst hv
      by_cases hl : v < ρ'.length
      · rw [List.getElem?_set_self (by rw [backR_len]; exact hl), if_pos ⟨List.mem_cons_self, hl⟩]
      · rw [List.getElem?_eq_none (by rw [List.length_set, backR_len]; omega), if_neg (fun z => hl z.2), List.getElem?_eq_none (by omega)]
    · rw [List.getElem?_set_ne hv, ih]
      have e : (i ∈ v :: vs ∧ i < ρ'.length) = (i ∈ vs ∧ i < ρ'.length) := by simp [Ne.symm hv]
      simp only [e]
theorem Rel.back {ρ ρ2 : Rho} {σ σ2 : L2.St} {vs : List Nat} (r : Rel K A S ρ σ H) (s : SStep A S H A' H') (r2 : Rel K A' S ρ2 σ2 H') (hk : ∀ i, i ∉ vs → σ2[i]? = σ[i]?) (hl : σ2.length = σ.length) (ok : vsOk ρ vs = true) : Rel K A' S (backR ρ ρ2 vs) σ H' := by
  have ll : ρ2.length = ρ.length := by rw [r2.len, r.len, hl]
  have cas : ∀ (i : Nat) (en : Ent), (backR ρ ρ2 vs)[i]? = some en → (i ∉ vs ∧ ρ2[i]? = some en) ∨ (i ∈ vs ∧ ρ[i]? = some en ∧ isOwn en = false) := fun i en h => by
    rw [backR_get] at h
    split at h
    · rename_i hi
      have hi2 : i < ρ.length := by omega
      have e : ρ.getD i .unk = ρ[i] := by rw [List.getD_eq_getElem?_getD, List.getElem?_eq_getElem hi2]; rfl
      have o := List.all_eq_true.mp ok i hi.1
      rw [e] at h o
      cases h
      exact .inr ⟨hi.1, List.getElem?_eq_getElem hi2, by simpa using o⟩
    · rename_i hi
      by_cases hv : i ∈ vs
      · rw [List.getElem?_eq_none (by by_cases q : i < ρ2.length; exact absurd ⟨hv, q⟩ hi; omega)] at h
        cases h
      · exact .inl ⟨hv, h⟩
  refine ⟨by rw [backR_len, ll, r.len], fun i d h => ?_, fun i t ds h => ?_, fun i j t u ds es l h1 h2 h3 h4 => ?_, r2.sub, r2.live⟩
  · rcases cas i _ h with ⟨h1, h2⟩ | ⟨h1, h2, _⟩
    · obtain ⟨v, g1, g2⟩ := r2.dat i d h2
      exact ⟨v, by rw [← hk i h1]; exact g1, g2⟩
    · obtain ⟨v, g1, g2⟩ := r.dat i d h2
      exact ⟨v, g1, g2.mono (s.er r.sub)⟩
  · rcases cas i _ h with ⟨h1, h2⟩ | ⟨_, _, h3⟩
    · obtain ⟨l, ws, g1, g⟩ := r2.own i t ds h2
      exact ⟨l, ws, by rw [← hk i h1]; exact g1, g⟩
    · cases h3
  · rcases cas i _ h1 with ⟨a1, a2⟩ | ⟨_, _, a3⟩
    · rcases cas j _ h2 with ⟨b1, b2⟩ | ⟨_, _, b3⟩
      · exact r2.inj i j t u ds es l a2 b2 (by rw [hk i a1]; exact h3) (by rw [hk j b1]; exact h4)
      · cases b3
    · cases a3
/-- what stands around -/
abbrev Amb.add (S : Amb) (D : Addr) : Amb := ⟨fun a => S.S a ∨ a = D, S.g⟩
theorem Rel.poke {ρ : Rho} {σ : L2.St} {D : Addr} {o : HO} (r : Rel K A S ρ σ H) (hD : S.S D) : Rel K A S ρ σ (upd H D o) := by
  have u := er_upd (A := A) (H := H) (a := D) (o := o) (r.sub D hD)
  refine ⟨r.len, fun i d h => ?_, fun i t ds h => ?_, r.inj, r.sub, fun a ha => ?_⟩
  · obtain ⟨v, g1, g2⟩ := r.dat i d h
    exact ⟨v, g1, g2.mono u⟩
  · obtain ⟨l, vs, g1, g0, g2, g3, g4, g5, g6⟩ := r.own i t ds h
    exact ⟨l, vs, g1, g0, g2, g3, by rw [upd_ne (fun z => by rw [z] at g3; exact g3 hD)]; exact g4, g5.mono u, g6⟩
  · by_cases e : a = D
    · subst e; rw [upd_same]; exact fun z => nomatch z
    · rw [upd_ne e]; exact r.live a ha
/-- a new list stands protected -/
theorem Rel.guard {ρ : Rho} {σ : L2.St} {D : Addr} {o : HO} (r : Rel K A S ρ σ H) (hD : H D = none) : Rel K (fun a => A a ∨ a = D) (S.add D) ρ σ (upd H D o) := by
  have q := r.under (same_new (o := o) hD) hD (by rw [upd_same]; exact fun z => nomatch z)
  have nA : ¬ A D := fun z => r.live D z hD
  refine ⟨q.len, q.dat, fun i t ds h => ?_, q.inj, fun a h => ?_, q.live⟩
  · obtain ⟨l, vs, g1, g0, g2, g3, g⟩ := q.own i t ds h
    refine ⟨l, vs, g1, g0, g2, fun z => ?_, g⟩
    rcases z with z | z
    · exact g3 z
    · obtain ⟨l2, _, e1, _, e2, _⟩ := r.own i t ds h
      rw [g1] at e1
      cases e1
      exact nA (z ▸ e2)
  · rcases h with h | h
    · exact .inl (r.sub a h)
    · exact .inr h
/-- .. and is handed out -/
theorem Rel.unguard {ρ : Rho} {σ : L2.St} {D : Addr} (r : Rel K A (S.add D) ρ σ H) (nS : ¬ S.S D) : Rel K (fun a => A a ∧ a ≠ D) S ρ σ H := by
  have u : Same (er A H) (er (fun a => A a ∧ a ≠ D) H) := er_sub fun a q => q.1
  refine ⟨r.len, fun i d h => ?_, fun i t ds h => ?_, r.inj, fun a h => ⟨r.sub a (.inl h), fun z => nS (z ▸ h)⟩, fun a h => r.live a h.1⟩
  · obtain ⟨v, g1, g2⟩ := r.dat i d h
    exact ⟨v, g1, g2.mono u⟩
  · obtain ⟨l, vs, g1, g0, g2, g3, g4, g5, g6⟩ := r.own i t ds h
    exact ⟨l, vs, g1, g0, ⟨g2, fun z => g3 (.inr z)⟩, fun z => g3 (.inl z), g4, g5.mono u, g6⟩
/-- readings whatever stands around -/
def VMx (K : PySem.W.Frag) (M : Rho → Option (Ent × Rho)) : TE := fun σ H Q => ∃ S, VM K S M σ H Q
def VGx (K : PySem.W.Frag) (ts : List Nat) (T : PyData → Rho → Option Rho) : TG := fun v σ H Q => ∃ S, VGt K S ts T v σ H Q
def VTx (K : PySem.W.Frag) (T : Rho → Option Bool) : TT := fun σ H Q => ∃ S, VT K S T σ H Q
theorem pmx {X : Cx} {e : Expr} (h : ∀ S, PDM X S e M) : PE X e (VMx X.K M) := ⟨fun pins s σ H Q I ⟨S, q⟩ => (h S).run pins s σ H Q I q⟩
theorem pgx {X : Cx} {e : Expr} {ts : List Nat} {T : PyData → Rho → Option Rho} (h : ∀ S, PDG X S e ts T) : PG X e (VGx X.K ts T) := ⟨fun pins s σ H v u Q I r ⟨S, q⟩ => (h S).run pins s σ H v u Q I r q⟩
theorem ptsx {X : Cx} {ifs : List Expr} {T : Rho → Option Bool} (h : ∀ S, PTs X ifs (VT X.K S T)) : PTs X ifs (VTx X.K T) := ⟨fun pins s σ H Q I ⟨S, q⟩ => (h S).run pins s σ H Q I q⟩
def lcGoM (T : PyData → Rho → Option Rho) (Cb : Rho → Option Bool) (M : Rho → Option (Ent × Rho)) (vs : List Nat) : Rho → List PyData → Option (List PyData × Rho)
  | ρ, [] => some ([], ρ)
  | ρ, d :: ds => if vsOk ρ vs = true then (T d (wipeR ρ vs)).bind fun ρ1 => (Cb ρ1).bind fun b => if b = true then (M ρ1).bind fun (q : Ent × Rho) => (match q.1 with
      | .dat r => (lcGoM T Cb M vs (backR ρ q.2 vs) ds).map fun (z : List PyData × Rho) => (r :: z.1, z.2)
      | _ => none)
    else lcGoM T Cb M vs ρ ds else none
def mLC (I : Rho → Option (List PyData × Rho)) (T : PyData → Rho → Option Rho) (Cb : Rho → Option Bool) (M : Rho → Option (Ent × Rho)) (vs : List Nat) : Rho → Option (Ent × Rho) := fun ρ => (I ρ).bind fun (q : List PyData × Rho) => (lcGoM T Cb M vs q.2 q.1).map fun (z : List PyData × Rho) => (.dat (.list z.1), z.2)
theorem lcGoM_len {T : PyData → Rho → Option Rho} {Cb : Rho → Option Bool} {vs : List Nat} : ∀ {ds : List PyData} {ρ ρ' : Rho} {rs : List PyData}, lcGoM T Cb M vs ρ ds = some (rs, ρ') → rs.length ≤ ds.length
  | [], ρ, ρ', rs, h => by cases h; exact Nat.le_refl _
  | d :: ds, ρ, ρ', rs, h => by
    unfold lcGoM at h
    split at h
    · obtain ⟨ρ1, _, h⟩ := bind_some h
      obtain ⟨b, _, h⟩ := bind_some h
      split at h
      · obtain ⟨⟨en, ρ2⟩, _, h⟩ := bind_some h
        cases en with
        | unk => cases h
        | own t es => cases h
        | dat r =>
          obtain ⟨⟨zs, ρ3⟩, h1, h⟩ := Option.map_eq_some_iff.mp h
          cases h
          have := lcGoM_len h1
          simp only [List.length_cons]
          omega
      · have := lcGoM_len h
        simp only [List.length_cons]
        omega
    · cases h
theorem vm_lc {I : Rho → Option (List PyData × Rho)} {T : PyData → Rho → Option Rho} {Cb : Rho → Option Bool} {ts vs : List Nat} {σ : L2.St} {Q : VK} (hts : ∀ i ∈ ts, i ∈ vs) (h : VM K S (mLC I T Cb M vs) σ H Q) :
    tLc (VIM K S I) (VGx K ts T) (VTx K Cb) (VMx K M) vs σ H Q := by
  have ll := lim_line
  obtain ⟨A, ρ, en, ρ', R, hf, k⟩ := h
  obtain ⟨⟨ds, ρ1⟩, h1, hf⟩ := bind_some hf
  obtain ⟨⟨all, ρe⟩, h2, hf⟩ := Option.map_eq_some_iff.mp hf
  cases hf
  refine ⟨A, ρ, ds, ρ1, R, h1, fun A1 J H1 s1 R1 hlim src D hD => ?_⟩
  have hlen := lcGoM_len h2
  have nA : ¬ A1 D := fun z => R1.live D z hD
  have nS : ¬ S.S D := fun z => nA (R1.sub D z)
  refine ⟨fun i m H' => m = ds.length - i ∧ i ≤ ds.length ∧ ∃ A2 ρ2 ws rs rest, (∀ a o, H1 a = some o → (A1 a → S.S a) → H' a = some o ∧ (A2 a → S.S a ∨ a = D)) ∧ Rel K A2 (S.add D) ρ2 σ H' ∧ H' D = some (.lst ws) ∧ DqAll K (er A2 H') ws rs ∧ lcGoM T Cb M vs ρ2 (ds.drop i) = some (rest, ρe) ∧ rs ++ rest = all ∧ rs.length ≤ i,
    ⟨ds.length, by simp, Nat.zero_le _, fun a => A1 a ∨ a = D, ρ1, [], [], all, fun a o e q => ⟨same_new hD a o e, fun z => ?_⟩, R1.guard hD, upd_same, .nil, h2, rfl, Nat.le_refl 0⟩, ?_⟩
  · rcases z with z | z
    · exact .inl (q z)
    · exact .inr z
  rintro i m H2 ⟨rfl, hi, A2, ρ2, ws, rs, rest, st, R2, hDl, hq, hgo, hall, hrs⟩
  have s12 : SStep A1 S H1 A2 H2 := fun a o e q => by
    obtain ⟨q1, q2⟩ := st a o e q
    refine ⟨q1, fun z => ?_⟩
    rcases q2 z with z | z
    · exact z
    · rw [z, hD] at e; cases e
  obtain ⟨sgo, sstop⟩ := src A2 H2 (s12.er R1.sub) R2.live
  by_cases hlt : i < ds.length
  · obtain ⟨d, hd⟩ : ∃ d, ds[i]? = some d := ⟨ds[i], by simp [hlt]⟩
    obtain ⟨g1, g2⟩ := sgo i d hd
    rw [drop_get hd] at hgo
    unfold lcGoM at hgo
    split at hgo
    · rename_i hok
      obtain ⟨ρa, hT, hgo⟩ := bind_some hgo
      obtain ⟨b, hC, hgo⟩ := bind_some hgo
      refine .inr ⟨g1, fun H' => i + 1 ≤ ds.length ∧ ∃ A2 ρ2 ws rs rest, (∀ a o, H1 a = some o → (A1 a → S.S a) → H' a = some o ∧ (A2 a → S.S a ∨ a = D)) ∧ Rel K A2 (S.add D) ρ2 σ H' ∧ H' D = some (.lst ws) ∧ DqAll K (er A2 H') ws rs ∧ lcGoM T Cb M vs ρ2 (ds.drop (i + 1)) = some (rest, ρe) ∧ rs ++ rest = all ∧ rs.length ≤ i + 1,
        fun H' p => ⟨ds.length - (i + 1), by omega, rfl, p⟩, fun x H3 hy => ?_⟩
      obtain ⟨s3, qx⟩ := g2 x H3 hy
      refine ⟨S.add D, A2, _, ρa, d, (R2.same s3).wipe vs, qx, hT, fun σ2 Rσ hl hk => ⟨wipe_same hl fun j hj => hk j fun z => hj (hts j z), ?_⟩⟩
      refine ⟨S.add D, A2, ρa, b, Rσ, hC, fun H4 s4 => ?_⟩
      have s24 : Same H2 H4 := s3.trans s4
      have st4 : ∀ a o, H1 a = some o → (A1 a → S.S a) → H4 a = some o ∧ (A2 a → S.S a ∨ a = D) := fun a o e q => ⟨s24 a o (st a o e q).1, (st a o e q).2⟩
      cases b with
      | false =>
        rw [if_neg Bool.false_ne_true] at hgo
        refine iteF ⟨hlt, A2, ρ2, ws, rs, rest, st4, R2.same s24, s24 _ _ hDl, hq.refl_same s24, hgo, hall, by omega⟩
      | true =>
        rw [if_pos rfl] at hgo
        refine iteT ?_
        obtain ⟨⟨en, ρb⟩, hE, hgo⟩ := bind_some hgo
        cases en with
        | unk => cases hgo
        | own t es => cases hgo
        | dat r =>
          obtain ⟨⟨rest', ρz⟩, hgo', hgo⟩ := Option.map_eq_some_iff.mp hgo
          cases hgo
          refine ⟨S.add D, A2, ρa, _, ρb, Rσ.same s4, hE, fun A5 y H5 s5 R5 qy => ?_⟩
          have hD4 : H4 D = some (.lst ws) := s24 _ _ hDl
          have hD5 := s5 D _ hD4 fun _ => .inr rfl
          refine ⟨ws, hD5.1, by have := hq.length; omega, hlt, A5, _, ws ++ [y], rs ++ [r], rest', fun a o e q => ?_, ?_, upd_same, ?_, hgo', by rw [List.append_assoc]; exact hall, by rw [List.length_append]; simp only [List.length_cons, List.length_nil]; omega⟩
          · have aD : a ≠ D := fun z => by rw [z, hD] at e; cases e
            obtain ⟨q1, q2⟩ := st4 a o e q
            obtain ⟨q3, q4⟩ := s5 a o q1 q2
            exact ⟨by rw [upd_ne aD]; exact q3, q4⟩
          · have kk : ∀ i, i ∉ vs → σ2[i]? = σ[i]? := fun i hi => by
              rw [hk i (fun z => hi (hts i z)), wipe_get, if_neg (fun z => hi z.1)]
            exact ((R2.same s24).back s5 R5 kk (by rw [hl, wipe_length]) hok).poke (.inr rfl)
          · have u := er_upd (A := A5) (H := H5) (a := D) (o := .lst (ws ++ [y])) (R5.sub D (.inr rfl))
            exact (((hq.refl_same s24).mono (s5.er Rσ.sub)).mono u).snoc (Dq.mono u qy)
    · cases hgo
  · have e : i = ds.length := by omega
    subst e
    refine .inl ⟨sstop, ?_⟩
    rw [List.drop_length] at hgo
    cases hgo
    rw [List.append_nil] at hall
    subst hall
    refine k (fun a => A2 a ∧ a ≠ D) _ H2 (s1.trans fun a o e q => ?_) (R2.unguard nS) (.lst (er_some.mpr ⟨fun z => z.2 rfl, hDl⟩) (hq.mono (er_sub fun a q => q.1)) (Nat.le_trans hlen hlim))
    obtain ⟨q1, q2⟩ := s12 a o e q
    exact ⟨q1, fun z => q2 z.1⟩
variable {elt iter : Expr} {ifs : List Expr} {scope : Scope} {own : List (Str × Nat)} {I : Rho → Option (List PyData × Rho)} {T : PyData → Rho → Option Rho} {Cb : Rho → Option Bool} {ts : List Nat}
theorem pm_lc (hc : X.calm = true) (hN : X.N.Nodup) (hi : PDIM X S tg iter I) (ok : BlkOk X.N X.env.scope scope own) (hts : ∀ i ∈ ts, i ∈ own.map (·.2))
    (hg : ∀ (s : Shared) (H : Hp) (C : Addr) (cl : List (Str × Addr)) (fp : List Addr) (S : Amb), PDG (X.blk s H scope (compEnvC scope cl C X.env) fp) S tg ts T)
    (ht : ∀ (s : Shared) (H : Hp) (D : Addr) (cl : List (Str × Addr)) (fp : List Addr) (S : Amb), PTs (X.blk s H scope (compEnvC scope cl D X.env) fp) ifs (VT X.K S Cb))
    (he : ∀ (s : Shared) (H : Hp) (C : Addr) (cl : List (Str × Addr)) (fp : List Addr) (S : Amb), PDM (X.blk s H scope (compEnvC scope cl C X.env) fp) S elt M) (hs : ∀ x, foldedSetIterable iter X.env x = pure x := by intro _; rfl) :
    PDM X S (.ListComp elt [⟨tg, iter, ifs, 0⟩] scope pos) (mLC I T Cb M (own.map (·.2))) := (pe_lc hc hN hi ok (fun s H C cl fp => pgx (hg s H C cl fp)) (fun s H C cl fp => ptsx (ht s H C cl fp)) (fun s H C cl fp => pmx (he s H C cl fp)) hs).weak fun σ H Q h => vm_lc hts h
theorem pds_setLcM {i : Nat} {y : Str} {py spos : Pos} (hc : X.calm = true) (hN : X.N.Nodup) (hy : X.N[i]? = some y) (hyl : X.env.scope.names.lookup y = some .local)
    (hsw : swapsWith (.ListComp elt [⟨tg, iter, ifs, 0⟩] scope pos) (some (.Name y py)) spos.line X.env = pure true) (hi : PDIM X S tg iter I) (ok : BlkOk X.N X.env.scope scope own) (hts : ∀ i ∈ ts, i ∈ own.map (·.2))
    (hg : ∀ (s : Shared) (H : Hp) (C : Addr) (cl : List (Str × Addr)) (fp : List Addr) (S : Amb), PDG (X.blk s H scope (compEnvC scope cl C X.env) fp) S tg ts T)
    (ht : ∀ (s : Shared) (H : Hp) (D : Addr) (cl : List (Str × Addr)) (fp : List Addr) (S : Amb), PTs (X.blk s H scope (compEnvC scope cl D X.env) fp) ifs (VT X.K S Cb))
    (he : ∀ (s : Shared) (H : Hp) (C : Addr) (cl : List (Str × Addr)) (fp : List Addr) (S : Amb), PDM (X.blk s H scope (compEnvC scope cl C X.env) fp) S elt M) (hs : ∀ x, foldedSetIterable iter X.env x = pure x := by intro _; rfl) :
    PDS X S (.Assign [.Name y py] (.ListComp elt [⟨tg, iter, ifs, 0⟩] scope pos) spos) (sSet i (mLC I T Cb M (own.map (·.2)))) := (ps_setLc hc hN hy hyl hsw hi ok (fun s H C cl fp => pgx (hg s H C cl fp)) (fun s H C cl fp => ptsx (ht s H C cl fp)) (fun s H C cl fp => pmx (he s H C cl fp)) hs).weak fun D σ H ⟨A, ρ, o, ρ', R, hf, k⟩ => by
  obtain ⟨⟨en, ρ1⟩, h1, hf⟩ := Option.map_eq_some_iff.mp hf
  cases hf
  exact vm_lc hts ⟨A, ρ, en, ρ1, R, h1, fun A1 v H1 s1 R1 ok => k A1 _ H1 s1 (R1.put2 i ok)⟩
end
end PD
end

section
set_option Elab.async false
set_option linter.all false
set_option maxRecDepth 100000
set_option maxHeartbeats 4000000
/-! # PD: zip(xs, ys, strict=True) over two lists of one length, at the library's level and as a source -/
namespace PD
open PySem PySem.Spec PyProof.Rows
open PySem.Sem (wp)
namespace F
theorem zs_type (a b v : Value) : checkTypeCall "zip" ⟨[a, b], [(Str.ofString "strict", v)]⟩ = pure () := by kernel_rfl
theorem zs_new (a b v : Value) : checkBuiltinCall "zip.__new__" ⟨[.type "zip", a, b], [(Str.ofString "strict", v)]⟩ = pure () := by kernel_rfl
theorem zs_init (obj a b v : Value) : argsOk "object.__init__" ⟨[obj, a, b], [(Str.ofString "strict", v)]⟩ := by unfold argsOk; kernel_rfl
end F
/-- a zip that is strict -/
abbrev ZipS (h : Heap) (z TI TO : Addr) (f0 : Value) : Prop :=
  h.get? z = some { cls := .type "zip", dict := none, data := .fields #[f0, .bool false, .bool true, .ref TI, .ref TO], slots := #[] }
section
variable {prog : Program} {w : World} {A : Around} {E : Value → Shared → Prop} {s : Shared}
theorem noe_item {it l : Addr} {i : Nat} {items : Array Value} {x : Value} {Q : Option Value → Shared → Prop} (hi : s.heap.IsListIter it l i) (hl : s.heap.IsList l items) (hx : items[i]? = some x)
    (k : ∀ g, g.IsListIter it l (i + 1) → Heap.SameBut it s.heap g → Q (some x) { s with heap := g }) : wpAny (model prog w) A (Builtin.SmallTypes.nextOrEnd (.ref it)) Q E s := by
  unfold Builtin.SmallTypes.nextOrEnd
  refine wpAny_bind (wpAny_attempt (wpAny_nextOf_list_item hi hl hx fun g g1 g2 => ?_))
  exact wpAny_pure (k g g1 g2)
theorem noe_end {it l : Addr} {i : Nat} {items : Array Value} {Q : Option Value → Shared → Prop} (hh : A.handled = none) (hi : s.heap.IsListIter it l i) (hl : s.heap.IsList l items) (hx : items[i]? = none)
    (k : ∀ g, Heap.ExtBut it s.heap g → Q none { s with heap := g }) : wpAny (model prog w) A (Builtin.SmallTypes.nextOrEnd (.ref it)) Q E s := by
  unfold Builtin.SmallTypes.nextOrEnd
  refine wpAny_bind (wpAny_attempt (wpAny_nextOf_list_end hh hi hl hx fun g e g2 ⟨o, ho, hc⟩ => ?_))
  refine wpAny_bind (wpAny_isInstance (T := "StopIteration") (b := true) ⟨o, ho, hc⟩ isSubtype_stop ?_)
  exact wpAny_pure (k g g2)
theorem stop_now {α : Type} {Q : α → Shared → Prop} (hh : A.handled = none) (k : ∀ g e, (∀ c o, s.heap.get? c = some o → g.get? c = some o) → (∃ o, g.get? e = some o ∧ o.cls = .type "StopIteration") → E (.ref e) { s with heap := g }) :
    wpAny (model prog w) A (Builtin.SmallTypes.stopIteration : Sem α) Q E s := by
  show wpAny _ _ (newExc (.type "StopIteration") [] >>= _) _ _ _
  refine wpAny_bind ?_
  simp only [newExc, newTuple]
  refine wpAny_bind (wpAny_newObj_type ?_ (by size_fits))
  refine wpAny_bind (m := firstArgMember _ _) (wpAny_of_eq (a := Value.none) (by first | rfl | (simp only [firstArgMember]; rfl)) ?_)
  refine wpAny_newObj_type ?_ (by size_fits)
  refine wpAny_raiseNew_none hh ?_
  exact k _ _ (fun c o e => Heap.get?_push_of_some _ (Heap.get?_push_of_some _ e)) ⟨_, Heap.get?_push_size _ rfl, rfl⟩
theorem zs_item {z TI TO i1 i2 l1 l2 : Addr} {k1 k2 : Nat} {xs ys : Array Value} {x y a b : Value} {Q : Value → Shared → Prop} (D : ZipApart z TI TO i1 i2 l1 l2)
    (hz : ZipS s.heap z TI TO .none) (hI : IsPair s.heap TI (.ref i1) (.ref i2)) (hO : IsPair s.heap TO a b)
    (g1 : s.heap.IsListIter i1 l1 k1) (g2 : s.heap.IsListIter i2 l2 k2) (p1 : s.heap.IsList l1 xs) (p2 : s.heap.IsList l2 ys) (hx : xs[k1]? = some x) (hy : ys[k2]? = some y)
    (k : ∀ h', ZipS h' z TI TO (rawInt s.heap.objs.size) → IsPair h' TO x y → h'.IsListIter i1 l1 (k1 + 1) → h'.IsListIter i2 l2 (k2 + 1) → IsPair h' s.heap.objs.size x y → h'.objs.size = s.heap.objs.size + 1 →
      (∀ c o, c ≠ z → c ≠ TO → c ≠ i1 → c ≠ i2 → s.heap.get? c = some o → h'.get? c = some o) → Q (.ref s.heap.objs.size) { s with heap := h' }) :
    wpAny (model prog w) A (Builtin.«zip.__next__» ⟨[.ref z], []⟩) (fun fin s' => ∃ v, fin = .done (.ret v) ∧ Q v s') E s := by
  show wpAny _ _ (field (.ref z) 2 >>= _) _ _ _
  refine wpAny_bind (wpAny_field hz rfl (x := .bool true) rfl ?_)
  show wpAny _ _ (field (.ref z) 3 >>= _) _ _ _
  refine wpAny_bind (wpAny_field hz rfl (x := .ref TI) rfl ?_)
  refine wpAny_bind (wpAny_seqItems hI rfl ?_)
  show wpAny _ _ (Builtin.SmallTypes.ownedTupleIsFree (.ref z) >>= _) _ _ _
  refine wpAny_bind ?_
  unfold Builtin.SmallTypes.ownedTupleIsFree
  refine wpAny_bind (wpAny_field hz rfl (x := .none) rfl (wpAny_pure ?_))
  simp only [if_true]
  refine wpAny_bind (wpAny_rule ?_)
  refine wpAny_bind (wpAny_field hz rfl (x := .ref TO) rfl ?_)
  refine wpAny_bind (wpAny_setField_rec hz (by simp) fun m1 z1 q1 => ?_)
  replace z1 : ZipS m1 z TI TO .ellipsis := z1
  refine wpAny_bind ?_
  simp only [List.zipIdx_cons, List.zipIdx_nil, List.forIn_cons, List.forIn_nil]
  refine wpAny_bind (wpAny_bind (wpAny_onRaise ?_))
  show wpAny _ _ (Builtin.SmallTypes.nextOrEnd (.ref i1)) _ _ _
  refine noe_item (g1.extBut q1.extBut D.i1z) (p1.extBut q1.extBut D.l1z) hx fun m2 j1 q2 => ?_
  have hO2 : IsPair m2 TO a b := q2.extBut _ _ D.TOi1 (q1.extBut _ _ D.TOz hO)
  refine wpAny_bind (wpAny_seqItems hO2 rfl ?_)
  refine wpAny_bind (wpAny_updateSeq_pair hO2 fun m3 hO3 q3 => ?_)
  replace hO3 : IsPair m3 TO x b := hO3
  refine wpAny_bind (wpAny_letGo (wpAny_pure ?_))
  refine wpAny_bind (wpAny_bind (wpAny_onRaise ?_))
  show wpAny _ _ (Builtin.SmallTypes.nextOrEnd (.ref i2)) _ _ _
  refine noe_item (((g2.extBut q1.extBut D.i2z).extBut q2.extBut D.i12.symm).extBut q3.extBut D.TOi2.symm)
    (((p2.extBut q1.extBut D.l2z).extBut q2.extBut D.l2i1).extBut q3.extBut D.l2TO) hy fun m4 j2 q4 => ?_
  have hO4 : IsPair m4 TO x b := q4.extBut _ _ D.TOi2 hO3
  refine wpAny_bind (wpAny_seqItems hO4 rfl ?_)
  refine wpAny_bind (wpAny_updateSeq_pair hO4 fun m5 hO5 q5 => ?_)
  replace hO5 : IsPair m5 TO x y := hO5
  refine wpAny_bind (wpAny_letGo (wpAny_pure (wpAny_pure ?_)))
  refine wpAny_bind (wpAny_seqItems hO5 rfl ?_)
  refine wpAny_bind (wpAny_newTuple ?_)
  have hsz : m5.objs.size = s.heap.objs.size := by rw [q5.1, q4.1, q3.1, q2.1, q1.1]
  have z5 : ZipS m5 z TI TO .ellipsis := q5.extBut _ _ D.TOz.symm (q4.extBut _ _ D.i2z.symm (q3.extBut _ _ D.TOz.symm (q2.extBut _ _ D.i1z.symm z1)))
  have kp : ∀ c o, c ≠ z → c ≠ TO → c ≠ i1 → c ≠ i2 → s.heap.get? c = some o → m5.get? c = some o := fun c o c1 c2 c3 c4 e =>
    q5.extBut _ _ c2 (q4.extBut _ _ c4 (q3.extBut _ _ c2 (q2.extBut _ _ c3 (q1.extBut _ _ c1 e))))
  have J1 : m5.IsListIter i1 l1 (k1 + 1) := ((j1.extBut q3.extBut D.TOi1.symm).extBut q4.extBut D.i12).extBut q5.extBut D.TOi1.symm
  have J2 : m5.IsListIter i2 l2 (k2 + 1) := j2.extBut q5.extBut D.TOi2.symm
  have zlt : z < m5.objs.size := Heap.lt_size z5
  show wpAny _ _ (Builtin.SmallTypes.ownedTupleHandOut (.ref z) (.ref m5.objs.size) >>= _) _ _ _
  refine wpAny_bind ?_
  unfold Builtin.SmallTypes.ownedTupleHandOut
  have z6 : ZipS (m5.push { cls := .type "tuple", data := .seq #[x, y] }) z TI TO .ellipsis := Heap.get?_push_of_some _ z5
  refine wpAny_bind (wpAny_setField_rec z6 (by simp) fun m7 z7 q7 => ?_)
  replace z7 : ZipS m7 z TI TO (rawInt m5.objs.size) := z7
  refine wpAny_setField_rec z7 (by simp) fun m8 z8 q8 => ?_
  replace z8 : ZipS m8 z TI TO (rawInt m5.objs.size) := z8
  have up : ∀ c o, c ≠ z → m5.get? c = some o → m8.get? c = some o := fun c o c1 e => q8.extBut _ _ c1 (q7.extBut _ _ c1 (Heap.get?_push_of_some _ e))
  have T8 : IsPair m8 m5.objs.size x y := q8.extBut _ _ (Nat.ne_of_gt zlt) (q7.extBut _ _ (Nat.ne_of_gt zlt) (Heap.get?_push_size _ rfl))
  have s8 : m8.objs.size = m5.objs.size + 1 := by rw [q8.1, q7.1, Heap.size_push]
  rw [hsz] at z8 T8 s8
  refine wpAny_pure ⟨_, rfl, ?_⟩
  show Q (.ref m5.objs.size) _
  rw [hsz]
  exact k m8 z8 (up _ _ D.TOz hO5) (J1.at fun o e => up _ o D.i1z e) (J2.at fun o e => up _ o D.i2z e) T8 s8 fun c o c1 c2 c3 c4 e => up c o c1 (kp c o c1 c2 c3 c4 e)
theorem zs_end {z TI TO i1 i2 l1 l2 : Addr} {k1 k2 : Nat} {xs ys : Array Value} {a b : Value} {Q : Fin → Shared → Prop} (hh : A.handled = none) (D : ZipApart z TI TO i1 i2 l1 l2)
    (hz : ZipS s.heap z TI TO .none) (hI : IsPair s.heap TI (.ref i1) (.ref i2)) (hO : IsPair s.heap TO a b)
    (g1 : s.heap.IsListIter i1 l1 k1) (g2 : s.heap.IsListIter i2 l2 k2) (p1 : s.heap.IsList l1 xs) (p2 : s.heap.IsList l2 ys) (hx : xs[k1]? = none) (hy : ys[k2]? = none)
    (k : ∀ h' e, (∀ c o, c ≠ z → c ≠ TO → c ≠ i1 → c ≠ i2 → s.heap.get? c = some o → h'.get? c = some o) → (∃ o, h'.get? e = some o ∧ o.cls = .type "StopIteration") → E (.ref e) { s with heap := h' }) :
    wpAny (model prog w) A (Builtin.«zip.__next__» ⟨[.ref z], []⟩) Q E s := by
  show wpAny _ _ (field (.ref z) 2 >>= _) _ _ _
  refine wpAny_bind (wpAny_field hz rfl (x := .bool true) rfl ?_)
  show wpAny _ _ (field (.ref z) 3 >>= _) _ _ _
  refine wpAny_bind (wpAny_field hz rfl (x := .ref TI) rfl ?_)
  refine wpAny_bind (wpAny_seqItems hI rfl ?_)
  show wpAny _ _ (Builtin.SmallTypes.ownedTupleIsFree (.ref z) >>= _) _ _ _
  refine wpAny_bind ?_
  unfold Builtin.SmallTypes.ownedTupleIsFree
  refine wpAny_bind (wpAny_field hz rfl (x := .none) rfl (wpAny_pure ?_))
  simp only [if_true]
  refine wpAny_bind (wpAny_rule ?_)
  refine wpAny_bind (wpAny_field hz rfl (x := .ref TO) rfl ?_)
  refine wpAny_bind (wpAny_setField_rec hz (by simp) fun m1 z1 q1 => ?_)
  replace z1 : ZipS m1 z TI TO .ellipsis := z1
  refine wpAny_bind ?_
  simp only [List.zipIdx_cons, List.zipIdx_nil, List.forIn_cons, List.forIn_nil]
  refine wpAny_bind (wpAny_bind (wpAny_onRaise ?_))
  show wpAny _ _ (Builtin.SmallTypes.nextOrEnd (.ref i1)) _ _ _
  refine noe_end hh (g1.extBut q1.extBut D.i1z) (p1.extBut q1.extBut D.l1z) hx fun m2 q2 => ?_
  have z2 : ZipS m2 z TI TO .ellipsis := q2 _ _ D.i1z.symm z1
  refine wpAny_bind (wpAny_setField_rec z2 (by simp) fun m3 z3 q3 => ?_)
  have b2 : m3.IsListIter i2 l2 k2 := ((g2.extBut q1.extBut D.i2z).extBut q2 D.i12.symm).extBut q3.extBut D.i2z
  have b3 : m3.IsList l2 ys := ((p2.extBut q1.extBut D.l2z).extBut q2 D.l2i1).extBut q3.extBut D.l2z
  refine wpAny_bind ?_
  refine wpAny_bind ?_
  simp only [List.drop_succ_cons, List.drop_zero, List.zipIdx_cons, List.zipIdx_nil, List.forIn_cons, List.forIn_nil]
  refine wpAny_bind (wpAny_bind (noe_end hh b2 b3 hy fun m4 q4 => ?_))
  simp only [Option.isSome_none]
  refine wpAny_pure (wpAny_pure ?_)
  refine wpAny_bind (wpAny_rule ?_)
  refine stop_now hh fun g e ex he => ?_
  exact k _ e (fun c o c1 c2 c3 c4 x => ex _ _ (q4 _ _ c4 (q3.extBut _ _ c1 (q2 _ _ c3 (q1.extBut _ _ c1 x))))) he
theorem zs_next_item {z TI TO i1 i2 l1 l2 : Addr} {k1 k2 : Nat} {xs ys : Array Value} {x y a b : Value} {Q : Option Value → Shared → Prop} (D : ZipApart z TI TO i1 i2 l1 l2)
    (hz : ZipS s.heap z TI TO .none) (hI : IsPair s.heap TI (.ref i1) (.ref i2)) (hO : IsPair s.heap TO a b)
    (g1 : s.heap.IsListIter i1 l1 k1) (g2 : s.heap.IsListIter i2 l2 k2) (p1 : s.heap.IsList l1 xs) (p2 : s.heap.IsList l2 ys) (hx : xs[k1]? = some x) (hy : ys[k2]? = some y)
    (k : ∀ h', ZipS h' z TI TO (rawInt s.heap.objs.size) → IsPair h' TO x y → h'.IsListIter i1 l1 (k1 + 1) → h'.IsListIter i2 l2 (k2 + 1) → IsPair h' s.heap.objs.size x y → h'.objs.size = s.heap.objs.size + 1 →
      (∀ c o, c ≠ z → c ≠ TO → c ≠ i1 → c ≠ i2 → s.heap.get? c = some o → h'.get? c = some o) → Q (some (.ref s.heap.objs.size)) { s with heap := h' }) :
    wpAny (model prog w) A (pyNext (.ref z)) Q E s := by
  have ty : s.TypeIs (.ref z) "zip" := ⟨_, hz, rfl⟩
  unfold pyNext
  refine wpAny_bind (wpAny_attempt (wpAny_callSpecial?_slot (name := Str.ofString "__next__") ty PySem.F.slot_zip_next (wpAny_call_entry PySem.F.slot_zip_next ty PySem.F.entry_zip_next ?_ (PySem.F.args_zip_next_1 _))))
  exact zs_item D hz hI hO g1 g2 p1 p2 hx hy fun h' a1 a2 a3 a4 a5 a6 a7 => wpAny_pure (k h' a1 a2 a3 a4 a5 a6 a7)
theorem zs_next_end {z TI TO i1 i2 l1 l2 : Addr} {k1 k2 : Nat} {xs ys : Array Value} {a b : Value} {Q : Option Value → Shared → Prop} (hh : A.handled = none) (D : ZipApart z TI TO i1 i2 l1 l2)
    (hz : ZipS s.heap z TI TO .none) (hI : IsPair s.heap TI (.ref i1) (.ref i2)) (hO : IsPair s.heap TO a b)
    (g1 : s.heap.IsListIter i1 l1 k1) (g2 : s.heap.IsListIter i2 l2 k2) (p1 : s.heap.IsList l1 xs) (p2 : s.heap.IsList l2 ys) (hx : xs[k1]? = none) (hy : ys[k2]? = none)
    (k : ∀ h', (∀ c o, c ≠ z → c ≠ TO → c ≠ i1 → c ≠ i2 → s.heap.get? c = some o → h'.get? c = some o) → Q none { s with heap := h' }) : wpAny (model prog w) A (pyNext (.ref z)) Q E s := by
  have ty : s.TypeIs (.ref z) "zip" := ⟨_, hz, rfl⟩
  unfold pyNext
  refine wpAny_bind (wpAny_attempt (wpAny_callSpecial?_slot (name := Str.ofString "__next__") ty PySem.F.slot_zip_next (wpAny_call_entry PySem.F.slot_zip_next ty PySem.F.entry_zip_next ?_ (PySem.F.args_zip_next_1 _))))
  refine zs_end hh D hz hI hO g1 g2 p1 p2 hx hy fun h' e hk he => ?_
  obtain ⟨o, ho, hc⟩ := he
  refine wpAny_bind (wpAny_isInstance (T := "StopIteration") (b := true) ⟨o, ho, hc⟩ isSubtype_stop ?_)
  exact wpAny_pure (k _ hk)
theorem zs_letGo {elts : List Expr} {x1} {pos : Pos} {z TI TO T : Addr} {Q : Unit → Shared → Prop} (hz : ZipS s.heap z TI TO (rawInt T))
    (k : ∀ h', ZipS h' z TI TO .none → Heap.SameBut z s.heap h' → Q () { s with heap := h' }) : wpAny (model prog w) A (letOwnedTupleGo (.Tuple elts x1 pos) (.ref z) (.ref T)) Q E s := by
  unfold letOwnedTupleGo
  refine wpAny_bind (wpAny_load hz ?_)
  show wpAny _ _ (if (["enumerate", "zip", "dict_itemiterator", "dict_reverseitemiterator", "odict_iterator", "itertools.zip_longest", "itertools.pairwise"].contains "zip" && (#[rawInt T, .bool false, .bool true, .ref TI, .ref TO] : Array Value)[0]? == some (rawInt T)) = true then _ else _) Q E s
  rw [if_pos (by simp)]
  refine wpAny_bind (wpAny_rule ?_)
  show wpAny _ _ (setField (.ref z) 0 .none) Q E s
  exact wpAny_setField_rec hz (by simp) fun h' z' q' => k h' z' q'
theorem zs_iter {z TI TO : Addr} {f0 : Value} {Q : Value → Shared → Prop} (hz : ZipS s.heap z TI TO f0) (h : Q (.ref z) s) : wpAny (model prog w) A (pyIter (.ref z)) Q E s := by
  have ty : s.TypeIs (.ref z) "zip" := ⟨_, hz, rfl⟩
  refine wpAny_pyIter_slot ty PySem.F.slot_zip_iter (wpAny_call_entry PySem.F.slot_zip_iter ty PySem.F.entry_zip_iter ?_ (PySem.F.args_zip_iter_1 _))
  show wpAny _ _ (ret (.ref z)) _ _ s
  exact wpAny_pure ⟨_, rfl, "zip", _, ty, PySem.F.slot_zip_next.lookup, h⟩
end
abbrev zsH5 (h : Heap) (l1 l2 : Addr) : Heap := (zipH4 h l1 l2).push { cls := .type "zip", data := .fields #[.none, .bool false, .bool true, .ref (zipH2 h l1 l2).objs.size, .ref (zipH3 h l1 l2).objs.size] }
theorem zs_meets (l1 l2 : Addr) (xs ys : Array Value) :
    Meets (Builtin.«zip.__new__» ⟨[.type "zip", .ref l1, .ref l2], [(Str.ofString "strict", .bool true)]⟩) (fun _ R s => s.heap.IsList l1 xs ∧ s.heap.IsList l2 ys ∧
      R (.ok (.ret (.ref (zipH4 s.heap l1 l2).objs.size))) { s with heap := zsH5 s.heap l1 l2 }) :=
  .of_wp fun prog w A R s h => by
    obtain ⟨hp, g, d, tk, os⟩ := s
    obtain ⟨hl1, hl2, h⟩ := h
    have hsub := sub_zip
    have hL1 : Heap.IsList (Shared.heap ⟨hp, g, d, tk, os⟩) l1 xs := hl1
    have hL2 : Heap.IsList (Shared.heap ⟨hp.push { cls := .type "list_iterator", data := .fields #[.ref l1, .int 0 0] }, g, d, tk, os⟩) l2 ys := Heap.IsList.push hl2 _
    have e1 : (Str.ofString "strict" == ("strict" : Str)) = true := by decide +kernel
    have e2 : (Str.ofString "strict" != ("strict" : Str)) = false := by decide +kernel
    wp_walk using wpAny_pyIter_list hL1, wpAny_pyIter_list hL2
    exact ⟨_, rfl, h⟩
section
variable {prog : Program} {w : World} {A : Around} {E : Value → Shared → Prop} {s : Shared}
theorem zs_call {l1 l2 : Addr} {xs ys : Array Value} {Q : Value → Shared → Prop} (p1 : s.heap.IsList l1 xs) (p2 : s.heap.IsList l2 ys)
    (k : ∀ h', ZipS h' (s.heap.objs.size + 4) (s.heap.objs.size + 2) (s.heap.objs.size + 3) .none → IsPair h' (s.heap.objs.size + 2) (.ref s.heap.objs.size) (.ref (s.heap.objs.size + 1)) →
      IsPair h' (s.heap.objs.size + 3) .none .none → h'.IsListIter s.heap.objs.size l1 0 → h'.IsListIter (s.heap.objs.size + 1) l2 0 → h'.objs.size = s.heap.objs.size + 5 →
      (∀ c o, s.heap.get? c = some o → h'.get? c = some o) → Q (.ref (s.heap.objs.size + 4)) { s with heap := h' }) :
    wpAny (model prog w) A (call (.type "zip") [.ref l1, .ref l2] [(Str.ofString "strict", .bool true)]) Q E s := by
  refine callType_newKw PySem.F.called_zip (by decide) (F.zs_type _ _ _) (F.zs_new _ _ _) (fun obj => F.zs_init obj _ _ _) PySem.F.entry_zip_new (zs_meets l1 l2 xs ys) ⟨p1, p2, ?_⟩
  have n1 : (zipH1 s.heap l1).objs.size = s.heap.objs.size + 1 := Heap.size_push ..
  have n2 : (zipH2 s.heap l1 l2).objs.size = s.heap.objs.size + 2 := by rw [Heap.size_push, n1]
  have n3 : (zipH3 s.heap l1 l2).objs.size = s.heap.objs.size + 3 := by rw [Heap.size_push, n2]
  have n4 : (zipH4 s.heap l1 l2).objs.size = s.heap.objs.size + 4 := by rw [Heap.size_push, n3]
  have n5 : (zsH5 s.heap l1 l2).objs.size = s.heap.objs.size + 5 := by rw [Heap.size_push, n4]
  have keep : ∀ c o, (zipH4 s.heap l1 l2).get? c = some o → (zsH5 s.heap l1 l2).get? c = some o := fun c o e => Heap.get?_push_of_some _ e
  have keep3 : ∀ c o, (zipH3 s.heap l1 l2).get? c = some o → (zsH5 s.heap l1 l2).get? c = some o := fun c o e => keep _ _ (Heap.get?_push_of_some _ e)
  have keep2 : ∀ c o, (zipH2 s.heap l1 l2).get? c = some o → (zsH5 s.heap l1 l2).get? c = some o := fun c o e => keep3 _ _ (Heap.get?_push_of_some _ e)
  have keep1 : ∀ c o, (zipH1 s.heap l1).get? c = some o → (zsH5 s.heap l1 l2).get? c = some o := fun c o e => keep2 _ _ (Heap.get?_push_of_some _ e)
  have f5 : (zsH5 s.heap l1 l2).get? (zipH4 s.heap l1 l2).objs.size = some _ := Heap.get?_push_size _ rfl
  have f4 : (zsH5 s.heap l1 l2).get? (zipH3 s.heap l1 l2).objs.size = some _ := keep _ _ (Heap.get?_push_size _ rfl)
  have f3 : (zsH5 s.heap l1 l2).get? (zipH2 s.heap l1 l2).objs.size = some _ := keep3 _ _ (Heap.get?_push_size _ rfl)
  have f2 : (zsH5 s.heap l1 l2).get? (zipH1 s.heap l1).objs.size = some _ := keep2 _ _ (Heap.get?_push_size _ rfl)
  have f1 : (zsH5 s.heap l1 l2).get? s.heap.objs.size = some _ := keep1 _ _ (Heap.get?_push_size _ rfl)
  show _ ∧ _
  rw [n2, n3, n4] at f5
  rw [n1, n2] at f3
  rw [n3] at f4
  rw [n1] at f2
  rw [n4]
  exact ⟨⟨_, f5, rfl⟩, k _ f5 f3 f4 ⟨_, f1, rfl, rfl⟩ ⟨_, f2, rfl, rfl⟩ n5 fun c o x => keep1 _ _ (Heap.get?_push_of_some _ x)⟩
theorem callWith_tyK {env : Env} {pos : Pos} {T : String} {e : Expr} {rest : List Expr} {kws : List Keyword} {Q : Value → Shared → Prop} (hall : (backToKw pos (keywordEach kws env)).all (·.1.isSome) = true)
    (h : wpAny (model prog w) A (spliced (backTo pos (starEach (e :: rest) env))) (fun vs s1 => wpAny (model prog w) A (evalAll ((backToKw pos (keywordEach kws env)).map (·.2)))
      (fun ks s2 => wpAny (model prog w) A (call (.type T) vs (((backToKw pos (keywordEach kws env)).filterMap (·.1)).zip ks)) Q E s2) E s1) E s)
    (he : starEach (e :: rest) env = (false, eval e env) :: starEach rest env) (hpl : ((backTo pos (starEach (e :: rest) env)).any (·.1) || (backToKw pos (keywordEach kws env)).any (·.1.isNone)) = false) :
    wpAny (model prog w) A (callWith pos (.type T) [] (backTo pos (starEach (e :: rest) env)) (backToKw pos (keywordEach kws env))) Q E s := by
  unfold callWith
  refine wpAny_bind (wpAny_holding (wpAny_mono (evalArgs_kw2 (Q := fun a s2 => wpAny (model prog w) A (call (.type T) a.pos a.kw) Q E s2) hall h he) (fun a s1 h1 => wpAny_bind (wpAny_standAt ?_)) fun _ _ x => x))
  simp only [hpl]
  refine wpAny_bind (wpAny_pure ?_)
  exact wpAny_bind (wpAny_mono h1 (fun r s2 hr => wpAny_bind (wpAny_holding (wpAny_point (wpAny_pure hr)))) fun _ _ x => x)
end
open L2
/-- two lists of one length, their items in pairs -/
def Itzs (K : PySem.W.Frag) (a b : Addr) : It :=
  ⟨fun i H => ∃ (xs ys : List V) (x y : V), SqL K H a xs ∧ SqL K H b ys ∧ xs[i]? = some x ∧ ys[i]? = some y,
    fun i H v H' => ∃ T x y, v = .ref T ∧ H T = none ∧ H' = upd H T (.tup [x, y]) ∧ (∀ xs, SqL K H a xs → xs[i]? = some x) ∧ ∀ ys, SqL K H b ys → ys[i]? = some y,
    fun i H => ∃ xs ys : List V, SqL K H a xs ∧ SqL K H b ys ∧ xs.length ≤ i ∧ ys.length ≤ i⟩
theorem turn_zs {P : Program} {w : World} {K : PySem.W.Frag} {elts : List Expr} {kk : Nat} {tpos : Pos} {a b z TI TO i1 i2 : Addr} (D : ZipApart z TI TO i1 i2 a b) :
    Turn P w K (.Tuple elts kk tpos) (Itzs K a b) [z, TI, TO, i1, i2] z (fun i h => ZipS h z TI TO .none ∧ IsPair h TI (.ref i1) (.ref i2) ∧ (∃ x y, IsPair h TO x y) ∧ h.IsListIter i1 a i ∧ h.IsListIter i2 b i) where
  mem := by simp
  obj := fun i h st c hc => by
    obtain ⟨hz, hI, ⟨x, y, hO⟩, ⟨o1, e1, _, d1⟩, ⟨o2, e2, _, d2⟩⟩ := st
    have e' : c = z ∨ c = TI ∨ c = TO ∨ c = i1 ∨ c = i2 := by simpa using hc
    rcases e' with rfl | rfl | rfl | rfl | rfl
    · exact ⟨_, hz, fun v q => nomatch q⟩
    · exact ⟨_, hI, fun v q => nomatch q⟩
    · exact ⟨_, hO, fun v q => nomatch q⟩
    · exact ⟨o1, e1, fun v q => by rw [d1] at q; cases q⟩
    · exact ⟨o2, e2, fun v q => by rw [d2] at q; cases q⟩
  keep := fun i h h' st k => by
    obtain ⟨hz, hI, ⟨x, y, hO⟩, g1, g2⟩ := st
    have kz := k z (by simp)
    exact ⟨kz _ hz, k TI (by simp) _ hI, ⟨x, y, k TO (by simp) _ hO⟩, g1.at fun o q => k i1 (by simp) o q, g2.at fun o q => k i2 (by simp) o q⟩
  item := by
    intro X hP hw hK hc i pins s σ H E I hf st hg
    subst hP hw hK
    obtain ⟨hz, hI, ⟨x0, y0, hO⟩, g1, g2⟩ := st
    obtain ⟨xs, ys, x, y, qx, qy, hx, hy⟩ := hg
    obtain ⟨its, rv, p, _⟩ := I.list qx
    obtain ⟨its2, rv2, p2, _⟩ := I.list qy
    obtain ⟨u, hu, ru⟩ := rv.get hx
    obtain ⟨u2, hu2, ru2⟩ := rv2.get hy
    have zl : z < s.heap.objs.size := Heap.lt_size hz
    have ne : ∀ c, c ∉ [z, TI, TO, i1, i2] → c ≠ z ∧ c ≠ TO ∧ c ≠ i1 ∧ c ≠ i2 := fun c hb => ⟨fun q => hb (by simp [q]), fun q => hb (by simp [q]), fun q => hb (by simp [q]), fun q => hb (by simp [q])⟩
    refine zs_next_item D hz hI hO g1 g2 p.isList p2.isList (x := u) (y := u2) (by simpa using hu) (by simpa using hu2) fun h' z' O' j1 j2 hT hsz hk => ?_
    refine ⟨_, rfl, zs_letGo (s := { s with heap := h' }) z' fun h2 z2 sb => ?_⟩
    have hT2 : h2.get? s.heap.objs.size = some { cls := .type "tuple", data := .seq #[u, u2] } := (sb.2 _ (Nat.ne_of_gt zl)).trans hT
    have new : ObjOk X.prog X.w (upd H s.heap.objs.size (.tup [x, y])) h2 s.heap.objs.size (.tup [x, y]) := ⟨by show 2 ≤ sizeLine; decide, [u, u2], .cons ru (.cons ru2 .nil), ⟨_, hT2, rfl, _, rfl⟩⟩
    have I1 : Inv X pins σ (upd H s.heap.objs.size (.tup [x, y])) { s with heap := h2 } := I.turnedNew (t' := s.toks) (ch := [z, TI, TO, i1, i2]) (fun c o hb q =>
      let n := ne c hb
      (sb.2 c n.1).trans (hk c o n.1 n.2.1 n.2.2.1 n.2.2.2 q)) hf (Nat.le_refl _) new
    refine ⟨.ref s.heap.objs.size, _, I1, rfl, ⟨_, x, y, rfl, I.hok.fresh (Nat.le_refl _), rfl, fun l hl => by rw [I.list_inj hl qx]; exact hx, fun l hl => by rw [I.list_inj hl qy]; exact hy⟩, ⟨z2, (sb.2 _ D.TIz).trans (hk _ _ D.TIz D.TITO D.TIi1 D.TIi2 hI), ⟨u, u2, (sb.2 _ D.TOz).trans O'⟩, j1.at fun o q => (sb.2 _ D.i1z).trans q, j2.at fun o q => (sb.2 _ D.i2z).trans q⟩, fun c hcm => ?_⟩
    have hlt : c < s.heap.objs.size := by
      have e' : c = z ∨ c = TI ∨ c = TO ∨ c = i1 ∨ c = i2 := by simpa using hcm
      rcases e' with rfl | rfl | rfl | rfl | rfl
      · exact zl
      · exact Heap.lt_size hI
      · exact Heap.lt_size hO
      · obtain ⟨_, e1, _⟩ := g1; exact Heap.lt_size e1
      · obtain ⟨_, e2, _⟩ := g2; exact Heap.lt_size e2
    rw [upd_ne (Nat.ne_of_lt hlt)]
    exact (hf c hcm).1
  done := by
    intro X hP hw hK hc i pins s σ H E I hf st hg
    subst hP hw hK
    obtain ⟨hz, hI, ⟨x0, y0, hO⟩, g1, g2⟩ := st
    obtain ⟨xs, ys, qx, qy, e1, e2⟩ := hg
    obtain ⟨its, rv, p, _⟩ := I.list qx
    obtain ⟨its2, rv2, p2, _⟩ := I.list qy
    have l1 := rv.length
    have l2 := rv2.length
    refine zs_next_end (I.ok.hd hc) D hz hI hO g1 g2 p.isList p2.isList (by simp; omega) (by simp; omega) fun h' hk => ⟨rfl, I.turnedL (t' := s.toks) (ch := [z, TI, TO, i1, i2]) (fun c o hb q => ?_) hf⟩
    exact hk c o (fun q' => hb (by simp [q'])) (fun q' => hb (by simp [q'])) (fun q' => hb (by simp [q'])) (fun q' => hb (by simp [q'])) q
  self := fun A i s Q E st h => zs_iter st.1 h
def iZs (K : PySem.W.Frag) (ta : TA) : TI := fun σ H R => ta σ H fun vs H1 => ∃ a b xs ys, vs = [.ref a, .ref b] ∧ SqL K H1 a xs ∧ SqL K H1 b ys ∧ R (Itzs K a b) H1
theorem pi_zs {X : Cx} {e e2 c : Expr} {ta : TA} {p pos tpos kp : Pos} {elts : List Expr} {kk : Nat} (hg : Gl X "zip") (hm : X.mg "zip" = none) (ha : PA X [e, e2] ta) (hc : PE X c (tC (.bl true)))
    (hs : starEach [e, e2] X.env = (false, eval e X.env) :: starEach [e2] X.env := by rfl) (hall : (backToKw pos (keywordEach [⟨some (Str.ofString "strict"), c, kp⟩] X.env)).all (·.1.isSome) = true := by rfl)
    (hpl : ((backTo pos (starEach [e, e2] X.env)).any (·.1) || (backToKw pos (keywordEach [⟨some (Str.ofString "strict"), c, kp⟩] X.env)).any (·.1.isNone)) = false := by rfl) :
    PI X (.Tuple elts kk tpos) (.Call (.Name "zip" p) [e, e2] [⟨some (Str.ofString "strict"), c, kp⟩] pos) (iZs X.K ta) := by
  refine ⟨fun pins s σ H R I h => ?_⟩
  refine wpAny_Call_Name_kw (ld_blt I hg hm PyProof.Rows.boot_zip (callWith_tyK hall (thn (ha.run pos pins s σ H _ I h) fun us s0 ⟨vs, H0, I0, r1, q1⟩ => ?_) hs hpl))
  refine thn ((pk_cons (nm := some (Str.ofString "strict")) (kpos := kp) hc pk_nil).run pos pins s0 σ H0 (fun zs H1 => H1 = H0 ∧ zs = [.bl true]) I0 ⟨rfl, rfl⟩) fun ws s1 ⟨zs, H1, I1, r2, e1, e2⟩ => ?_
  subst e1 e2
  obtain ⟨a, b, xs, ys, ex, qx, qy, q⟩ := q1
  subst ex
  cases r2 with
  | cons r rr =>
    cases rr
    obtain rfl : _ = Value.bool true := r
    cases r1 with
    | cons r rr =>
      cases rr with
      | cons r' rr =>
        cases rr
        cases r
        cases r'
        obtain ⟨its, rv, p1, _⟩ := I1.list qx
        obtain ⟨its2, rv2, p2, _⟩ := I1.list qy
        refine zs_call p1.isList p2.isList fun h' hz hI hO g1 g2 hsz hk => zs_iter hz ?_
        have I2 : Inv X pins σ H1 { s1 with heap := h' } := I1.kept (t' := s1.toks) hk
        refine ⟨s1.heap.objs.size + 4, [s1.heap.objs.size + 4, s1.heap.objs.size + 2, s1.heap.objs.size + 3, s1.heap.objs.size, s1.heap.objs.size + 1], _, _, H1, rfl, I2, turn_zs (PySem.W.ktu_apart s1.heap.objs.size a b p1.lt p2.lt), ⟨hz, hI, ⟨_, _, hO⟩, g1, g2⟩, fun c hcm => ?_, q⟩
        have hle : s1.heap.objs.size ≤ c := by
          simp only [List.mem_cons, List.not_mem_nil, or_false] at hcm
          rcases hcm with q | q | q | q | q <;> rw [q] <;> first | exact Nat.le_refl _ | exact Nat.le_add_right _ _
        exact I1.fpOk hle (I1.hok.fresh hle)
section
variable {X : Cx} {S : Amb} {K : PySem.W.Frag} {A : Addr → Prop} {H H' : Hp} {e a b c tg : Expr} {pos p kp : Pos} {F G : Rho → Option PyData}
def iZipS (F G : Rho → Option PyData) : Rho → Option (List PyData) := fun ρ => (F ρ).bind fun d => (G ρ).bind fun e => match d, e with
  | .list ds, .list es => if ds.length = es.length then some (zipD ds es) else none
  | _, _ => none
theorem src_zs {q r : Addr} {vs ws : List V} {ds es : List PyData} (hl : ds.length = es.length) (h : H q = some (.lst vs)) (hp : ¬ A q) (a1 : DqAll K (er A H) vs ds) (h2 : H r = some (.lst ws)) (hp2 : ¬ A r) (a2 : DqAll K (er A H) ws es) : Src K A (Itzs K q r) (zipD ds es) H := by
  intro A' H' s lv
  obtain ⟨f1, f2⟩ := src_zip (K := K) h hp a1 h2 hp2 a2 A' H' s lv
  have h' := er_some.mp (s q _ (er_some.mpr ⟨hp, h⟩))
  have h2' := er_some.mp (s r _ (er_some.mpr ⟨hp2, h2⟩))
  exact ⟨f1, ⟨vs, ws, SqL.of h'.2, SqL.of h2'.2, by rw [a1.length, zipD_len]; omega, by rw [a2.length, zipD_len]; omega⟩⟩
theorem pdi_zipS {elts : List Expr} {kk : Nat} {tpos : Pos} (hg : Gl X "zip") (hm : X.mg "zip" = none) (ha : PDE X S a F) (hb : PDE X S b G) (hc : PE X c (tC (.bl true))) (hs : starEach [a, b] X.env = (false, eval a X.env) :: starEach [b] X.env := by rfl)
    (hs2 : starEach [b] X.env = (false, eval b X.env) :: starEach [] X.env := by rfl) (hall : (backToKw pos (keywordEach [⟨some (Str.ofString "strict"), c, kp⟩] X.env)).all (·.1.isSome) = true := by rfl)
    (hpl : ((backTo pos (starEach [a, b] X.env)).any (·.1) || (backToKw pos (keywordEach [⟨some (Str.ofString "strict"), c, kp⟩] X.env)).any (·.1.isNone)) = false := by rfl) :
    PDI2 X S (.Tuple elts kk tpos) (.Call (.Name "zip" p) [a, b] [⟨some (Str.ofString "strict"), c, kp⟩] pos) (iZipS F G) := (pi_zs hg hm (pa_cons ha (pa_cons hb pa_nil hs2) hs) hc hs hall hpl).weak fun σ H Rr ⟨A, ρ, ds, R, hf, k⟩ => by
  obtain ⟨d, h1, hf⟩ := bind_some hf
  obtain ⟨e, h2, hf⟩ := bind_some hf
  split at hf
  · split at hf
    · rename_i hl
      cases hf
      refine ⟨A, ρ, _, R, h1, fun v H1 s1 q1 => ⟨A, ρ, _, R.same s1, h2, fun w H2 s2 q2 => ?_⟩⟩
      have q1 := q1.refl_same s2
      cases q1 with
      | lst g a1 z1 =>
        cases q2 with
        | lst g2 a2 z2 =>
          have g' := er_some.mp g
          have g2' := er_some.mp g2
          exact ⟨_, _, _, _, rfl, SqL.of g'.2, SqL.of g2'.2, k _ H2 (s1.trans s2) (by rw [zipD_len]; omega) (src_zs hl g'.2 g'.1 a1 g2'.2 g2'.1 a2)⟩
    · cases hf
  · cases hf
end
end PD
end

section
set_option Elab.async false
set_option linter.all false
set_option maxRecDepth 100000
set_option maxHeartbeats 3200000
/-! # PD 12: comprehensions of two clauses -/
namespace PD
open PySem PySem.Spec PyProof.Rows L2
section
variable {X : Cx} {S : Amb} {K : PySem.W.Frag} {A A' : Addr → Prop} {H H' : Hp} {e a b c tg tg1 : Expr} {pos p : Pos} {F G : Rho → Option PyData}
/-- all but D stands -/
theorem er_off {D : Addr} (hA : A D) (keep : ∀ a o, a ≠ D → H a = some o → H' a = some o) : Same (er A H) (er A H') := fun a o q => by
  obtain ⟨q1, q2⟩ := er_some.mp q
  exact er_some.mpr ⟨q1, keep a o (fun z => q1 (z ▸ hA)) q2⟩
theorem Rel.off {ρ : Rho} {σ : L2.St} {D : Addr} (r : Rel K A S ρ σ H) (hD : S.S D) (hn : H' D ≠ none) (keep : ∀ a o, a ≠ D → H a = some o → H' a = some o) : Rel K A S ρ σ H' := by
  have u := er_off (r.sub D hD) keep
  refine ⟨r.len, fun i d h => ?_, fun i t ds h => ?_, r.inj, r.sub, fun a ha => ?_⟩
  · obtain ⟨v, g1, g2⟩ := r.dat i d h
    exact ⟨v, g1, g2.mono u⟩
  · obtain ⟨l, vs, g1, g0, g2, g3, g4, g5, g6⟩ := r.own i t ds h
    exact ⟨l, vs, g1, g0, g2, g3, keep l _ (fun z => by rw [z] at g3; exact g3 hD) g4, g5.mono u, g6⟩
  · by_cases z : a = D
    · rw [z]; exact hn
    · cases q : H a with
      | none => exact absurd q (r.live a ha)
      | some o => rw [keep a o z q]; exact fun w => nomatch w
def VPx (K : PySem.W.Frag) (F : Rho → Option PyData) : TE := fun σ H Q => ∃ S, VP K S F σ H Q
def VI2x (K : PySem.W.Frag) (I : Rho → Option (List PyData)) : TI := fun σ H R => ∃ S, VI2 K S I σ H R
theorem ppx {X : Cx} {e : Expr} (h : ∀ S, PDE X S e F) : PE X e (VPx X.K F) := ⟨fun pins s σ H Q I ⟨S, q⟩ => (h S).run pins s σ H Q I q⟩
theorem pix {X : Cx} {tg e : Expr} {I : Rho → Option (List PyData)} (h : ∀ S, PDI2 X S tg e I) : PI X tg e (VI2x X.K I) := ⟨fun pins s σ H R Iv ⟨S, q⟩ => (h S).run pins s σ H R Iv q⟩
def lcGo2 (T : PyData → Rho → Option Rho) (C : Rho → Option Bool) (I1 : Rho → Option (List PyData)) (T1 : PyData → Rho → Option Rho) (C1 : Rho → Option Bool) (E : Rho → Option PyData) (vs1 : List Nat) (ρ : Rho) : List PyData → Option (List PyData)
  | [] => some []
  | d :: ds => (T d ρ).bind fun ρ1 => (C ρ1).bind fun b => if b = true then (I1 ρ1).bind fun es => (lcGo T1 C1 E (wipeR ρ1 vs1) es).bind fun rs => (lcGo2 T C I1 T1 C1 E vs1 ρ ds).map (rs ++ ·) else lcGo2 T C I1 T1 C1 E vs1 ρ ds
def eLC2 (I : Rho → Option (List PyData)) (T : PyData → Rho → Option Rho) (C : Rho → Option Bool) (I1 : Rho → Option (List PyData)) (T1 : PyData → Rho → Option Rho) (C1 : Rho → Option Bool) (E : Rho → Option PyData) (vs vs1 : List Nat) : Rho → Option PyData :=
  fun ρ => (I ρ).bind fun ds => (lcGo2 T C I1 T1 C1 E vs1 (wipeR ρ vs) ds).bind fun rs => if rs.length ≤ lim then some (.list rs) else none
theorem lc_run2 {I I1 : Rho → Option (List PyData)} {T T1 : PyData → Rho → Option Rho} {C C1 : Rho → Option Bool} {E : Rho → Option PyData} {ts ts1 vs vs1 : List Nat} {σ : L2.St} {ρ : Rho} {ds all : List PyData} {Q : VK} (hts : ∀ i ∈ ts, i ∈ vs) (hts1 : ∀ i ∈ ts1, i ∈ vs1)
    (R : Rel K A S ρ σ H) (h1 : I ρ = some ds) (h2 : lcGo2 T C I1 T1 C1 E vs1 (wipeR ρ vs) ds = some all) (hz : all.length ≤ lim)
    (k : ∀ (D : Addr) (ws : List V) (H' : Hp), H D = none → ¬ A D → Same H H' → H' D = some (.lst ws) → DqAll K (er (fun a => A a ∨ a = D) H') ws all → Q (.ref D) H') : tLc2 (VIP K S I) (VGx K ts T) (VTx K C) (VI2x K I1) (VGx K ts1 T1) (VTx K C1) (VPx K E) vs vs1 σ H Q := by
  have ll := lim_line
  refine ⟨A, ρ, ds, R, h1, fun J H1 s1 hlim src D hD => ?_⟩
  have R1 := R.same s1
  have nA : ¬ A D := fun z => R1.live D z hD
  have sD : (S.add D).S D := .inr rfl
  refine ⟨fun i m H' => m = ds.length - i ∧ i ≤ ds.length ∧ Rel K (fun a => A a ∨ a = D) (S.add D) ρ σ H' ∧ LcAt K A H1 D (lcGo2 T C I1 T1 C1 E vs1 (wipeR ρ vs)) ds all i H', ⟨ds.length, by simp, Nat.zero_le _, R1.guard hD, same_new hD, [], [], all, upd_same, .nil, h2, rfl⟩, ?_⟩
  rintro i m H2 ⟨rfl, hi, R2, P⟩
  obtain ⟨ss, ws, rs, rest, hDl, hq, hgo, hall⟩ := P
  obtain ⟨sgo, sstop⟩ := src _ H2 ss (under_same ss hD) R2.live
  by_cases hlt : i < ds.length
  · obtain ⟨d, hd⟩ : ∃ d, ds[i]? = some d := ⟨ds[i], by simp [hlt]⟩
    obtain ⟨g1, g2⟩ := sgo i d hd
    refine .inr ⟨g1, fun H' => Rel K (fun a => A a ∨ a = D) (S.add D) ρ σ H' ∧ LcAt K A H1 D (lcGo2 T C I1 T1 C1 E vs1 (wipeR ρ vs)) ds all (i + 1) H', fun H' p => ⟨ds.length - (i + 1), by omega, rfl, hlt, p⟩, fun x H3 hy => ?_⟩
    obtain ⟨s3, qx⟩ := g2 x H3 hy
    rw [drop_get hd] at hgo
    unfold lcGo2 at hgo
    obtain ⟨ρ1, hT, hgo⟩ := bind_some hgo
    obtain ⟨b, hC, hgo⟩ := bind_some hgo
    refine ⟨S.add D, _, _, ρ1, d, (R2.same s3).wipe vs, qx, hT, fun σ2 Rσ hl hk => ⟨wipe_same hl fun j hj => hk j fun z => hj (hts j z), ?_⟩⟩
    refine ⟨S.add D, _, ρ1, b, Rσ, hC, fun H4 s4 => ?_⟩
    have s24 := s3.trans s4
    have s14 : Same H1 H4 := ss.trans s24
    have hD4 : H4 D = some (.lst ws) := s24 _ _ hDl
    cases b with
    | false =>
      rw [if_neg Bool.false_ne_true] at hgo
      refine iteF ?_
      exact ⟨R2.same s24, s14, ws, rs, rest, hD4, hq.refl_same s24, hgo, hall⟩
    | true =>
      rw [if_pos rfl] at hgo
      refine iteT ?_
      obtain ⟨es, hI1, hgo⟩ := bind_some hgo
      obtain ⟨rs1, hin, hgo⟩ := bind_some hgo
      obtain ⟨rest', hgo', rfl⟩ := Option.map_eq_some_iff.mp hgo
      have tot : rs.length + (rs1.length + rest'.length) = all.length := by rw [← hall, List.length_append, List.length_append]
      refine ⟨S.add D, _, ρ1, es, Rσ.same s4, hI1, fun J1 H5 s5 hlim1 src1 => ?_⟩
      have s25 := s24.trans s5
      -- the inner loop at j
      refine ⟨fun j k' H' => k' = es.length - j ∧ j ≤ es.length ∧ Rel K (fun a => A a ∨ a = D) (S.add D) ρ1 σ2 H' ∧ (∀ a o, a ≠ D → H5 a = some o → H' a = some o) ∧ ∃ ws' mk lf, H' D = some (.lst ws') ∧ DqAll K (er (fun a => A a ∨ a = D) H') ws' (rs ++ mk) ∧ lcGo T1 C1 E (wipeR ρ1 vs1) (es.drop j) = some lf ∧ mk ++ lf = rs1,
        ⟨es.length, by simp, Nat.zero_le _, Rσ.same (s4.trans s5), fun a o _ q => q, ws, [], rs1, s5 _ _ hD4, by rw [List.append_nil]; exact hq.refl_same s25, hin, rfl⟩, ?_⟩
      rintro j k' H6 ⟨rfl, hj, R6, off, ws', mk, lf, hD6, hq6, hlf, hmk⟩
      have n6 : H6 D ≠ none := by rw [hD6]; exact fun w => nomatch w
      obtain ⟨sgo1, sstop1⟩ := src1 _ H6 (er_off (R6.sub D sD) off) R6.live
      by_cases hlt1 : j < es.length
      · obtain ⟨d1, hd1⟩ : ∃ d1, es[j]? = some d1 := ⟨es[j], by simp [hlt1]⟩
        obtain ⟨u1, u2⟩ := sgo1 j d1 hd1
        refine .inr ⟨u1, fun H' => Rel K (fun a => A a ∨ a = D) (S.add D) ρ1 σ2 H' ∧ (∀ a o, a ≠ D → H5 a = some o → H' a = some o) ∧ ∃ ws' mk lf, H' D = some (.lst ws') ∧ DqAll K (er (fun a => A a ∨ a = D) H') ws' (rs ++ mk) ∧ lcGo T1 C1 E (wipeR ρ1 vs1) (es.drop (j + 1)) = some lf ∧ mk ++ lf = rs1,
          fun H' p => ⟨es.length - (j + 1), by omega, rfl, hlt1, p⟩, fun x1 H7 hy1 => ?_⟩
        obtain ⟨s7, qx1⟩ := u2 x1 H7 hy1
        rw [drop_get hd1] at hlf
        unfold lcGo at hlf
        obtain ⟨ρ3, hT1, hlf⟩ := bind_some hlf
        obtain ⟨b1, hC1, hlf⟩ := bind_some hlf
        refine ⟨S.add D, _, _, ρ3, d1, (R6.same s7).wipe vs1, qx1, hT1, fun σ3 Rτ hl1 hk1 => ⟨wipe_same hl1 fun j hj => hk1 j fun z => hj (hts1 j z), ?_⟩⟩
        refine ⟨S.add D, _, ρ3, b1, Rτ, hC1, fun H8 s8 => ?_⟩
        have s68 := s7.trans s8
        cases b1 with
        | false =>
          rw [if_neg Bool.false_ne_true] at hlf
          refine iteF ?_
          exact ⟨R6.same s68, fun a o n q => s68 _ _ (off a o n q), ws', mk, lf, s68 _ _ hD6, hq6.refl_same s68, hlf, hmk⟩
        | true =>
          rw [if_pos rfl] at hlf
          refine iteT ?_
          obtain ⟨r, hE, hlf⟩ := bind_some hlf
          obtain ⟨lf', hlf', rfl⟩ := Option.map_eq_some_iff.mp hlf
          refine ⟨S.add D, _, ρ3, r, Rτ.same s8, hE, fun y H9 s9 qy => ?_⟩
          have s69 := s68.trans s9
          have hD9 := s69 _ _ hD6
          have ne9 : upd H9 D (.lst (ws' ++ [y])) D ≠ none := by rw [upd_same]; exact fun w => nomatch w
          have kp : ∀ a o, a ≠ D → H6 a = some o → upd H9 D (.lst (ws' ++ [y])) a = some o := fun a o n q => by rw [upd_ne n]; exact s69 _ _ q
          refine ⟨ws', hD9, ?_, R6.off sD ne9 kp, fun a o n q => kp a o n (off a o n q), ws' ++ [y], mk ++ [r], lf', upd_same, ?_, hlf', by rw [List.append_assoc]; exact hmk⟩
          · have e1 := hq6.length
            rw [List.length_append] at e1
            have e2 : mk.length + (lf'.length + 1) = rs1.length := by rw [← hmk, List.length_append, List.length_cons]
            omega
          · have u := er_upd (A := fun a => A a ∨ a = D) (H := H9) (a := D) (o := .lst (ws' ++ [y])) (.inr rfl)
            rw [← List.append_assoc]
            exact ((hq6.refl_same s69).mono u).snoc (qy.mono u)
      · have e : j = es.length := by omega
        subst e
        rw [List.drop_length] at hlf
        cases hlf
        rw [List.append_nil] at hmk
        subst hmk
        refine .inl ⟨sstop1, (R2.same s25).off sD n6 off, fun a o q => off a o (fun z => by rw [z, hD] at q; cases q) (s5 a o (s14 a o q)), ws', rs ++ mk, rest', hD6, hq6, hgo', by rw [List.append_assoc]; exact hall⟩
  · have e : i = ds.length := by omega
    subst e
    refine .inl ⟨sstop, ?_⟩
    rw [List.drop_length] at hgo
    cases hgo
    rw [List.append_nil] at hall
    subst hall
    exact k D _ H2 (same_back s1 hD) nA (s1.trans ss) hDl hq
variable {I I1 : Rho → Option (List PyData)} {T T1 : PyData → Rho → Option Rho} {C C1 : Rho → Option Bool} {E : Rho → Option PyData} {ts ts1 vs1 : List Nat}
theorem vp_lc2 {vs : List Nat} {σ : L2.St} {Q : VK} (hts : ∀ i ∈ ts, i ∈ vs) (hts1 : ∀ i ∈ ts1, i ∈ vs1)
    (h : VP K S (eLC2 I T C I1 T1 C1 E vs vs1) σ H Q) : tLc2 (VIP K S I) (VGx K ts T) (VTx K C) (VI2x K I1) (VGx K ts1 T1) (VTx K C1) (VPx K E) vs vs1 σ H Q := by
  obtain ⟨A, ρ, z, R, hf, k⟩ := h
  obtain ⟨ds, h1, hf⟩ := bind_some hf
  obtain ⟨all, h2, hf⟩ := bind_some hf
  split at hf
  · rename_i hz
    cases hf
    exact lc_run2 hts hts1 R h1 h2 hz fun D ws H' hD nA s hDl hq => k _ H' s (.lst (er_some.mpr ⟨nA, hDl⟩) (hq.mono (er_sub fun a => .inl)) hz)
  · cases hf
variable {elt iter iter1 : Expr} {ifs ifs1 : List Expr} {scope : Scope} {own : List (Str × Nat)}
theorem pd_lc2 (hc : X.calm = true) (hN : X.N.Nodup) (hi : PDIP X S tg iter I) (ok : BlkOk X.N X.env.scope scope own) (hv : ∀ i ∈ vs1, i ∈ own.map (·.2)) (hts : ∀ i ∈ ts, i ∈ own.map (·.2)) (hts1 : ∀ i ∈ ts1, i ∈ vs1)
    (hg : ∀ (s : Shared) (H : Hp) (C : Addr) (cl : List (Str × Addr)) (fp : List Addr) (S : Amb), PDG (X.blk s H scope (compEnvC scope cl C X.env) fp) S tg ts T)
    (ht : ∀ (s : Shared) (H : Hp) (D : Addr) (cl : List (Str × Addr)) (fp : List Addr) (S : Amb), PTs (X.blk s H scope (compEnvC scope cl D X.env) fp) ifs (VT X.K S C))
    (hi1 : ∀ (s : Shared) (H : Hp) (D : Addr) (cl : List (Str × Addr)) (fp : List Addr) (S : Amb), PDI2 (X.blk s H scope (compEnvC scope cl D X.env) fp) S tg1 iter1 I1)
    (hg1 : ∀ (s : Shared) (H : Hp) (C : Addr) (cl : List (Str × Addr)) (fp : List Addr) (S : Amb), PDG (X.blk s H scope (compEnvC scope cl C X.env) fp) S tg1 ts1 T1)
    (ht1 : ∀ (s : Shared) (H : Hp) (D : Addr) (cl : List (Str × Addr)) (fp : List Addr) (S : Amb), PTs (X.blk s H scope (compEnvC scope cl D X.env) fp) ifs1 (VT X.K S C1))
    (he : ∀ (s : Shared) (H : Hp) (C : Addr) (cl : List (Str × Addr)) (fp : List Addr) (S : Amb), PDE (X.blk s H scope (compEnvC scope cl C X.env) fp) S elt E) (hs : ∀ x, foldedSetIterable iter X.env x = pure x := by intro _; rfl) (hs1 : ∀ env x, foldedSetIterable iter1 env x = pure x := by intro _ _; rfl) :
    PDE X S (.ListComp elt [⟨tg, iter, ifs, 0⟩, ⟨tg1, iter1, ifs1, 0⟩] scope pos) (eLC2 I T C I1 T1 C1 E (own.map (·.2)) vs1) :=
  (pe_lc2 hc hN hi ok hv (fun s H C cl fp => pgx (hg s H C cl fp)) (fun s H C cl fp => ptsx (ht s H C cl fp)) (fun s H C cl fp => pix (hi1 s H C cl fp)) (fun s H C cl fp => pgx (hg1 s H C cl fp)) (fun s H C cl fp => ptsx (ht1 s H C cl fp)) (fun s H C cl fp => ppx (he s H C cl fp)) hs hs1).weak fun σ H Q h => vp_lc2 hts hts1 h
theorem pds_setLc2 {i : Nat} {y : Str} {py spos : Pos} (hc : X.calm = true) (hN : X.N.Nodup) (hy : X.N[i]? = some y) (hyl : X.env.scope.names.lookup y = some .local)
    (hsw : swapsWith (.ListComp elt [⟨tg, iter, ifs, 0⟩, ⟨tg1, iter1, ifs1, 0⟩] scope pos) (some (.Name y py)) spos.line X.env = pure true) (hi : PDIP X S tg iter I) (ok : BlkOk X.N X.env.scope scope own) (hv : ∀ i ∈ vs1, i ∈ own.map (·.2)) (hts : ∀ i ∈ ts, i ∈ own.map (·.2)) (hts1 : ∀ i ∈ ts1, i ∈ vs1)
    (hg : ∀ (s : Shared) (H : Hp) (C : Addr) (cl : List (Str × Addr)) (fp : List Addr) (S : Amb), PDG (X.blk s H scope (compEnvC scope cl C X.env) fp) S tg ts T)
    (ht : ∀ (s : Shared) (H : Hp) (D : Addr) (cl : List (Str × Addr)) (fp : List Addr) (S : Amb), PTs (X.blk s H scope (compEnvC scope cl D X.env) fp) ifs (VT X.K S C))
    (hi1 : ∀ (s : Shared) (H : Hp) (D : Addr) (cl : List (Str × Addr)) (fp : List Addr) (S : Amb), PDI2 (X.blk s H scope (compEnvC scope cl D X.env) fp) S tg1 iter1 I1)
    (hg1 : ∀ (s : Shared) (H : Hp) (C : Addr) (cl : List (Str × Addr)) (fp : List Addr) (S : Amb), PDG (X.blk s H scope (compEnvC scope cl C X.env) fp) S tg1 ts1 T1)
    (ht1 : ∀ (s : Shared) (H : Hp) (D : Addr) (cl : List (Str × Addr)) (fp : List Addr) (S : Amb), PTs (X.blk s H scope (compEnvC scope cl D X.env) fp) ifs1 (VT X.K S C1))
    (he : ∀ (s : Shared) (H : Hp) (C : Addr) (cl : List (Str × Addr)) (fp : List Addr) (S : Amb), PDE (X.blk s H scope (compEnvC scope cl C X.env) fp) S elt E) (hs : ∀ x, foldedSetIterable iter X.env x = pure x := by intro _; rfl) (hs1 : ∀ env x, foldedSetIterable iter1 env x = pure x := by intro _ _; rfl) :
    PDS X S (.Assign [.Name y py] (.ListComp elt [⟨tg, iter, ifs, 0⟩, ⟨tg1, iter1, ifs1, 0⟩] scope pos) spos) (sSet i (mD (eLC2 I T C I1 T1 C1 E (own.map (·.2)) vs1))) :=
  (ps_setLc2 hc hN hy hyl hsw hi ok hv (fun s H C cl fp => pgx (hg s H C cl fp)) (fun s H C cl fp => ptsx (ht s H C cl fp)) (fun s H C cl fp => pix (hi1 s H C cl fp)) (fun s H C cl fp => pgx (hg1 s H C cl fp)) (fun s H C cl fp => ptsx (ht1 s H C cl fp)) (fun s H C cl fp => ppx (he s H C cl fp)) hs hs1).weak fun D σ H ⟨A, ρ, o, ρ', R, hf, k⟩ => by
    obtain ⟨⟨en, ρ1⟩, h1, hf⟩ := Option.map_eq_some_iff.mp hf
    cases hf
    obtain ⟨d, h2, h1⟩ := Option.map_eq_some_iff.mp h1
    cases h1
    exact vp_lc2 hts hts1 ⟨A, ρ, d, R, h2, fun v H' s q => k A _ H' (.of_same s) ((R.same s).put i q)⟩
end
end PD
end

section
set_option Elab.async false
set_option linter.all false
set_option maxRecDepth 100000
set_option maxHeartbeats 4000000
/-! # PD: list(enumerate(xs)) -/
namespace PD
open PySem PySem.Spec PyProof.Rows L2
namespace F
theorem en_no_len : typeLookup (.type "enumerate") "__len__" = pure none := by rw [typeLookup_type, builtinLookup_eq_fast]; kernel_rfl
theorem en_no_hint : typeLookup (.type "enumerate") "__length_hint__" = pure none := by rw [typeLookup_type, builtinLookup_eq_fast]; kernel_rfl
end F
/-- the enumerate object ahead of turn i -/
def EnSt (h : Heap) (e it : Addr) (i : Nat) : Prop := (∃ old, IsEnum h e it ((i : Nat) : Int) old) ∨ ∃ T f oT old, IsEnumHeld h e it ((i : Nat) : Int) old T f ∧ h.get? T = some oT ∧ T ≠ e ∧ T ≠ it
section
variable {prog : Program} {w : World} {A : Around} {E : Value → Shared → Prop} {s : Shared}
theorem EnSt.ty {e it : Addr} {i : Nat} (h : EnSt s.heap e it i) : s.TypeIs (.ref e) "enumerate" := by
  rcases h with ⟨old, h⟩ | ⟨T, f, oT, old, h, _⟩
  · exact ⟨_, h, rfl⟩
  · exact ⟨_, h, rfl⟩
theorem EnSt.lt {e it : Addr} {i : Nat} (h : EnSt s.heap e it i) : e < s.heap.objs.size := by
  rcases h with ⟨old, h⟩ | ⟨T, f, oT, old, h, _⟩
  · exact Heap.lt_size h
  · exact Heap.lt_size h
theorem en_item {e it l : Addr} {i : Nat} {items : Array Value} {x : Value} {Q : Option Value → Shared → Prop} (he : EnSt s.heap e it i) (hit : s.heap.IsListIter it l i) (hl : s.heap.IsList l items) (hx : items[i]? = some x) (hne : e ≠ it)
    (k : ∀ h', EnSt h' e it (i + 1) → h'.IsListIter it l (i + 1) → h'.get? s.heap.objs.size = some { cls := .type "tuple", data := .seq #[.int i s.toks, x] } → h'.objs.size = s.heap.objs.size + 1 →
      (∀ b o, b ≠ e → b ≠ it → s.heap.get? b = some o → h'.get? b = some o) → Q (some (.ref s.heap.objs.size)) { s with heap := h', toks := s.toks + 1 }) : wpAny (model prog w) A (pyNext (.ref e)) Q E s := by
  have hel := he.lt
  have hil : it < s.heap.objs.size := by obtain ⟨_, q, _⟩ := hit; exact Heap.lt_size q
  have e1 : ((i + 1 : Nat) : Int) = (i : Int) + 1 := by omega
  rcases he with ⟨old, he⟩ | ⟨T, f, oT, old, he, hT, n1, n2⟩
  · refine wpAny_pyNext_enum_item he hit hl hx hne fun h' a1 a2 a3 a4 a5 => k h' ?_ a2 a3 a4 a5
    exact .inr ⟨s.heap.objs.size, false, _, x, by rw [e1]; exact a1, a3, Nat.ne_of_gt hel, Nat.ne_of_gt hil⟩
  · refine wpAny_pyNext_enum_item_held he hT n1 n2 hit hl hx hne fun h' a1 a2 a3 a4 a5 => k h' ?_ a2 a3 a4 a5
    exact .inr ⟨T, true, oT, old, by rw [e1]; exact a1, a5 T oT n1 n2 hT, n1, n2⟩
theorem en_end {e it l : Addr} {i : Nat} {items : Array Value} {Q : Option Value → Shared → Prop} (hh : A.handled = none) (he : EnSt s.heap e it i) (hit : s.heap.IsListIter it l i) (hl : s.heap.IsList l items) (hx : items[i]? = none)
    (k : ∀ h', Heap.ExtBut it s.heap h' → Q none { s with heap := h' }) : wpAny (model prog w) A (pyNext (.ref e)) Q E s := by
  rcases he with ⟨old, he⟩ | ⟨T, f, oT, old, he, hT, n1, n2⟩
  · exact wpAny_pyNext_enum_end hh he hit hl hx k
  · exact wpAny_pyNext_enum_end_held hh he hit hl hx k
end
section
variable {X : Cx} {pins : List (Addr × Obj)} {σ : L2.St}
/-- what is made ahead of turn i -/
structure LeAt (H1 H : Hp) (S : Addr) (xs : List V) (i : Nat) : Prop where
  same : Same H1 H
  st : ∃ Ts : List Addr, H S = some (.lst (Ts.map V.ref)) ∧ Ts.length = i ∧ ∀ (j : Nat) (T : Addr), Ts[j]? = some T → ∃ x, xs[j]? = some x ∧ H1 T = none ∧ H T = some (.tup [.int (j : Nat), x])
theorem le_loop {A : Around} {R : Result → Shared → Prop} {H1 : Hp} {S e it a : Addr} {xs : List V} {res : Value} (hh : A.handled = none) (hS : H1 S = none) (hq : SqL X.K H1 a xs) (hne : e ≠ it) (hz : xs.length ≤ sizeLine)
    (hR : ∀ H' s', Inv X pins σ H' s' → LeAt H1 H' S xs xs.length → R (.ok (.ret res)) s') :
    ∀ (k i : Nat) (s : Shared) (H : Hp), xs.length - i = k → i ≤ xs.length → Inv X pins σ H s → LeAt H1 H S xs i → EnSt s.heap e it i → s.heap.IsListIter it a i → (∀ b ∈ [e, it], FpOk X pins H b) → codeAny (model X.prog X.w) A (.builtin "list.extend.loop" ⟨[.ref S, .ref e, res], []⟩) R s := by
  intro k
  induction k with
  | zero =>
    intro i s H hk hi I L he hit hf
    have e1 : i = xs.length := by omega
    subst e1
    refine codeAny_builtin PySem.F.entry_extend_loop ?_
    rw [Around.under_plainId PySem.F.plain_extend_loop _]
    obtain ⟨its, rv, p, hz'⟩ := I.list (sqL_same L.same hq)
    have hl := rv.length
    show wpAny _ A.in1 (pyNext (.ref e) >>= _) _ _ s
    obtain ⟨f0, f1, f2, f3, f4, f5⟩ := hf it (by simp)
    refine wpAny_bind (en_end hh he hit p.isList (by simp; omega) fun h' eb => wpAny_pure (hR H _ ?_ L))
    exact I.turned (t' := s.toks) (fun b o hb q => eb b o hb q) f0 f1 f3 f4 f5
  | succ k ih =>
    intro i s H hk hi I L he hit hf
    have hlt : i < xs.length := by omega
    refine codeAny_builtin PySem.F.entry_extend_loop ?_
    rw [Around.under_plainId PySem.F.plain_extend_loop _]
    obtain ⟨its, rv, p, hz'⟩ := I.list (sqL_same L.same hq)
    obtain ⟨u, hu, ru⟩ := rv.get (List.getElem?_eq_getElem hlt)
    have hel := he.lt
    have hil : it < s.heap.objs.size := by obtain ⟨_, q, _⟩ := id hit; exact Heap.lt_size q
    show wpAny _ A.in1 (pyNext (.ref e) >>= _) _ _ s
    refine wpAny_bind (en_item he hit p.isList (x := u) (by simpa using hu) hne fun h' he' hit' hT hsz hk' => ?_)
    have new : ObjOk X.prog X.w (upd H s.heap.objs.size (.tup [.int (i : Nat), xs[i]])) h' s.heap.objs.size (.tup [.int (i : Nat), xs[i]]) := ⟨by show 2 ≤ sizeLine; decide, [.int i s.toks, u], .cons ⟨_, rfl⟩ (.cons ru .nil), ⟨_, hT, rfl, _, rfl⟩⟩
    have I1 : Inv X pins σ (upd H s.heap.objs.size (.tup [.int (i : Nat), xs[i]])) { s with heap := h', toks := s.toks + 1 } := I.turnedNew (ch := [e, it]) (fun b ob hb q => hk' b ob (fun z => hb (by simp [z])) (fun z => hb (by simp [z])) q) hf (Nat.le_refl _) new
    have nT : H s.heap.objs.size = none := I.hok.fresh (Nat.le_refl _)
    obtain ⟨Ts, l1, l2, l3⟩ := L.st
    have hST : S ≠ s.heap.objs.size := fun z => by rw [← z, l1] at nT; cases nT
    have l1' : (upd H s.heap.objs.size (.tup [.int (i : Nat), xs[i]])) S = some (.lst (Ts.map V.ref)) := by rw [upd_ne hST]; exact l1
    obtain ⟨hz2, its2, n2, ri2, eS⟩ := I1.hok S _ l1'
    show wpAny _ A.in1 (updateSeq S (·.push (.ref s.heap.objs.size)) >>= _) _ _ _
    refine wpAny_bind ?_
    have hl2 := ri2.length
    rw [List.length_map] at hl2
    refine wpAny_updateSeq eS rfl (wpAny_pure ⟨plainId_quiet PySem.F.plain_extend_loop _, ?_⟩) (by rw [List.size_toArray]; omega) (by show (its2.toArray.push _).size ≤ sizeLine + 1; rw [Array.size_push, List.size_toArray]; omega)
    have hu2 := Heap.get?_update_self (Obj.mapSeq (·.push (Value.ref s.heap.objs.size))) eS rfl
    have I2 : Inv X pins σ (upd (upd H s.heap.objs.size (.tup [.int (i : Nat), xs[i]])) S (.lst (Ts.map V.ref ++ [.ref s.heap.objs.size]))) { s with heap := h'.update S (Obj.mapSeq (·.push (Value.ref s.heap.objs.size))), toks := s.toks + 1 } := by
      refine I1.write (t' := s.toks + 1) (by rw [l1']; trivial) (.inl rfl) (fun b u hb q => (Heap.get?_update_other _ _ (Ne.symm hb)).trans q) ⟨_, hu2⟩ ⟨by rw [List.length_append, List.length_map]; simp; omega, its2 ++ [.ref s.heap.objs.size], n2 + 1, ri2.append (.cons (show L2.RelV (V.ref s.heap.objs.size) (Value.ref s.heap.objs.size) from rfl) .nil), ?_⟩
      rw [hu2]
      simp [Obj.mapSeq]
    have stay : ∀ b ∈ [e, it], ∀ o, h'.get? b = some o → (h'.update S (Obj.mapSeq (·.push (Value.ref s.heap.objs.size)))).get? b = some o := fun b hb o q => (Heap.get?_update_other _ _ (fun z => by
      have := (hf b hb).1
      rw [← z, l1] at this
      cases this)).trans q
    refine ih (i + 1) _ _ (by omega) hlt I2 ⟨fun b o q => ?_, Ts ++ [s.heap.objs.size], by rw [upd_same, List.map_append]; rfl, by rw [List.length_append, l2]; rfl, fun j T hj => ?_⟩ ?_ (hit'.at fun o q => stay it (by simp) o q) (fun b hb => ?_)
    · have n1 : b ≠ S := fun z => by rw [z, hS] at q; cases q
      have q2 := L.same b o q
      rw [upd_ne n1, upd_ne (fun z => by rw [z, nT] at q2; cases q2)]
      exact q2
    · have cs : (j < i ∧ Ts[j]? = some T) ∨ (j = i ∧ T = s.heap.objs.size) := by
        by_cases hj2 : j < Ts.length
        · rw [List.getElem?_append_left hj2] at hj
          exact .inl ⟨by omega, hj⟩
        · rw [List.getElem?_append_right (by omega)] at hj
          have : j - Ts.length = 0 := by
            by_cases z : j - Ts.length = 0
            · exact z
            · rw [List.getElem?_eq_none (by simp; omega)] at hj; cases hj
          rw [this] at hj
          exact .inr ⟨by omega, by simpa using hj.symm⟩
      rcases cs with ⟨h1, h2⟩ | ⟨h1, h2⟩
      · obtain ⟨x, g1, g0, g2⟩ := l3 j T h2
        refine ⟨x, g1, g0, ?_⟩
        rw [upd_ne (fun z => by rw [z, l1] at g2; cases g2), upd_ne (fun z => by rw [z, nT] at g2; cases g2)]
        exact g2
      · subst h1 h2
        exact ⟨_, List.getElem?_eq_getElem hlt, same_back L.same nT, by rw [upd_ne (Ne.symm hST), upd_same]⟩
    · rcases he' with ⟨old, he'⟩ | ⟨T, f, oT, old, he', hT', n1, n2⟩
      · exact .inl ⟨old, stay e (by simp) _ he'⟩
      · by_cases z : T = S
        · subst z
          exact .inr ⟨T, f, _, old, stay e (by simp) _ he', hu2, n1, n2⟩
        · exact .inr ⟨T, f, oT, old, stay e (by simp) _ he', (Heap.get?_update_other _ _ (Ne.symm z)).trans hT', n1, n2⟩
    · obtain ⟨f0, f1, f2, f3, f4, f5⟩ := hf b hb
      have lt : b < s.heap.objs.size := by
        have e' : b = e ∨ b = it := by simpa using hb
        rcases e' with z | z
        · rw [z]; exact hel
        · rw [z]; exact hil
      refine ⟨?_, f1, f2, f3, f4, f5⟩
      rw [upd_ne (fun z => by rw [z, l1] at f0; cases f0), upd_ne (Nat.ne_of_lt lt)]
      exact f0
def tListEnum (K : PySem.W.Frag) (te : TE) : TE := fun σ H Q => te σ H fun v H1 => ∃ a xs, v = .ref a ∧ SqL K H1 a xs ∧ xs.length ≤ lim ∧ ∀ S H', H1 S = none → LeAt H1 H' S xs xs.length → Q (.ref S) H'
theorem pe_listEnum {p pos p2 pos2 : Pos} {e : Expr} {te : TE} (hc : X.calm = true) (hg : Gl X "list") (hm : X.mg "list" = none) (hg2 : Gl X "enumerate") (hm2 : X.mg "enumerate" = none) (he : PE X e te) (na : starEach [e] X.env = (false, eval e X.env) :: starEach [] X.env := by rfl)
    (nb : starEach [.Call (.Name "enumerate" p2) [e] [] pos2] X.env = (false, eval (.Call (.Name "enumerate" p2) [e] [] pos2) X.env) :: starEach [] X.env := by rfl) : PE X (.Call (.Name "list" p) [.Call (.Name "enumerate" p2) [e] [] pos2] [] pos) (tListEnum X.K te) := by
  refine ⟨fun pins s σ H Q I h => ?_⟩
  have ll := lim_line
  refine Call_ (ld_blt I hg hm boot_list (PyProof.Rows.callWith_type1 (args_cons (Call_ (ld_blt I hg2 hm2 boot_enumerate (PyProof.Rows.callWith_type1 (args_cons (thn (he.run pins s σ H _ I h) fun u s1 ⟨x, H1, I1, r1, q1⟩ => args_nil ?_) na) na))) nb) nb))
  obtain ⟨a, xs, ex, hq, hz, q⟩ := q1
  subst ex
  cases r1
  obtain ⟨its, rv, p', hz2⟩ := I1.list hq
  refine call_enumerate_list p'.isList fun h' he hit hsz hk => args_nil ?_
  have hh := I1.ok.hd hc
  have I2 : Inv X pins σ H1 { s1 with heap := h' } := I1.kept (t' := s1.toks) hk
  have nA : ∀ b, s1.heap.objs.size ≤ b → FpOk X pins H1 b := fun b hb => I1.fpOk hb (I1.hok.fresh hb)
  -- the list
  generalize hS : h'.objs.size = S
  have nS : H1 S = none := I2.hok.fresh (Nat.le_of_eq hS)
  have I3 : Inv X pins σ (upd H1 S (.lst [])) { s1 with heap := h'.push { cls := .type "list", data := .seq #[] } } := by
    refine I2.laid (t' := s1.toks) (fun b o e => Heap.get?_push_of_some _ e) (Nat.le_of_eq hS) ⟨Nat.zero_le _, [], 0, .nil, ?_⟩
    rw [← hS]
    exact Heap.get?_push_size _ rfl
  have gS : (h'.push { cls := .type "list", data := .seq #[] }).get? S = some { cls := .type "list", data := .seq #[] } := by rw [← hS]; exact Heap.get?_push_size _ rfl
  refine callType_codes (Q₁ := fun obj s2 => obj = .ref S ∧ s2 = { s1 with heap := h'.push { cls := .type "list", data := .seq #[] } }) PySem.F.called_list (PySem.F.typeCall_list_1 _) PySem.F.entry_list_init
    (code_list_new _ ⟨by rw [← hS], rfl⟩) fun obj s2 h2 => ?_
  obtain ⟨rfl, rfl⟩ := h2
  refine ⟨⟨_, gS, rfl⟩, PySem.F.args_list_init_2 _ _, ?_⟩
  show wpAny _ X.A.in1.in1 (do let old ← Builtin.List.listItems (.ref S); Builtin.List.listUpdate (.ref S) (fun _ => #[]); letGo old.toList.reverse; Builtin.List.listExtendWith (.ref S) (.ref _) .none) _ _ _
  refine wpAny_bind ?_
  unfold Builtin.List.listItems
  refine wpAny_bind (wpAny_seqItems gS rfl (wpAny_pure ?_))
  show wpAny _ X.A.in1.in1 (updateSeq S (fun _ => #[]) >>= fun _ => letGo (#[] : Array Value).toList.reverse >>= fun _ => Builtin.List.listExtendWith (.ref S) (.ref _) .none) _ _ _
  refine wpAny_bind (wpAny_updateSeq gS rfl ?_)
  have gS2 := Heap.get?_update_self (Obj.mapSeq (fun _ => (#[] : Array Value))) gS rfl
  refine wpAny_bind (wpAny_letGo ?_)
  have old : ∀ b o, h'.get? b = some o → b ≠ S := fun b o e z => by
    have := Heap.lt_size e
    rw [z, ← hS] at this
    exact Nat.lt_irrefl _ this
  have up : ∀ (g : Heap) (f : Obj → Obj) (b : Addr) (o : Obj), b ≠ S → g.get? b = some o → (g.update S f).get? b = some o := fun g f b o n e => (Heap.get?_update_other _ _ (Ne.symm n)).trans e
  have ne1 : s1.heap.objs.size + 1 ≠ S := fun z => by
    have := Heap.lt_size he
    rw [z, ← hS] at this
    exact Nat.lt_irrefl _ this
  have ne0 : s1.heap.objs.size ≠ S := by omega
  have en2 : IsEnum ((h'.push { cls := .type "list", data := .seq #[] }).update S (Obj.mapSeq (fun _ => (#[] : Array Value)))) (s1.heap.objs.size + 1) s1.heap.objs.size 0 .none := up _ _ _ _ ne1 (Heap.get?_push_of_some _ he)
  unfold Builtin.List.listExtendWith
  refine wpAny_bind (wpAny_typeOf (T := "enumerate") ⟨_, en2, rfl⟩ ?_)
  have q1 : Builtin.List.listSameRef (.ref S) (.ref (s1.heap.objs.size + 1)) = false := by show (S == s1.heap.objs.size + 1) = false; exact beq_false_of_ne (Ne.symm ne1)
  have q2 : (Value.type "enumerate" == Value.type "list") = false := by decide
  have q3 : (Value.type "enumerate" == Value.type "tuple") = false := by decide
  simp only [q1, q2, q3, Bool.or_false, Bool.false_eq_true, if_false]
  refine wpAny_bind (wpAny_pyIter_enum en2 ?_)
  refine wpAny_bind (wpAny_holding ?_)
  unfold Builtin.List.listLengthHint
  refine wpAny_bind (wpAny_specialOf (T := "enumerate") ⟨_, en2, rfl⟩ F.en_no_len ?_)
  show wpAny _ _ (specialOf (Value.ref _) (Str.ofString "__length_hint__") >>= _) _ _ _
  refine wpAny_bind (wpAny_specialOf (T := "enumerate") ⟨_, en2, rfl⟩ F.en_no_hint ?_)
  refine wpAny_pure ?_
  show wpAny _ _ (rule "list.extend.makes-room" >>= fun _ => Builtin.List.listTouch (.ref S) >>= fun _ => again (.builtin "list.extend.loop" ⟨[.ref S, .ref (s1.heap.objs.size + 1), .none], []⟩)) _ _ _
  refine wpAny_bind (wpAny_rule (wpAny_bind ?_))
  show wpAny _ _ (updateSeq S (·.push .none) >>= fun _ => updateSeq S (·.pop)) _ _ _
  refine wpAny_bind (wpAny_updateSeq gS2 rfl ?_)
  have gS3 := Heap.get?_update_self (Obj.mapSeq (·.push Value.none)) gS2 rfl
  refine wpAny_updateSeq (hz := by seq_fits) gS3 rfl ?_
  have gS4 := Heap.get?_update_self (Obj.mapSeq (·.pop)) gS3 rfl
  have kp : ∀ b o, h'.get? b = some o → ((((h'.push { cls := .type "list", data := .seq #[] }).update S (Obj.mapSeq (fun _ => (#[] : Array Value)))).update S (Obj.mapSeq (·.push Value.none))).update S (Obj.mapSeq (·.pop))).get? b = some o := fun b o e =>
    up _ _ _ _ (old b o e) (up _ _ _ _ (old b o e) (up _ _ _ _ (old b o e) (Heap.get?_push_of_some _ e)))
  generalize hg4 : (((h'.push { cls := .type "list", data := .seq #[] }).update S (Obj.mapSeq (fun _ => (#[] : Array Value)))).update S (Obj.mapSeq (·.push Value.none))).update S (Obj.mapSeq (·.pop)) = g4 at gS4 kp
  have I4 : Inv X pins σ (upd H1 S (.lst [])) { s1 with heap := g4 } := by
    obtain ⟨c, gc⟩ : ∃ c, g4.get? S = some { cls := .type "list", data := .seq ([] : List Value).toArray c } := ⟨_, gS4⟩
    exact I2.laid (t' := s1.toks) kp (Nat.le_of_eq hS) ⟨Nat.zero_le _, [], c, .nil, gc⟩
  refine wpAny_pure ⟨plainId_quiet PySem.F.plain_extend_loop _, ?_⟩
  refine le_loop (A := X.A.in1) (R := wants (fun r s₂ => r = Value.none ∧ EP X pins σ Q (Value.ref S) s₂) X.xe) (res := .none) (X := X) (pins := pins) (σ := σ) (H1 := H1) (S := S) (a := a) (xs := xs) hh nS hq (Nat.succ_ne_self _) (by omega) (fun H' s' I' L' => ⟨rfl, ?_⟩) xs.length 0 _ _ (by omega) (Nat.zero_le _) I4 ⟨same_new nS, [], upd_same, rfl, fun j T hj => by simp at hj⟩ (.inl ⟨.none, kp _ _ he⟩) (hit.at fun o q => kp _ o q) (fun b hb => ?_)
  · exact ⟨.ref S, H', I', rfl, q S H' nS L'⟩
  · have hle : s1.heap.objs.size ≤ b := by
      simp only [List.mem_cons, List.not_mem_nil, or_false] at hb
      rcases hb with z | z <;> rw [z] <;> first | exact Nat.le_refl _ | exact Nat.le_succ _
    obtain ⟨f0, f1, f2, f3, f4, f5⟩ := nA b hle
    refine ⟨?_, f1, f2, f3, f4, f5⟩
    rw [upd_ne (fun z => ?_)]
    · exact f0
    · simp only [List.mem_cons, List.not_mem_nil, or_false] at hb
      rcases hb with w | w
      · exact ne1 (w.symm.trans z)
      · exact ne0 (w.symm.trans z)
end
section
variable {X : Cx} {S : Amb} {K : PySem.W.Frag} {A : Addr → Prop} {H H' : Hp} {e a b c tg : Expr} {es : List Expr} {pos p p2 pos2 : Pos} {F G : Rho → Option PyData} {L : Rho → Option (List PyData)}
/-- [(0, x), (1, y), ..] -/
def dEnum : PyData → Option PyData
  | .list xs => some (.list (enumD xs))
  | _ => none
theorem pd_listEnum (hc : X.calm = true) (hg : Gl X "list") (hm : X.mg "list" = none) (hg2 : Gl X "enumerate") (hm2 : X.mg "enumerate" = none) (ha : PDE X S a F) (na : starEach [a] X.env = (false, eval a X.env) :: starEach [] X.env := by rfl)
    (nb : starEach [.Call (.Name "enumerate" p2) [a] [] pos2] X.env = (false, eval (.Call (.Name "enumerate" p2) [a] [] pos2) X.env) :: starEach [] X.env := by rfl) :
    PDE X S (.Call (.Name "list" p) [.Call (.Name "enumerate" p2) [a] [] pos2] [] pos) (eUn dEnum F) := (pe_listEnum hc hg hm hg2 hm2 ha na nb).weak fun σ H Q ⟨A, ρ, z, R, hf, k⟩ => by
  obtain ⟨d, h1, hf⟩ := bind_some hf
  refine ⟨A, ρ, d, R, h1, fun v H1 s1 q1 => ?_⟩
  unfold dEnum at hf
  split at hf
  · rename_i ds
    cases hf
    cases q1 with
    | lst g a1 z1 =>
      refine ⟨_, _, rfl, SqL.of (er_some.mp g).2, by rw [a1.length]; exact z1, fun D H' nD Le => ?_⟩
      obtain ⟨Ts, l1, l2, l3⟩ := Le.st
      have lv := live_same s1 R.live
      have nA : ∀ T, H1 T = none → ¬ A T := fun T h z => lv T z h
      have es : Same (er A H1) (er A H') := er_same Le.same
      refine k _ H' (s1.trans Le.same) (.lst (er_some.mpr ⟨nA D nD, l1⟩) (DqAll.of_getV (by rw [List.length_map, l2, enumD_len, a1.length]) fun j v d hv hd => ?_) (by rw [enumD_len]; exact z1))
      rw [List.getElem?_map] at hv
      obtain ⟨T, hT, rfl⟩ := Option.map_eq_some_iff.mp hv
      obtain ⟨x, g1, g0, g2⟩ := l3 j T hT
      rw [enumD_get] at hd
      obtain ⟨d0, hd0, rfl⟩ := Option.map_eq_some_iff.mp hd
      obtain ⟨y, hy, qy⟩ := a1.get hd0
      rw [g1] at hy
      cases hy
      exact .tup (SqT.of (er_some.mpr ⟨nA T g0, g2⟩)) (.cons (.int _) (.cons (qy.mono es) .nil)) (by show 2 ≤ 1000000; decide)
  · cases hf
end
end PD
end

section
set_option Elab.async false
set_option linter.all false
set_option maxRecDepth 100000
set_option maxHeartbeats 3200000
/-! # PD 13: more of ints and lists; what draws -/
namespace PD
open PySem PySem.Spec PyProof.Rows L2
section
variable {X : Cx} {S : Amb} {K : PySem.W.Frag} {A A' : Addr → Prop} {H H' : Hp} {e a b c tg : Expr} {es : List Expr} {pos p p2 pos2 : Pos} {F G : Rho → Option PyData} {L : Rho → Option (List PyData)} {M N : Rho → Option (Ent × Rho)} {LM : Rho → Option (List PyData × Rho)}
/-! ### int(x), max(i, j), min(i, j), sum(xs), x.bit_length(), i ** j -/
def dInt1 : List PyData → Option PyData
  | [.int i] => some (.int i)
  | [.bool b] => some (.int (if b then 1 else 0))
  | _ => none
theorem rcd_int1 : RCD K (fun xs H Q => (∃ i, xs = [.int i] ∧ Q (.int i) H) ∨ ∃ k, xs = [.bl k] ∧ Q (.int (if k then 1 else 0)) H) dInt1 := by
  intro A H xs ds z lv q hf Q k
  unfold dInt1 at hf
  split at hf
  · cases hf
    cases q with
    | cons q1 q2 => cases q2; cases q1; exact .inl ⟨_, rfl, k _ H (Same.refl H) (.int _)⟩
  · cases hf
    cases q with
    | cons q1 q2 => cases q2; cases q1; exact .inr ⟨_, rfl, k _ H (Same.refl H) (.int _)⟩
  · cases hf
def dMax2 : List PyData → Option PyData
  | [.int i, .int j] => some (.int (if j > i then j else i))
  | _ => none
theorem rcd_max2 : RCD K (fun xs H Q => ∃ i j, xs = [.int i, .int j] ∧ Q (.int (if j > i then j else i)) H) dMax2 := by
  intro A H xs ds z lv q hf Q k
  unfold dMax2 at hf
  split at hf
  · cases hf
    cases q with
    | cons q1 q2 =>
      cases q2 with
      | cons q2 q3 => cases q3; cases q1; cases q2; exact ⟨_, _, rfl, k _ H (Same.refl H) (.int _)⟩
  · cases hf
def dMin2 : List PyData → Option PyData
  | [.int i, .int j] => some (.int (if j < i then j else i))
  | _ => none
theorem rcd_min2 : RCD K (fun xs H Q => ∃ i j, xs = [.int i, .int j] ∧ Q (.int (if j < i then j else i)) H) dMin2 := by
  intro A H xs ds z lv q hf Q k
  unfold dMin2 at hf
  split at hf
  · cases hf
    cases q with
    | cons q1 q2 =>
      cases q2 with
      | cons q2 q3 => cases q3; cases q1; cases q2; exact ⟨_, _, rfl, k _ H (Same.refl H) (.int _)⟩
  · cases hf
def dSum : List PyData → Option PyData
  | [.list xs] => (intsOf xs).map fun ns => .int ns.sum
  | _ => none
theorem rcd_sum : RCD K (rSum K) dSum := by
  intro A H xs ds z lv q hf Q k
  unfold dSum at hf
  split at hf
  · obtain ⟨ns, h1, rfl⟩ := Option.map_eq_some_iff.mp hf
    cases q with
    | cons q1 q2 =>
      cases q2
      cases q1 with
      | lst g a1 z1 =>
        refine ⟨_, ns, rfl, ?_, k _ H (Same.refl H) (.int _)⟩
        rw [← intsOf_vs h1 a1]
        exact SqL.of (er_some.mp g).2
  · cases hf
def dBits : PyData → Option PyData
  | .int i => some (.int (Builtin.Int.intBits i : Nat))
  | _ => none
theorem pd_bits {apos : Pos} (ha : PDE X S a F) (hbase : attributeBase a "bit_length" X.env (eval a X.env) = eval a X.env := by rfl) (hline : (apos.endLine == pos.line) = true := by rfl) : PDE X S (.Call (.Attribute a "bit_length" apos) [] [] pos) (eUn dBits F) :=
  (pe_bits ha hbase hline).weak fun σ H Q ⟨A, ρ, z, R, hf, k⟩ => by
    obtain ⟨d, h1, hf⟩ := bind_some hf
    unfold dBits at hf
    split at hf
    · cases hf
      refine ⟨A, ρ, _, R, h1, fun v H1 s1 q1 => ?_⟩
      cases q1
      exact ⟨_, rfl, k _ H1 s1 (.int _)⟩
    · cases hf
def CPowD (i j : Int) : Prop := 0 ≤ j ∧ (Builtin.Int.intBits i : Int) * j ≤ 2 ^ 27
instance (i j : Int) : Decidable (CPowD i j) := by unfold CPowD; infer_instance
theorem op_powD : OpR X (binaryOp .Pow) (rI CPowD fun i j => .int (i ^ j.toNat)) := opI fun _ _ _ _ _ _ _ hc q => pow_int hc.1 hc.2 q
abbrev dPow : PyData → PyData → Option PyData := dI2 fun i j => if CPowD i j then some (.int (i ^ j.toNat)) else none
theorem pd_pow (ha : PDE X S a F) (hb : PDE X S b G) : PDE X S (.BinOp a .Pow b pos) (eBin dPow F G) := pd_bin op_powD (rd_I fun _ _ _ => .int _) ha hb
/-! ### xs[::-1] -/
def dRev : PyData → Option PyData
  | .list xs => some (.list xs.reverse)
  | _ => none
theorem vals_rev : ∀ {vs : List V} {us : List Value}, Vals vs us → Vals vs.reverse us.reverse
  | _, _, .nil => .nil
  | _, _, .cons h t => by rw [List.reverse_cons, List.reverse_cons]; exact (vals_rev t).append (.cons h .nil)
def tRev (K : PySem.W.Frag) (te : TE) : TE := fun σ H Q => te σ H fun v H1 => ∃ l xs, v = .ref l ∧ SqL K H1 l xs ∧ ∀ q, H1 q = none → Q (.ref q) (upd H1 q (.lst xs.reverse))
theorem pe_rev {st : Expr} {te : TE} (he : PE X e te) (hs : PE X st (tC (.int (-1)))) : PE X (.Subscript e (.Slice none none (some st) p2) pos) (tRev X.K te) := by
  refine ⟨fun pins s σ H Q I h => ?_⟩
  refine Subscript_ (thn (he.run pins s σ H _ I h) fun v s1 ⟨x, H1, I1, r1, q1⟩ => ?_)
  obtain ⟨l, xs, ex, hx, q⟩ := q1
  subst ex
  cases r1
  refine wpAny_Slice (thn (po_none.run pins s1 σ H1 (fun b H => H = H1 ∧ b = none) I1 ⟨rfl, rfl⟩) fun vl s2 ⟨b1, H2, I2, pl, e1, e2⟩ => ?_)
  subst e1 e2
  refine thn (po_none.run pins s2 σ H2 (fun b H => H = H2 ∧ b = none) I2 ⟨rfl, rfl⟩) fun vu s3 ⟨b2, H3, I3, pu, e3, e4⟩ => ?_
  subst e3 e4
  refine thn ((po_some hs).run pins s3 σ H3 (fun b H => H = H3 ∧ b = some (-1)) I3 ⟨_, rfl, rfl, rfl⟩) fun vt s4 ⟨b3, H4, I4, pt, e5, e6⟩ => ?_
  subst e5 e6
  obtain ⟨its, r, ht, hz⟩ := I4.list hx
  have I5 : Inv X pins σ H4 { s4 with heap := s4.heap.push { cls := .type "slice", data := .fields #[vl, vu, vt] } } := I4.kept (t' := s4.toks) fun b ob q => Heap.get?_push_of_some _ q
  obtain ⟨its2, r2, ht2, hz2⟩ := I5.list hx
  have hlen := r2.length
  have hg : wpAny (model X.prog X.w) X.A (getItem (.ref l) (.ref s4.heap.objs.size)) (EP X pins σ Q) X.xe { s4 with heap := s4.heap.push { cls := .type "slice", data := .fields #[vl, vu, vt] } } := by
    refine wpAny_getItem_list_slice ht2.isList (Heap.IsSliceOf.new ..) pl pu pt (by simp) ?_ (by rw [List.size_toArray] <;> omega)
    rw [PySem.W.krv_pick]
    refine ⟨.ref _, _, I5.laid (o := .lst xs.reverse) (fun b ob q => Heap.get?_push_of_some _ q) (Nat.le_refl _) ?_, rfl, q _ (I5.hok.fresh (Nat.le_refl _))⟩
    exact ⟨by rw [List.length_reverse]; exact hz, _, 0, vals_rev r2, Heap.get?_push_size _ rfl⟩
  show wpAny (model X.prog X.w) X.A (subscriptTail e (.Slice none none (some st) p2) (.ref l) (.ref s4.heap.objs.size)) (EP X pins σ Q) X.xe { s4 with heap := s4.heap.push { cls := .type "slice", data := .fields #[vl, vu, vt] } }
  exact tail_any (ops := [.ref l, .ref s4.heap.objs.size]) ht2.isList.typeIs slot_list_getitem.lookup hg (by with_unfolding_all rfl)
theorem pd_rev {st : Expr} (ha : PDE X S a F) (hs : PE X st (tC (.int (-1)))) : PDE X S (.Subscript a (.Slice none none (some st) p2) pos) (eUn dRev F) := (pe_rev ha hs).weak fun σ H Q ⟨A, ρ, z, R, hf, k⟩ => by
  obtain ⟨d, h1, hf⟩ := bind_some hf
  unfold dRev at hf
  split at hf
  · cases hf
    refine ⟨A, ρ, _, R, h1, fun v H1 s1 q1 => ?_⟩
    cases q1 with
    | lst g a1 z1 => exact ⟨_, _, rfl, SqL.of (er_some.mp g).2, fun q hq => k _ _ (s1.trans (same_new hq)) (.lst (er_new hq (live_same s1 R.live)) (a1.reverse.refl_same (same_new hq)) (by rw [List.length_reverse]; exact z1))⟩
  · cases hf
theorem pe_neg1 {p1 p3 : Pos} {k : Nat} : PE X (.UnaryOp .USub (.Constant (.int 1) k p1) p3) (tC (.int (-1))) := (pe_un un_neg pe_int).weak fun σ H Q h => ⟨_, rfl, h⟩
/-! ### calls with drawn arguments -/
theorem vm_call {r : List V → Hp → VK → Prop} {f : List PyData → Option PyData} (hr : RCD K r f) {σ : L2.St} {Q : VK} (h : VM K S (fun ρ => (LM ρ).bind fun q => (f q.1).map fun d => (.dat d, q.2)) σ H Q) : tCB r (VAM K S LM) σ H Q := by
  obtain ⟨A, ρ, en, ρ', R, hf, k⟩ := h
  obtain ⟨⟨ds, ρ1⟩, g1, hf⟩ := bind_some hf
  obtain ⟨d, g2, hf⟩ := Option.map_eq_some_iff.mp hf
  cases hf
  exact ⟨A, ρ, ds, _, R, g1, fun A1 vs H1 s1 R1 q1 => hr A1 H1 vs ds d R1.live q1 g2 Q fun v H2 s2 q2 => k A1 v H2 (s1.trans (.of_same s2)) (R1.same s2) q2⟩
def mCall (f : List PyData → Option PyData) (LM : Rho → Option (List PyData × Rho)) : Rho → Option (Ent × Rho) := fun ρ => (LM ρ).bind fun q => (f q.1).map fun d => (.dat d, q.2)
theorem pm_callT {x : Str} {T : String} {r : List V → Hp → VK → Prop} {f : List PyData → Option PyData} (hc : CallR X (.type T) r) (hr : RCD X.K r f) (hg : Gl X x) (hm : X.mg x = none) (hv : bootBuiltins x = some (.type T)) (ha : PDAM X S (e :: es) LM)
    (hn : x ≠ "__name__" := by decide) (hdb : (x == ("__debug__" : Str)) = false := by decide) (he : starEach (e :: es) X.env = (false, eval e X.env) :: starEach es X.env := by rfl) (hpl : (backTo pos (starEach es X.env)).any (·.1) = false := by rfl) :
    PDM X S (.Call (.Name x p) (e :: es) [] pos) (mCall f LM) := (pe_callTy hc hg hm hv ha hn hdb he hpl).weak fun σ H Q h => vm_call hr h
theorem pm_callB {x : Str} {id : String} {r : List V → Hp → VK → Prop} {f : List PyData → Option PyData} (hc : CallR X (.builtin id) r) (hr : RCD X.K r f) (hg : Gl X x) (hm : X.mg x = none) (hv : bootBuiltins x = some (.builtin id)) (ha : PDAM X S (e :: es) LM)
    (hn : x ≠ "__name__" := by decide) (hdb : (x == ("__debug__" : Str)) = false := by decide) (he : starEach (e :: es) X.env = (false, eval e X.env) :: starEach es X.env := by rfl) (hpl : (backTo pos (starEach es X.env)).any (·.1) = false := by rfl) :
    PDM X S (.Call (.Name x p) (e :: es) [] pos) (mCall f LM) := (pe_callB hc hg hm hv ha hn hdb he hpl).weak fun σ H Q h => vm_call hr h
/-- for .. in range(M) -/
def mRange1 (M : Rho → Option (Ent × Rho)) : Rho → Option (List PyData × Rho) := fun ρ => (M ρ).bind fun q => match q.1 with
  | .dat (.int n) => if n ≤ 1000000 ∧ -1000000 ≤ n then some (rng 0 n.toNat, q.2) else none
  | _ => none
theorem pdim_range1 (hg : Gl X "range") (hm : X.mg "range" = none) (h : PDM X S a M) (hs : starEach [a] X.env = [(false, eval a X.env)] := by rfl) : PDIM X S tg (.Call (.Name "range" p) [a] [] pos) (mRange1 M) :=
  (pi_range1 hg hm (pam_cons h pam_nil (by rw [hs]; rfl)) hs).weak fun σ H R ⟨A, ρ, ds, ρ', Re, hf, k⟩ => by
    obtain ⟨⟨en, ρ1⟩, h1, hf⟩ := bind_some hf
    split at hf
    · rename_i n hn
      split at hf
      · rename_i hz
        cases hf
        simp only at hn
        subst hn
        refine ⟨A, ρ, [.int n], ρ1, Re, by unfold mCons; rw [h1]; rfl, fun A1 vs H1 s1 R1 q1 => ?_⟩
        cases q1 with
        | cons q1 q2 =>
          cases q2
          cases q1
          exact ⟨_, rfl, by omega, by omega, k A1 _ H1 s1 R1 (by rw [rng_len]; show _ ≤ 1000000; omega) src_range⟩
      · cases hf
    · cases hf
/-- a loop over what draws: xs, drawn -/
def mLst1 (M : Rho → Option (Ent × Rho)) : Rho → Option (List PyData × Rho) := fun ρ => (M ρ).bind fun q => match q.1 with
  | .dat (.list ds) => some (ds, q.2)
  | _ => none
theorem pdim_list (h : PDM X S e M) : PDIM X S tg e (mLst1 M) := (pi_list h).weak fun σ H R ⟨A, ρ, ds, ρ', Re, hf, k⟩ => by
  obtain ⟨⟨en, ρ1⟩, h1, hf⟩ := bind_some hf
  split at hf
  · rename_i ds' hn
    cases hf
    simp only at hn
    subst hn
    refine ⟨A, ρ, _, _, Re, h1, fun A1 v H1 s1 R1 q1 => ?_⟩
    cases q1 with
    | lst g a1 z1 =>
      have g' := er_some.mp g
      exact ⟨_, rfl, ⟨_, SqL.of g'.2⟩, k A1 _ H1 s1 R1 z1 (src_list g'.2 g'.1 a1)⟩
  · cases hf
end
end PD
end

section
set_option Elab.async false
set_option linter.all false
set_option maxRecDepth 100000
set_option maxHeartbeats 3200000
/-! # PD 14: functions that hand back a new list -/
namespace PD
open PySem PySem.Spec PyProof.Rows L2
def VF (K : PySem.W.Frag) (S : Amb) (F : Rho → Option (List PyData)) : TS := fun D σ H => ∃ (A : Addr → Prop) (ρ : Rho) (ds : List PyData), Rel K A S ρ σ H ∧ F ρ = some ds ∧
  ∀ A' p vs H', SStep A S H A' H' → (∀ a, S.S a → A' a) → A' p → ¬ S.S p → H' p = some (.lst vs) → DqAll K (er A' H') vs ds → ds.length ≤ lim → D.rt (.ref p) H'
section
variable {X : Cx} {S : Amb} {K : PySem.W.Frag} {A A' : Addr → Prop} {H H' : Hp} {e a b c tg : Expr} {es : List Expr} {pos p : Pos} {F G : Rho → Option PyData} {L : Rho → Option (List PyData)} {st : Stmt} {sts : List Stmt} {B C : SF}
def fRet (M : Rho → Option (Ent × Rho)) : Rho → Option (List PyData) := fun ρ => (M ρ).bind fun q => match q.1 with
  | .own _ ds => some ds
  | _ => none
theorem pdf_ret {M : Rho → Option (Ent × Rho)} (h : PDM X S e M) : PSs X [.Return (some e) pos] (VF X.K S (fRet M)) := (pss_one (ps_ret h)).weak fun D σ H ⟨A, ρ, ds, R, hf, k⟩ => by
  obtain ⟨⟨en, ρ1⟩, h1, hf⟩ := bind_some hf
  split at hf
  · rename_i t ds' hn
    cases hf
    simp only at hn
    subst hn
    refine ⟨A, ρ, _, ρ1, R, h1, fun A1 v H1 s1 R1 ok => ?_⟩
    obtain ⟨rfl, p, vs, rfl, hA, nS, _, hp, hq, hz⟩ := ok
    exact k A1 p vs H1 s1 R1.sub hA nS hp hq hz
  · cases hf
def fSeq (B : SF) (F : Rho → Option (List PyData)) : Rho → Option (List PyData) := fun ρ => (B ρ).bind fun q => match q.1 with
  | .next => F q.2
  | _ => none
theorem pdf_cons {F : Rho → Option (List PyData)} (h1 : PDS X S st B) (h2 : PSs X sts (VF X.K S F)) : PSs X (st :: sts) (VF X.K S (fSeq B F)) := (pss_cons h1 h2).weak fun D σ H ⟨A, ρ, ds, R, hf, k⟩ => by
  obtain ⟨⟨o1, ρ1⟩, g1, hf⟩ := bind_some hf
  cases o1 with
  | next => exact ⟨A, ρ, .next, ρ1, R, g1, fun A1 σ1 H1 s1 R1 => ⟨A1, ρ1, ds, R1, hf, fun A2 p vs H2 s2 => k A2 p vs H2 (s1.trans s2)⟩⟩
  | brk => cases hf
  | cont => cases hf
  | ret d => cases hf
def spF (K : PySem.W.Frag) (n : Nat) (m : List PyData → Option (List PyData)) : Sp := fun vs H Q _ => ∃ (A : Addr → Prop) (ds zs : List PyData), ds.length = n ∧ DqAll K (er A H) vs ds ∧ (∀ a, A a → H a ≠ none) ∧ m ds = some zs ∧
  ∀ p ws H', Same H H' → H p = none → H' p = some (.lst ws) → DqAll K (er (fun a => A a ∨ a = p) H') ws zs → zs.length ≤ lim → Q (.ref p) H'
def runF (N n : Nat) (F : Rho → Option (List PyData)) : List PyData → Option (List PyData) := fun ds => F (start0 N ds)
variable {CX : CXT} {k n : Nat} {f : Addr} {fd : FuncData} {ps : List Str} {E : XK} {m : List PyData → Option (List PyData)}
/-- f(..) as a list of one's own -/
def nFn (n : Nat) (m : List PyData → Option (List PyData)) (L : Rho → Option (List PyData)) : Rho → Option Ent := fun ρ => (L ρ).bind fun ds => if ds.length = n then (m ds).map (.own false) else none
theorem pdn_fn {x : Str} (Fk : FnOk X.prog X.w X.K X.mg X.base CX k f fd ps (spF X.K n m)) (hr : Room k X.A) (hg : Gl X x) (hm : X.mg x = some (.ref f)) (hk : PySem.W.keepIn X.K (.ref f) = true) (hb : Binds X.K fd ps []) (hx : Passes CX X E)
    (ha : PDA X S (e :: es) L) (hdb : (x == ("__debug__" : Str)) = false := by decide) (he : starEach (e :: es) X.env = (false, eval e X.env) :: starEach es X.env := by rfl) (hpl : (backTo pos (starEach es X.env)).any (·.1) = false := by rfl) :
    PDN X S (.Call (.Name x p) (e :: es) [] pos) (nFn n m L) := (pe_call (dvs := []) (E := E) Fk hr hg hm hk hb .nil hx ha hdb he hpl).weak fun σ H Q ⟨A, ρ, en, R, hf, k⟩ => by
  obtain ⟨ds, h1, hf⟩ := bind_some hf
  split at hf
  · rename_i hn
    obtain ⟨zs, h2, rfl⟩ := Option.map_eq_some_iff.mp hf
    refine ⟨A, ρ, ds, R, h1, fun vs H1 s1 q1 => ?_⟩
    show spF X.K n m (vs ++ []) H1 Q E
    rw [List.append_nil]
    refine ⟨A, ds, zs, hn, q1, live_same s1 R.live, h2, fun p ws H' s' np hp hq hz => ?_⟩
    refine k (fun a => A a ∨ a = p) (.ref p) H' ⟨s1.trans s', fun a h => .inl h, fun a h => ?_⟩ (fun a h => ?_) ⟨rfl, p, ws, rfl, .inr rfl, fun z => live_same s1 R.live p z np, hp, hq, hz⟩
    · rcases h with h | h
      · exact .inl h
      · rw [h]; exact .inr (same_back s1 np)
    · rcases h with h | h
      · exact live_same (s1.trans s') R.live a h
      · rw [h, hp]; exact fun z => nomatch z
  · cases hf
section
variable {P : Program} {w : World} {mg : Str → Option Value} {base : Heap} {x qual : Str} {params : Arguments} {body : List Stmt} {scope : Scope} {kws : List (Str × V)} {Ns : List Str} {F : Rho → Option (List PyData)}
theorem fn_f {CX : CXT} (Fd : FunD K x qual params body scope [] kws f fd) (sc : FnScope Ns ps scope) (hps : ps.length = n) (hn : n ≤ Ns.length)
    (hb : ∀ (cdv : Value) (A : Around) (outer : List PySem.Env) (s : Shared) (H : Hp) (E : XK) (S : Amb), Room k (A.deeper (envOfC qual scope s.heap.objs.size f cdv)) → PSs (cxOf CX P w K mg base Ns qual scope f cdv A outer s H E).nox body (VF K S F)) :
    FnOk P w K mg base CX (k + 1) f fd ps (spF K n (runF Ns.length n F)) := by
  refine Fd.ok sc (fun vs H Q E h => ?_) (fun cdv A outer s H vs Q E hr h => ?_)
  · obtain ⟨A, ds, z, hl, hq, _⟩ := h
    rw [hq.length, hl, hps]
  · obtain ⟨Ad, ds, zs, hl, hq, lv, hm, kk⟩ := h
    refine ⟨_, PSs.nox (hb cdv A outer s H E ⟨Ad, none⟩ hr), ?_⟩
    refine ⟨Ad, _, zs, rel_start (by omega) hq lv, hm, fun A' p vs H' s' sub hA nS hp hq' hz => ?_⟩
    have same : Same H H' := fun a o e => (s' a o e fun z => z).1
    refine kk p vs H' same ?_ hp (hq'.mono (er_sub fun a ha => ?_)) hz
    · cases e : H p with
      | none => rfl
      | some o => exact absurd ((s' p o e fun z => z).2 hA) nS
    · rcases ha with ha | ha
      · exact sub a ha
      · rw [ha]; exact hA
end
end
end PD
end

section
set_option Elab.async false
set_option linter.all false
set_option maxRecDepth 100000
set_option maxHeartbeats 3200000
/-! # PD 15: short forms for the printed walks -/
namespace PD
open PySem PySem.Spec PyProof.Rows L2
theorem u65 {k : Nat} {A : Around} (r : Room k A) : A.units + 65 < cLine := by have := r.un; omega
theorem u64 {k : Nat} {A : Around} (r : Room k A) : A.units + 64 < cLine := by have := r.un; omega
theorem u80 {k : Nat} {A : Around} (r : Room k A) : A.units + 80 < cLine := by have := r.un; omega
section
variable {X : Cx} {S : Amb} {K : PySem.W.Frag} {A A' : Addr → Prop} {H H' : Hp} {e a b c tg : Expr} {es : List Expr} {pos p p2 pos2 : Pos} {F G : Rho → Option PyData} {L : Rho → Option (List PyData)} {T U W : Rho → Option Bool}
theorem pe_tyN {x : Str} {T : String} (hg : Gl X x) (hm : X.mg x = none) (hv : bootBuiltins x = some (.type T)) (hn : x ≠ "__name__" := by decide) (hdb : (x == ("__debug__" : Str)) = false := by decide) : PE X (.Name x p) (tC (.ty T)) :=
  ⟨fun pins s σ H Q I h => ld_blt I hg hm hv ⟨.ty T, H, I, rfl, h⟩ hn hdb⟩
def bIf (T U W : Rho → Option Bool) : Rho → Option Bool := fun ρ => (T ρ).bind fun b => if b = true then U ρ else W ρ
theorem pdt_if (hc : PDT X S c T) (ha : PDT X S a U) (hb : PDT X S b W) : PDT X S (.IfExp c a b pos) (bIf T U W) := ⟨fun pins s σ H Q I ⟨A, ρ, z, R, hf, k⟩ => by
  obtain ⟨t, h1, hf⟩ := bind_some hf
  show wpAny _ _ (isTrue c X.env (eval c X.env) >>= fun t => if t = true then isTrue a X.env (eval a X.env) else isTrue b X.env (eval b X.env)) _ _ _
  refine wpAny_bind (thn (hc.run pins s σ H (fun t' H1 => t' = t ∧ Same H H1) I ⟨A, ρ, t, R, h1, fun H1 s1 => ⟨rfl, s1⟩⟩) fun t' s1 ⟨H1, I1, q1⟩ => ?_)
  · obtain ⟨rfl, s1'⟩ := q1
    cases t' with
    | true =>
      rw [if_pos rfl] at hf ⊢
      exact ha.run pins s1 σ H1 Q I1 ⟨A, ρ, z, R.same s1', hf, fun H2 s2 => k H2 (s1'.trans s2)⟩
    | false =>
      rw [if_neg Bool.false_ne_true] at hf ⊢
      exact hb.run pins s1 σ H1 Q I1 ⟨A, ρ, z, R.same s1', hf, fun H2 s2 => k H2 (s1'.trans s2)⟩⟩
end
theorem gl {X : Cx} {x : Str} (h : X.env.kindOf x = some .globalImplicit) : Gl X x := h
section
variable {P : Program} {w : World} {K : PySem.W.Frag} {mg : Str → Option Value} {base : Heap} {x qual : Str} {params : Arguments} {body : List Stmt} {scope : Scope} {kws : List (Str × V)} {f : Addr} {fd : FuncData} {ps : List Str} {k : Nat} {CX : CXT}
theorem fnp (Ns : List Str) (n : Nat) (B : SF) {m : List PyData → Option PyData} (hm : m = runP Ns.length n B) (Fd : FunD K x qual params body scope [] kws f fd) (sc : FnScope Ns ps scope) (hps : ps.length = n) (hn : n ≤ Ns.length)
    (hb : ∀ (cdv : Value) (A : Around) (outer : List PySem.Env) (s : Shared) (H : Hp) (E : XK) (S : Amb), Room k (A.deeper (envOfC qual scope s.heap.objs.size f cdv)) → PDSs (cxOf CX P w K mg base Ns qual scope f cdv A outer s H E).nox S body B) :
    FnOk P w K mg base CX (k + 1) f fd ps (spP K n m) := by subst hm; exact fn_p Fd sc hps hn hb
theorem fng (Ns : List Str) (n : Nat) (B : SF) {m : List PyData → List PyData → Option (PyData × List PyData)} (hm : m = runG Ns.length n B) (Fd : FunD K x qual params body scope [] kws f fd) (sc : FnScope Ns ps scope) (hps : ps.length = n + 1) (hn : n + 1 ≤ Ns.length)
    (hb : ∀ (cdv : Value) (A : Around) (outer : List PySem.Env) (s : Shared) (H : Hp) (E : XK) (S : Amb), Room k (A.deeper (envOfC qual scope s.heap.objs.size f cdv)) → PDSs (cxOf CX P w K mg base Ns qual scope f cdv A outer s H E).nox S body B) :
    FnOk P w K mg base CX (k + 1) f fd ps (spG K n m) := by subst hm; exact fn_g Fd sc hps hn hb
theorem fnf (Ns : List Str) (n : Nat) (F : Rho → Option (List PyData)) {m : List PyData → Option (List PyData)} (hm : m = runF Ns.length n F) (Fd : FunD K x qual params body scope [] kws f fd) (sc : FnScope Ns ps scope) (hps : ps.length = n) (hn : n ≤ Ns.length)
    (hb : ∀ (cdv : Value) (A : Around) (outer : List PySem.Env) (s : Shared) (H : Hp) (E : XK) (S : Amb), Room k (A.deeper (envOfC qual scope s.heap.objs.size f cdv)) → PSs (cxOf CX P w K mg base Ns qual scope f cdv A outer s H E).nox body (VF K S F)) :
    FnOk P w K mg base CX (k + 1) f fd ps (spF K n m) := by subst hm; exact fn_f Fd sc hps hn hb
end
end PD
end

section
set_option Elab.async false
set_option linter.all false
set_option maxRecDepth 100000
set_option maxHeartbeats 0
namespace K84
open PySem PySem.Spec PyProof.Rows L2 PD
def top (i : Nat) : Stmt := PySem.Challenge.pw_lotstell_k84_whole_parts_evened_by_trees.main.body.getD i (.Pass ⟨0, 0, 0, 0⟩)
abbrev s__law_cell : Stmt := top 46
abbrev s__law_generator : Stmt := top 47
abbrev s__law_hash : Stmt := top 44
abbrev s__law_random : Stmt := top 45
abbrev s__law_parts : Stmt := top 53
abbrev s__law_pick : Stmt := top 48
abbrev s__law_lots : Stmt := top 51
abbrev s__law_joins : Stmt := top 52
abbrev s_is_whole : Stmt := top 7
abbrev s_is_many : Stmt := top 10
abbrev s_check_many : Stmt := top 11
abbrev s_is_lot_by : Stmt := top 13
abbrev s_are_letters : Stmt := top 17
abbrev s_is_part_by : Stmt := top 24
abbrev s_lots_of : Stmt := top 12
abbrev s_are_parts_by : Stmt := top 25
abbrev s_check_parts : Stmt := top 26
abbrev s_common_letters : Stmt := top 31
abbrev s_stays : Stmt := top 32
abbrev s_evened_by : Stmt := top 33
abbrev s_evened_parts : Stmt := top 34
abbrev s_put_in : Stmt := top 27
abbrev s_joined_by : Stmt := top 28
abbrev s_check_few : Stmt := top 29
abbrev s_joined_rows : Stmt := top 30
abbrev s_are_joins_by : Stmt := top 22
abbrev s_check_joins : Stmt := top 23
abbrev s_alone_left : Stmt := top 40
abbrev s_common : Stmt := top 14
abbrev s_within_another : Stmt := top 41
abbrev s_tree_or_core : Stmt := top 42
abbrev s_fits_all : Stmt := top 36
abbrev s_steps_by : Stmt := top 37
abbrev s_is_order_by : Stmt := top 35
abbrev s_steps_counted : Stmt := top 38
abbrev s_law : Stmt := top 54
/-! ### the mirrors -/
def b__law_cell_ : SF := (sSeq
  (sIf (bOf (eBin dLt (eVar 1) (eCall dLen (aCons (eVar 0) aNil)))) (sRet (eBin dIx (eVar 0) (eVar 1))) sNext)
  (sRet (eBin dMod (eCall dSum (aCons (eCut (eVar 0) oN (oS (eC (.int 1)))) aNil)) (eC (.int 1000003)))))
abbrev N__law_cell : List Str := ["script", "index"]
def m__law_cell : List PyData → Option PyData := runP N__law_cell.length 2 b__law_cell_
def b__law_generator_ : Rho → Option (List PyData) := (fSeq (sSet 2 (mD (eFn 2 m__law_cell (aCons (eVar 0) (aCons (eVar 1) aNil))))) (fRet (mN (nOwn (eLst (aCons (eBin dMod (eCall dInt1 (aCons (eCall dMax2 (aCons (eBin dSub (eVar 2) (eBin dPow (eC (.int 10)) (eC (.int 18)))) (aCons (eC (.int 0)) aNil))) aNil)) (eBin dPow (eBin dPow (eC (.int 10)) (eC (.int 60))) (eC (.int 10)))) (aCons (eBin dMod (eCall dInt1 (aCons (eVar 2) aNil)) (eC (.int 2147483647))) (aCons (eBin dMul (eC (.int 1000)) (eVar 1)) aNil))))))))
abbrev N__law_generator : List Str := ["script", "index", "seed"]
def m__law_generator : List PyData → Option (List PyData) := runF N__law_generator.length 2 b__law_generator_
def b__law_hash_ : SF := (sSeq
  (sSet 2 (mD (eBin dMod (eCall dInt1 (aCons (eBin dAdd (eBin dAdd (eBin dAdd (eBin dMul (eVar 0) (eC (.int 1220147))) (eBin dMul (eBin dMul (eC (.int 16777903)) (eVar 1)) (eVar 1))) (eBin dMul (eC (.int 223)) (eVar 1))) (eC (.int 97))) aNil)) (eC (.int 2147483629)))))
  (sSeq
  (sSet 2 (mD (eBin dMod (eCall dInt1 (aCons (eBin dAdd (eBin dAdd (eBin dMul (eVar 2) (eVar 2)) (eBin dMul (eC (.int 69019)) (eVar 1))) (eC (.int 32416187))) aNil)) (eC (.int 2147483587)))))
  (sRet (eBin dMod (eCall dInt1 (aCons (eBin dMul (eVar 2) (eC (.int 48271))) aNil)) (eC (.int 2147483647))))))
abbrev N__law_hash : List Str := ["seed", "index", "mixed"]
def m__law_hash : List PyData → Option PyData := runP N__law_hash.length 2 b__law_hash_
def b__law_random_ : SF := (sSeq
  (sIf (bOf (eBin dGt (eOwnIx 0 (eC (.int 0))) (eC (.int 0)))) (sSeq
  (sSet 2 (mD (eBin dMod (eCall dInt1 (aCons (eOwnIx 0 (eC (.int 0))) aNil)) (eVar 1))))
  (sSeq
  (sPut 0 (eC (.int 0)) (mD (eBin dFdiv (eOwnIx 0 (eC (.int 0))) (eVar 1))))
  (sRet (eVar 2)))) sNext)
  (sSeq
  (sSet 2 (mD (eC (.int 0))))
  (sSeq
  (sFor (mI (iRange1 (eBin dAdd (eC (.int 1)) (eBin dFdiv (eUn dBits (eVar 1)) (eC (.int 30)))))) (tgN 3) (sSeq
  (sPut 0 (eC (.int 2)) (mD (eBin dAdd (eOwnIx 0 (eC (.int 2))) (eC (.int 1)))))
  (sSet 2 (mD (eBin dAdd (eBin dMul (eVar 2) (eC (.int 2147483587))) (eFn 2 m__law_hash (aCons (eOwnIx 0 (eC (.int 1))) (aCons (eOwnIx 0 (eC (.int 2))) aNil))))))))
  (sRet (eBin dMod (eCall dInt1 (aCons (eVar 2) aNil)) (eVar 1))))))
abbrev N__law_random : List Str := ["generator", "bound", "drawn", "turn"]
def m__law_random : List PyData → List PyData → Option (PyData × List PyData) := runG N__law_random.length 1 b__law_random_
def b__law_parts_ : SF := (sSeq
  (sSet 4 (mN (nOwn (eLst aNil))))
  (sSeq
  (sFor (mI (iLst (eVar 1))) (tgN 5) (sSeq
  (sSet 6 (mD (eLst aNil)))
  (sSeq
  (sFor (mRange1 (mBin dAdd (mD (eC (.int 1))) (mGen 0 1 m__law_random (mA (aCons (eVar 3) aNil))))) (tgN 7) (sSeq
  (sSet 8 (mLC (mI (iLst (eVar 5))) (tgN 9) bYes (mGen 0 1 m__law_random (mA (aCons (eVar 2) aNil))) [9]))
  (sSet 6 (mD (eBin dAdd (eVar 6) (eBin dMul (eLst (aCons (eVar 8) aNil)) (eCall dInt1 (aCons (eBin (dIn true) (eVar 8) (eVar 6)) aNil))))))))
  (sApp 4 (mD (eTup (aCons (eVar 5) (aCons (eCall dSorted (aCons (eVar 6) aNil)) aNil))))))))
  (sRetOwn 4)))
abbrev N__law_parts : List Str := ["generator", "joins", "letters", "most", "found", "lot", "rows", "turn", "row", "thing"]
def m__law_parts : List PyData → List PyData → Option (PyData × List PyData) := runG N__law_parts.length 3 b__law_parts_
def b__law_pick_ : SF := (sRetM (mBin dIx (mD (eVar 1)) (mGen 0 1 m__law_random (mA (aCons (eCall dLen (aCons (eVar 1) aNil)) aNil)))))
abbrev N__law_pick : List Str := ["generator", "things"]
def m__law_pick : List PyData → List PyData → Option (PyData × List PyData) := runG N__law_pick.length 1 b__law_pick_
def b__law_lots_ : SF := (sSeq
  (sPar 3 4 (mD (eLst (aCons (eLst aNil) aNil))) (mD (eLst aNil)))
  (sSeq
  (sFor (mI (iRange1 (eVar 0))) (tgN 1) (sSet 3 (mD (eBin dAdd (eVar 3) (eLC (iLst (eVar 3)) (tgN 5) bYes (eBin dAdd (eVar 5) (eLst (aCons (eVar 1) aNil))) [5])))))
  (sSeq
  (sFor (mI (iRange1 (eBin dAdd (eVar 0) (eC (.int 1))))) (tgN 2) (sSet 4 (mD (eBin dAdd (eVar 4) (eCall dSorted (aCons (eLC (iLst (eVar 3)) (tgN 5) (bOf (eBin dEq (eCall dLen (aCons (eVar 5) aNil)) (eVar 2))) (eVar 5) [5]) aNil))))))
  (sRet (eVar 4)))))
abbrev N__law_lots : List Str := ["many", "number", "size", "lots", "found", "lot"]
def m__law_lots : List PyData → Option PyData := runP N__law_lots.length 1 b__law_lots_
def b__law_joins_ : SF := (sSeq
  (sUnp (tgT [5, 4]) (eTup (aCons (eCut (eFn 1 m__law_lots (aCons (eVar 1) aNil)) (oS (eC (.int 1))) oN) (aCons (eLst aNil) aNil))))
  (sSeq
  (sFor (mRange1 (mBin dAdd (mD (eC (.int 1))) (mGen 0 1 m__law_random (mA (aCons (eC (.int 5)) aNil))))) (tgN 2) (sSeq
  (sSet 6 (mGen 0 1 m__law_pick (mA (aCons (eVar 5) aNil))))
  (sSet 4 (mD (eBin dAdd (eVar 4) (eBin dMul (eLst (aCons (eVar 6) aNil)) (eCall dInt1 (aCons (eBin (dIn true) (eVar 6) (eVar 4)) aNil))))))))
  (sSeq
  (sSet 3 (mD (eLC (iRange1 (eVar 1)) (tgN 7) (bOf (eBin dEq (eLC (iLst (eVar 4)) (tgN 6) (bOf (eBin (dIn false) (eVar 7) (eVar 6))) (eVar 6) [6]) (eLst aNil))) (eVar 7) [7])))
  (sSeq
  (sSet 4 (mD (eBin dAdd (eVar 4) (eIf (bOf (eBin dNe (eVar 3) (eLst aNil))) (eLst (aCons (eVar 3) aNil)) (eLst aNil)))))
  (sRet (eLC (iLst (eVar 5)) (tgN 6) (bOf (eBin (dIn false) (eVar 6) (eVar 4))) (eVar 6) [6]))))))
abbrev N__law_joins : List Str := ["generator", "many", "turn", "missing", "found", "lots", "lot", "thing"]
def m__law_joins : List PyData → List PyData → Option (PyData × List PyData) := runG N__law_joins.length 1 b__law_joins_
def b_is_whole_ : SF := (sRet (eAnd (eIsi .int (eVar 0)) (eNot (eIsi .bool (eVar 0)))))
abbrev N_is_whole : List Str := ["value"]
def m_is_whole : List PyData → Option PyData := runP N_is_whole.length 1 b_is_whole_
def b_is_many_ : SF := (sRet (eAnd (eFn 1 m_is_whole (aCons (eVar 0) aNil)) (eChain dLe dLe (eC (.int 1)) (eVar 0) (eC (.int 5)))))
abbrev N_is_many : List Str := ["value"]
def m_is_many : List PyData → Option PyData := runP N_is_many.length 1 b_is_many_
def b_check_many_ : SF := (sIf (bNot (bOf (eFn 1 m_is_many (aCons (eVar 0) aNil)))) sStuck sNext)
abbrev N_check_many : List Str := ["many"]
def m_check_many : List PyData → Option PyData := runP N_check_many.length 1 b_check_many_
def b_is_lot_by_ : SF := (sSeq
  (sIf (bOr (bNot (bOf (eIsi .list (eVar 1)))) (bNot (bOf (eCall dAll (aCons (eLC (iLst (eVar 1)) (tgN 3) bYes (eAnd (eFn 1 m_is_whole (aCons (eVar 3) aNil)) (eChain dLe dLt (eC (.int 0)) (eVar 3) (eVar 0))) [3]) aNil))))) (sRet (eC (.bool false))) sNext)
  (sRet (eCall dAll (aCons (eLC (iRange2 (eC (.int 1)) (eCall dLen (aCons (eVar 1) aNil))) (tgN 2) bYes (eBin dLt (eBin dIx (eVar 1) (eBin dSub (eVar 2) (eC (.int 1)))) (eBin dIx (eVar 1) (eVar 2))) [2]) aNil))))
abbrev N_is_lot_by : List Str := ["many", "value", "at", "one"]
def m_is_lot_by : List PyData → Option PyData := runP N_is_lot_by.length 2 b_is_lot_by_
def b_are_letters_ : SF := (sSeq
  (sIf (bOr (bNot (bOf (eIsi .list (eVar 0)))) (bOf (eBin dNe (eCall dLen (aCons (eVar 0) aNil)) (eVar 1)))) (sRet (eC (.bool false))) sNext)
  (sRet (eCall dAll (aCons (eLC (iLst (eVar 0)) (tgN 2) bYes (eAnd (eFn 1 m_is_whole (aCons (eVar 2) aNil)) (eChain dLe dLe (eC (.int 0)) (eVar 2) (eC (.int 9)))) [2]) aNil))))
abbrev N_are_letters : List Str := ["value", "many", "one"]
def m_are_letters : List PyData → Option PyData := runP N_are_letters.length 2 b_are_letters_
def b_is_part_by_ : SF := (sSeq
  (sIf (bOr (bNot (bOf (eIsi .tuple (eVar 1)))) (bOr (bOf (eBin dNe (eCall dLen (aCons (eVar 1) aNil)) (eC (.int 2)))) (bOr (bNot (bOf (eFn 2 m_is_lot_by (aCons (eVar 0) (aCons (eBin dIx (eVar 1) (eC (.int 0))) aNil))))) (bOf (eBin dEq (eBin dIx (eVar 1) (eC (.int 0))) (eLst aNil)))))) (sRet (eC (.bool false))) sNext)
  (sSeq
  (sUnp (tgT [2, 3]) (eVar 1))
  (sSeq
  (sIf (bOr (bNot (bOf (eIsi .list (eVar 3)))) (bNot (bOf (eChain dLe dLe (eC (.int 1)) (eCall dLen (aCons (eVar 3) aNil)) (eC (.int 12)))))) (sRet (eC (.bool false))) sNext)
  (sSeq
  (sIf (bNot (bOf (eCall dAll (aCons (eLC (iLst (eVar 3)) (tgN 5) bYes (eFn 2 m_are_letters (aCons (eVar 5) (aCons (eCall dLen (aCons (eVar 2) aNil)) aNil))) [5]) aNil)))) (sRet (eC (.bool false))) sNext)
  (sRet (eCall dAll (aCons (eLC (iRange2 (eC (.int 1)) (eCall dLen (aCons (eVar 3) aNil))) (tgN 4) bYes (eBin dLt (eBin dIx (eVar 3) (eBin dSub (eVar 4) (eC (.int 1)))) (eBin dIx (eVar 3) (eVar 4))) [4]) aNil)))))))
abbrev N_is_part_by : List Str := ["many", "value", "lot", "rows", "at", "row"]
def m_is_part_by : List PyData → Option PyData := runP N_is_part_by.length 2 b_is_part_by_
def b_lots_of_ : SF := (sSeq
  (sSet 1 (mD (eLst (aCons (eLst aNil) aNil))))
  (sSeq
  (sFor (mI (iRange1 (eVar 0))) (tgN 2) (sSet 1 (mD (eBin dAdd (eVar 1) (eLC (iLst (eVar 1)) (tgN 4) bYes (eBin dAdd (eVar 4) (eLst (aCons (eVar 2) aNil))) [4])))))
  (sRet (eLC (iLst (eCall dSorted (aCons (eLC (iLst (eVar 1)) (tgN 4) bYes (eTup (aCons (eCall dLen (aCons (eVar 4) aNil)) (aCons (eVar 4) aNil))) [4]) aNil))) (tgT [3, 4]) bYes (eVar 4) [3, 4]))))
abbrev N_lots_of : List Str := ["many", "found", "thing", "_", "lot"]
def m_lots_of : List PyData → Option PyData := runP N_lots_of.length 1 b_lots_of_
def b_are_parts_by_ : SF := (sSeq
  (sIf (bOr (bNot (bOf (eIsi .list (eVar 1)))) (bNot (bOf (eChain dLe dLe (eC (.int 1)) (eCall dLen (aCons (eVar 1) aNil)) (eC (.int 6)))))) (sRet (eC (.bool false))) sNext)
  (sSeq
  (sIf (bNot (bOf (eCall dAll (aCons (eLC (iLst (eVar 1)) (tgN 6) bYes (eFn 2 m_is_part_by (aCons (eVar 0) (aCons (eVar 6) aNil))) [6]) aNil)))) (sRet (eC (.bool false))) sNext)
  (sSeq
  (sSet 2 (mD (eLC (iLst (eVar 1)) (tgT [3, 4]) bYes (eMeth dIndex (eFn 1 m_lots_of (aCons (eVar 0) aNil)) (aCons (eVar 3) aNil)) [3, 4])))
  (sSeq
  (sIf (bNot (bOf (eCall dAll (aCons (eLC (iRange2 (eC (.int 1)) (eCall dLen (aCons (eVar 2) aNil))) (tgN 7) bYes (eBin dLt (eBin dIx (eVar 2) (eBin dSub (eVar 7) (eC (.int 1)))) (eBin dIx (eVar 2) (eVar 7))) [7]) aNil)))) (sRet (eC (.bool false))) sNext)
  (sRet (eCall dAll (aCons (eLC (iRange1 (eVar 0)) (tgN 5) bYes (eCall dAny (aCons (eLC (iLst (eVar 1)) (tgT [3, 4]) bYes (eBin (dIn false) (eVar 5) (eVar 3)) [3, 4]) aNil)) [5]) aNil)))))))
abbrev N_are_parts_by : List Str := ["many", "value", "places", "lot", "_", "thing", "part", "at"]
def m_are_parts_by : List PyData → Option PyData := runP N_are_parts_by.length 2 b_are_parts_by_
def b_check_parts_ : SF := (sSeq
  (sDrop (mD (eFn 1 m_check_many (aCons (eVar 0) aNil))))
  (sIf (bNot (bOf (eFn 2 m_are_parts_by (aCons (eVar 0) (aCons (eVar 1) aNil))))) sStuck sNext))
abbrev N_check_parts : List Str := ["many", "parts"]
def m_check_parts : List PyData → Option PyData := runP N_check_parts.length 2 b_check_parts_
def b_common_letters_ : SF := (sRet (eLC (iZipS (eVar 0) (eVar 1)) (tgT [3, 4]) (bOf (eBin (dIn false) (eVar 3) (eVar 2))) (eVar 4) [3, 4]))
abbrev N_common_letters : List Str := ["lot", "letters", "others", "thing", "letter"]
def m_common_letters : List PyData → Option PyData := runP N_common_letters.length 3 b_common_letters_
def b_stays_ : SF := (sSeq
  (sUnp (tgT [3, 4]) (eVar 0))
  (sSeq
  (sSet 2 (mD (eLC (iLst (eBin dIx (eVar 1) (eC (.int 1)))) (tgN 5) bYes (eFn 3 m_common_letters (aCons (eBin dIx (eVar 1) (eC (.int 0))) (aCons (eVar 5) (aCons (eVar 3) aNil)))) [5])))
  (sRet (eLC (iLst (eVar 4)) (tgN 5) (bOf (eBin (dIn false) (eFn 3 m_common_letters (aCons (eVar 3) (aCons (eVar 5) (aCons (eBin dIx (eVar 1) (eC (.int 0))) aNil)))) (eVar 2))) (eVar 5) [5]))))
abbrev N_stays : List Str := ["part", "other", "late", "lot", "rows", "letters"]
def m_stays : List PyData → Option PyData := runP N_stays.length 2 b_stays_
def b_evened_by_ : SF := (sSeq
  (sSet 1 (mN (nOwn (eLC (iLst (eVar 0)) (tgT [7, 5]) bYes (eTup (aCons (eCall dList (aCons (eVar 7) aNil)) (aCons (eLC (iLst (eVar 5)) (tgN 8) bYes (eCall dList (aCons (eVar 8) aNil)) [8]) aNil))) [7, 5]))))
  (sWhile (bOf (eC (.bool true))) (sSeq
  (sSet 2 (mD (eLC (iOwn 1) (tgT [9, 5]) bYes (eCall dLen (aCons (eVar 5) aNil)) [9, 5])))
  (sSeq
  (sFor (mI (iEnumD (ePeek 1))) (tgT [3, 4]) (sSeq
  (sSet 5 (mD (eBin dIx (eVar 4) (eC (.int 1)))))
  (sSeq
  (sFor (mI (iLst (eBin dAdd (eOwnCut 1 oN (oS (eVar 3))) (eOwnCut 1 (oS (eBin dAdd (eVar 3) (eC (.int 1)))) oN)))) (tgN 6) (sSet 5 (mD (eFn 2 m_stays (aCons (eTup (aCons (eBin dIx (eVar 4) (eC (.int 0))) (aCons (eVar 5) aNil))) (aCons (eVar 6) aNil))))))
  (sPut 1 (eVar 3) (mD (eTup (aCons (eBin dIx (eVar 4) (eC (.int 0))) (aCons (eVar 5) aNil))))))))
  (sIf (bOf (eBin dEq (eLC (iOwn 1) (tgT [9, 5]) bYes (eCall dLen (aCons (eVar 5) aNil)) [9, 5]) (eVar 2))) (sRetOwn 1) sNext))) 100000))
abbrev N_evened_by : List Str := ["parts", "found", "before", "at", "part", "rows", "other", "lot", "row", "_"]
def m_evened_by : List PyData → Option PyData := runP N_evened_by.length 1 b_evened_by_
def b_evened_parts_ : SF := (sSeq
  (sDrop (mD (eFn 2 m_check_parts (aCons (eVar 0) (aCons (eVar 1) aNil)))))
  (sRet (eFn 1 m_evened_by (aCons (eVar 1) aNil))))
abbrev N_evened_parts : List Str := ["many", "parts"]
def m_evened_parts : List PyData → Option PyData := runP N_evened_parts.length 2 b_evened_parts_
def b_put_in_ : SF := (sSeq
  (sSet 3 (mN (nOwn (eCall dList (aCons (eVar 0) aNil)))))
  (sSeq
  (sFor (mI (iZipS (eVar 1) (eVar 2))) (tgT [4, 5]) (sSeq
  (sIf (bAnd (bOf (eBin dNotN (eOwnIx 3 (eVar 4)) (eC .none))) (bOf (eBin dNe (eOwnIx 3 (eVar 4)) (eVar 5)))) (sRet (eC .none)) sNext)
  (sPut 3 (eVar 4) (mD (eVar 5)))))
  (sRetOwn 3)))
abbrev N_put_in : List Str := ["row", "lot", "letters", "found", "thing", "letter"]
def m_put_in : List PyData → Option PyData := runP N_put_in.length 3 b_put_in_
def b_joined_by_ : SF := (sSeq
  (sSet 2 (mD (eLst (aCons (eBin dMul (eLst (aCons (eC .none) aNil)) (eVar 0)) aNil))))
  (sSeq
  (sFor (mI (iLst (eVar 1))) (tgT [3, 4]) (sSeq
  (sSet 5 (mD (eLC2 (iLst (eVar 2)) (tgN 6) bYes (iLst (eVar 4)) (tgN 7) bYes (eFn 3 m_put_in (aCons (eVar 6) (aCons (eVar 3) (aCons (eVar 7) aNil)))) [6, 7] [7])))
  (sSet 2 (mD (eLC (iLst (eVar 5)) (tgN 6) (bOf (eBin dNotN (eVar 6) (eC .none))) (eVar 6) [6])))))
  (sRet (eCall dSorted (aCons (eVar 2) aNil)))))
abbrev N_joined_by : List Str := ["many", "parts", "found", "lot", "rows", "late", "row", "letters"]
def m_joined_by : List PyData → Option PyData := runP N_joined_by.length 2 b_joined_by_
def b_check_few_ : SF := (sSeq
  (sDrop (mD (eFn 2 m_check_parts (aCons (eVar 0) (aCons (eVar 1) aNil)))))
  (sSeq
  (sSet 2 (mD (eFn 2 m_joined_by (aCons (eVar 0) (aCons (eVar 1) aNil)))))
  (sSeq
  (sIf (bOf (eBin dGt (eCall dLen (aCons (eVar 2) aNil)) (eC (.int 500)))) sStuck sNext)
  (sRet (eVar 2)))))
abbrev N_check_few : List Str := ["many", "parts", "rows"]
def m_check_few : List PyData → Option PyData := runP N_check_few.length 2 b_check_few_
def b_joined_rows_ : SF := (sRet (eFn 2 m_check_few (aCons (eVar 0) (aCons (eVar 1) aNil))))
abbrev N_joined_rows : List Str := ["many", "parts"]
def m_joined_rows : List PyData → Option PyData := runP N_joined_rows.length 2 b_joined_rows_
def b_are_joins_by_ : SF := (sSeq
  (sIf (bOr (bNot (bOf (eIsi .list (eVar 1)))) (bNot (bOf (eChain dLe dLe (eC (.int 1)) (eCall dLen (aCons (eVar 1) aNil)) (eC (.int 6)))))) (sRet (eC (.bool false))) sNext)
  (sSeq
  (sIf (bNot (bOf (eCall dAll (aCons (eLC (iLst (eVar 1)) (tgN 3) bYes (eAnd (eFn 2 m_is_lot_by (aCons (eVar 0) (aCons (eVar 3) aNil))) (eBin dNe (eVar 3) (eLst aNil))) [3]) aNil)))) (sRet (eC (.bool false))) sNext)
  (sSeq
  (sSet 2 (mD (eLC (iLst (eVar 1)) (tgN 3) bYes (eMeth dIndex (eFn 1 m_lots_of (aCons (eVar 0) aNil)) (aCons (eVar 3) aNil)) [3])))
  (sSeq
  (sIf (bNot (bOf (eCall dAll (aCons (eLC (iRange2 (eC (.int 1)) (eCall dLen (aCons (eVar 2) aNil))) (tgN 5) bYes (eBin dLt (eBin dIx (eVar 2) (eBin dSub (eVar 5) (eC (.int 1)))) (eBin dIx (eVar 2) (eVar 5))) [5]) aNil)))) (sRet (eC (.bool false))) sNext)
  (sRet (eCall dAll (aCons (eLC (iRange1 (eVar 0)) (tgN 4) bYes (eCall dAny (aCons (eLC (iLst (eVar 1)) (tgN 3) bYes (eBin (dIn false) (eVar 4) (eVar 3)) [3]) aNil)) [4]) aNil)))))))
abbrev N_are_joins_by : List Str := ["many", "value", "places", "lot", "thing", "at"]
def m_are_joins_by : List PyData → Option PyData := runP N_are_joins_by.length 2 b_are_joins_by_
def b_check_joins_ : SF := (sSeq
  (sDrop (mD (eFn 1 m_check_many (aCons (eVar 0) aNil))))
  (sIf (bNot (bOf (eFn 2 m_are_joins_by (aCons (eVar 0) (aCons (eVar 1) aNil))))) sStuck sNext))
abbrev N_check_joins : List Str := ["many", "joins"]
def m_check_joins : List PyData → Option PyData := runP N_check_joins.length 2 b_check_joins_
def b_alone_left_ : SF := (sSeq
  (sSet 1 (mD (eLC2 (iLst (eVar 0)) (tgT [3, 4]) bYes (iLst (eVar 4)) (tgN 2) bYes (eVar 2) [3, 4, 2] [2])))
  (sRet (eLC (iLst (eVar 0)) (tgT [5, 4]) bYes (eTup (aCons (eVar 5) (aCons (eLC (iLst (eVar 4)) (tgN 2) (bOf (eBin dGt (eMeth dCount (eVar 1) (aCons (eVar 2) aNil)) (eC (.int 1)))) (eVar 2) [2]) aNil))) [5, 4])))
abbrev N_alone_left : List Str := ["lots", "things", "thing", "_", "lot", "at"]
def m_alone_left : List PyData → Option PyData := runP N_alone_left.length 1 b_alone_left_
def b_common_ : SF := (sRet (eLC (iLst (eVar 0)) (tgN 2) (bOf (eBin (dIn false) (eVar 2) (eVar 1))) (eVar 2) [2]))
abbrev N_common : List Str := ["one", "other", "thing"]
def m_common : List PyData → Option PyData := runP N_common.length 2 b_common_
def b_within_another_ : SF := (sSeq
  (sFor (mI (iLst (eVar 0))) (tgT [1, 2]) (sFor (mI (iLst (eVar 0))) (tgT [3, 4]) (sIf (bAnd (bOf (eBin dNe (eVar 1) (eVar 3))) (bOf (eBin dEq (eFn 2 m_common (aCons (eVar 2) (aCons (eVar 4) aNil))) (eVar 2)))) (sRet (eTup (aCons (eVar 1) (aCons (eVar 3) aNil)))) sNext)))
  (sRet (eC .none)))
abbrev N_within_another : List Str := ["lots", "at", "lot", "other", "late"]
def m_within_another : List PyData → Option PyData := runP N_within_another.length 1 b_within_another_
def b_tree_or_core_ : SF := (sSeq
  (sDrop (mD (eFn 2 m_check_joins (aCons (eVar 0) (aCons (eVar 1) aNil)))))
  (sSeq
  (sPar 2 3 (mD (eUn dEnum (eVar 1))) (mN (nOwn (eBin dMul (eLst (aCons (eC .none) aNil)) (eCall dLen (aCons (eVar 1) aNil))))))
  (sSeq
  (sWhile (bOf (eC (.bool true))) (sSeq
  (sSet 2 (mD (eFn 1 m_alone_left (aCons (eVar 2) aNil))))
  (sSeq
  (sSet 4 (mD (eFn 1 m_within_another (aCons (eVar 2) aNil))))
  (sSeq
  (sIf (bOf (eBin dIsN (eVar 4) (eC .none))) sBrk sNext)
  (sSeq
  (sPut 3 (eBin dIx (eVar 4) (eC (.int 0))) (mD (eBin dIx (eVar 4) (eC (.int 1)))))
  (sSet 2 (mD (eLC (iLst (eVar 2)) (tgT [5, 6]) (bOf (eBin dNe (eVar 5) (eBin dIx (eVar 4) (eC (.int 0))))) (eTup (aCons (eVar 5) (aCons (eVar 6) aNil))) [5, 6]))))))) 100000)
  (sSeq
  (sIf (bOf (eBin dEq (eCall dLen (aCons (eVar 2) aNil)) (eC (.int 1)))) (sRetM (mTup (mCons (mD (eC (.str "tree"))) (mCons (eFrz 3) mNil)))) sNext)
  (sRet (eTup (aCons (eC (.str "core")) (aCons (eSortU (eLC2 (iLst (eVar 2)) (tgT [8, 6]) bYes (iLst (eVar 6)) (tgN 7) bYes (eVar 7) [8, 6, 7] [7])) aNil))))))))
abbrev N_tree_or_core : List Str := ["many", "joins", "lots", "nexts", "pair", "at", "lot", "thing", "_"]
def m_tree_or_core : List PyData → Option PyData := runP N_tree_or_core.length 2 b_tree_or_core_
def b_fits_all_ : SF := (sSeq
  (sFor (mI (iLst (eVar 0))) (tgT [2, 3]) (sIf (bNot (bOf (eCall dAny (aCons (eLC (iLst (eVar 3)) (tgN 4) bYes (eBin dNotN (eFn 3 m_put_in (aCons (eVar 1) (aCons (eVar 2) (aCons (eVar 4) aNil)))) (eC .none)) [4]) aNil)))) (sRet (eC (.bool false))) sNext))
  (sRet (eC (.bool true))))
abbrev N_fits_all : List Str := ["parts", "row", "lot", "rows", "letters"]
def m_fits_all : List PyData → Option PyData := runP N_fits_all.length 2 b_fits_all_
def b_steps_by_ : SF := (sSeq
  (sPar 4 5 (mD (eLst (aCons (eBin dMul (eLst (aCons (eC .none) aNil)) (eVar 0)) aNil))) (mN (nOwn (eLst aNil))))
  (sSeq
  (sFor (mI (iLst (eVar 2))) (tgN 3) (sSeq
  (sSet 6 (mD (eSortU (eLC2 (iLst (eVar 1)) (tgT [10, 11]) (bOf (eBin (dIn false) (eVar 3) (eVar 10))) (iLst (eVar 11)) (tgN 8) bYes (eBin dIx (eVar 8) (eMeth dIndex (eVar 10) (aCons (eVar 3) aNil))) [10, 11, 8] [8]))))
  (sSeq
  (sSet 7 (mD (eLC2 (iLst (eVar 4)) (tgN 8) bYes (iLst (eVar 6)) (tgN 9) bYes (eBin dAdd (eBin dAdd (eCut (eVar 8) oN (oS (eVar 3))) (eLst (aCons (eVar 9) aNil))) (eCut (eVar 8) (oS (eBin dAdd (eVar 3) (eC (.int 1)))) oN)) [8, 9] [9])))
  (sSeq
  (sSet 4 (mD (eLC (iLst (eVar 7)) (tgN 8) (bOf (eFn 2 m_fits_all (aCons (eVar 1) (aCons (eVar 8) aNil)))) (eVar 8) [8])))
  (sApp 5 (mD (eCall dLen (aCons (eVar 4) aNil))))))))
  (sRetOwn 5)))
abbrev N_steps_by : List Str := ["many", "parts", "order", "thing", "found", "counts", "letters", "late", "row", "letter", "lot", "rows"]
def m_steps_by : List PyData → Option PyData := runP N_steps_by.length 3 b_steps_by_
def b_is_order_by_ : SF := (sRet (eAnd (eIsi .list (eVar 1)) (eAnd (eCall dAll (aCons (eLC (iLst (eVar 1)) (tgN 2) bYes (eFn 1 m_is_whole (aCons (eVar 2) aNil)) [2]) aNil)) (eBin dEq (eCall dSorted (aCons (eVar 1) aNil)) (fun ρ => (iRange1 (eVar 0) ρ).map .list)))))
abbrev N_is_order_by : List Str := ["many", "value", "one"]
def m_is_order_by : List PyData → Option PyData := runP N_is_order_by.length 2 b_is_order_by_
def b_steps_counted_ : SF := (sSeq
  (sDrop (mD (eFn 2 m_check_parts (aCons (eVar 0) (aCons (eVar 1) aNil)))))
  (sSeq
  (sIf (bNot (bOf (eFn 2 m_is_order_by (aCons (eVar 0) (aCons (eVar 2) aNil))))) sStuck sNext)
  (sSeq
  (sDrop (mD (eFn 2 m_check_few (aCons (eVar 0) (aCons (eVar 1) aNil)))))
  (sRet (eFn 3 m_steps_by (aCons (eVar 0) (aCons (eVar 1) (aCons (eVar 2) aNil))))))))
abbrev N_steps_counted : List Str := ["many", "parts", "order"]
def m_steps_counted : List PyData → Option PyData := runP N_steps_counted.length 3 b_steps_counted_
def b_law_ : SF := (sSeq
  (sFor (mI (iRange1 (eC (.int 4)))) (tgN 1) (sSeq
  (sSet 2 (mN (nFn 2 m__law_generator (aCons (eVar 0) (aCons (eVar 1) aNil)))))
  (sSeq
  (sSet 3 (mBin dAdd (mD (eC (.int 1))) (mGen 2 1 m__law_random (mA (aCons (eC (.int 4)) aNil)))))
  (sSeq
  (sSet 4 (mGen 2 3 m__law_parts (mCons (mGen 2 1 m__law_joins (mA (aCons (eVar 3) aNil))) (mA (aCons (eC (.int 2)) (aCons (eC (.int 4)) aNil))))))
  (sSeq
  (sUnp (tgT [9, 10]) (eTup (aCons (eFn 2 m_evened_parts (aCons (eVar 3) (aCons (eVar 4) aNil))) (aCons (eFn 2 m_joined_rows (aCons (eVar 3) (aCons (eVar 4) aNil))) aNil))))
  (sSeq
  (sIf (bIf (bOf (eBin dEq (eLC (iLst (eVar 9)) (tgN 13) (bOf (eBin dEq (eBin dIx (eVar 13) (eC (.int 1))) (eLst aNil))) (eVar 13) [13]) (eLst aNil))) (bOf (eBin dNe (eFn 2 m_evened_parts (aCons (eVar 3) (aCons (eLC (iLst (eVar 9)) (tgN 13) (bOf (eBin dNe (eBin dIx (eVar 13) (eC (.int 1))) (eLst aNil))) (eVar 13) [13]) aNil))) (eVar 9))) (bOf (eBin dNe (eVar 10) (eLst aNil)))) (sRet (eC (.bool false))) sNext)
  (sSeq
  (sIf (bOf (eBin dEq (eBin dIx (eFn 2 m_tree_or_core (aCons (eVar 3) (aCons (eLC (iLst (eVar 4)) (tgT [11, 12]) bYes (eVar 11) [11, 12]) aNil))) (eC (.int 0))) (eC (.str "tree")))) (sFor (mI (iLst (eVar 9))) (tgT [11, 12]) (sIf (bAnd (bOf (eBin dEq (eLC (iLst (eVar 9)) (tgN 13) (bOf (eBin dEq (eBin dIx (eVar 13) (eC (.int 1))) (eLst aNil))) (eVar 13) [13]) (eLst aNil))) (bOf (eBin dNe (eVar 12) (eCall dSorted (aCons (eLC (iLst (eVar 12)) (tgN 15) (bOf (eBin dNe (eLC (iLst (eVar 10)) (tgN 16) (bOf (eBin dEq (eLC (iLst (eVar 11)) (tgN 17) bYes (eBin dIx (eVar 16) (eVar 17)) [17]) (eVar 15))) (eVar 16) [16]) (eLst aNil))) (eVar 15) [15]) aNil))))) (sRet (eC (.bool false))) sNext)) sNext)
  (sSeq
  (sIf (bOf (eBin dNe (eBin dIx (eFn 3 m_steps_counted (aCons (eVar 3) (aCons (eVar 4) (aCons (eUn dRev (fun ρ => (iRange1 (eVar 3) ρ).map .list)) aNil)))) (eUn dNeg (eC (.int 1)))) (eCall dLen (aCons (eVar 10) aNil)))) (sRet (eC (.bool false))) sNext)
  (sSeq
  (sSet 5 (mBin dAdd (mD (eC (.int 3))) (mGen 2 1 m__law_random (mA (aCons (eC (.int 3)) aNil)))))
  (sSeq
  (sSet 6 (mD (eBin dAdd (eCall dSorted (aCons (eLC (iRange1 (eBin dSub (eVar 5) (eC (.int 1)))) (tgN 14) bYes (eLst (aCons (eVar 14) (aCons (eBin dAdd (eVar 14) (eC (.int 1))) aNil))) [14]) aNil)) (eLst aNil))))
  (sSeq
  (sSet 7 (mD (eCall dSorted (aCons (eBin dAdd (eVar 6) (eLst (aCons (eLst (aCons (eC (.int 0)) (aCons (eBin dSub (eVar 5) (eC (.int 1))) aNil))) aNil))) aNil))))
  (sSeq
  (sSet 8 (mD (eLC (iLst (eVar 7)) (tgN 11) bYes (eTup (aCons (eVar 11) (aCons (eIf (bOf (eBin dNe (eVar 11) (eLst (aCons (eC (.int 0)) (aCons (eBin dSub (eVar 5) (eC (.int 1))) aNil))))) (eLst (aCons (eLst (aCons (eC (.int 0)) (aCons (eC (.int 0)) aNil))) (aCons (eLst (aCons (eC (.int 1)) (aCons (eC (.int 1)) aNil))) aNil))) (eLst (aCons (eLst (aCons (eC (.int 0)) (aCons (eC (.int 1)) aNil))) (aCons (eLst (aCons (eC (.int 1)) (aCons (eC (.int 0)) aNil))) aNil)))) aNil))) [11])))
  (sSeq
  (sIf (bOr (bOf (eBin dNe (eBin dIx (eFn 2 m_tree_or_core (aCons (eVar 5) (aCons (eVar 7) aNil))) (eC (.int 0))) (eC (.str "core")))) (bOr (bOf (eBin dNe (eFn 2 m_evened_parts (aCons (eVar 5) (aCons (eVar 8) aNil))) (eVar 8))) (bOf (eBin dNe (eFn 2 m_joined_rows (aCons (eVar 5) (aCons (eVar 8) aNil))) (eLst aNil))))) (sRet (eC (.bool false))) sNext)
  (sIf (bOr (bOf (eBin dNe (eBin dIx (eFn 2 m_tree_or_core (aCons (eVar 5) (aCons (eVar 6) aNil))) (eC (.int 0))) (eC (.str "tree")))) (bOf (eBin dNe (eCall dLen (aCons (eFn 2 m_joined_rows (aCons (eVar 5) (aCons (eLC (iLst (eVar 8)) (tgN 13) (bOf (eBin dNe (eBin dIx (eVar 13) (eC (.int 0))) (eLst (aCons (eC (.int 0)) (aCons (eBin dSub (eVar 5) (eC (.int 1))) aNil))))) (eVar 13) [13]) aNil))) aNil)) (eC (.int 2))))) (sRet (eC (.bool false))) sNext))))))))))))))
  (sRet (eC (.bool true))))
abbrev N_law : List Str := ["script", "index", "generator", "many", "parts", "wide", "pairs", "ring", "odd", "stay", "rows", "lot", "late", "part", "at", "line", "row", "thing"]
def m_law : List PyData → Option PyData := runP N_law.length 1 b_law_
/-! ### the walks -/
abbrev FnP (K : PySem.W.Frag) (x : Str) (st : Stmt) (f : Addr) (fd : FuncData) : Prop := FunD K x x (defArgs st) (defBody st) (defScope st) [] [] f fd
/-- what the globals are -/
structure Gs (K : PySem.W.Frag) (mg : Str → Option Value) where
  a__law_cell : Addr
  d__law_cell : FuncData
  F__law_cell : FnP K "_law_cell" s__law_cell a__law_cell d__law_cell
  g__law_cell : mg "_law_cell" = some (.ref a__law_cell)
  a__law_generator : Addr
  d__law_generator : FuncData
  F__law_generator : FnP K "_law_generator" s__law_generator a__law_generator d__law_generator
  g__law_generator : mg "_law_generator" = some (.ref a__law_generator)
  a__law_hash : Addr
  d__law_hash : FuncData
  F__law_hash : FnP K "_law_hash" s__law_hash a__law_hash d__law_hash
  g__law_hash : mg "_law_hash" = some (.ref a__law_hash)
  a__law_random : Addr
  d__law_random : FuncData
  F__law_random : FnP K "_law_random" s__law_random a__law_random d__law_random
  g__law_random : mg "_law_random" = some (.ref a__law_random)
  a__law_parts : Addr
  d__law_parts : FuncData
  F__law_parts : FnP K "_law_parts" s__law_parts a__law_parts d__law_parts
  g__law_parts : mg "_law_parts" = some (.ref a__law_parts)
  a__law_pick : Addr
  d__law_pick : FuncData
  F__law_pick : FnP K "_law_pick" s__law_pick a__law_pick d__law_pick
  g__law_pick : mg "_law_pick" = some (.ref a__law_pick)
  a__law_lots : Addr
  d__law_lots : FuncData
  F__law_lots : FnP K "_law_lots" s__law_lots a__law_lots d__law_lots
  g__law_lots : mg "_law_lots" = some (.ref a__law_lots)
  a__law_joins : Addr
  d__law_joins : FuncData
  F__law_joins : FnP K "_law_joins" s__law_joins a__law_joins d__law_joins
  g__law_joins : mg "_law_joins" = some (.ref a__law_joins)
  a_is_whole : Addr
  d_is_whole : FuncData
  F_is_whole : FnP K "is_whole" s_is_whole a_is_whole d_is_whole
  g_is_whole : mg "is_whole" = some (.ref a_is_whole)
  a_is_many : Addr
  d_is_many : FuncData
  F_is_many : FnP K "is_many" s_is_many a_is_many d_is_many
  g_is_many : mg "is_many" = some (.ref a_is_many)
  a_check_many : Addr
  d_check_many : FuncData
  F_check_many : FnP K "check_many" s_check_many a_check_many d_check_many
  g_check_many : mg "check_many" = some (.ref a_check_many)
  a_is_lot_by : Addr
  d_is_lot_by : FuncData
  F_is_lot_by : FnP K "is_lot_by" s_is_lot_by a_is_lot_by d_is_lot_by
  g_is_lot_by : mg "is_lot_by" = some (.ref a_is_lot_by)
  a_are_letters : Addr
  d_are_letters : FuncData
  F_are_letters : FnP K "are_letters" s_are_letters a_are_letters d_are_letters
  g_are_letters : mg "are_letters" = some (.ref a_are_letters)
  a_is_part_by : Addr
  d_is_part_by : FuncData
  F_is_part_by : FnP K "is_part_by" s_is_part_by a_is_part_by d_is_part_by
  g_is_part_by : mg "is_part_by" = some (.ref a_is_part_by)
  a_lots_of : Addr
  d_lots_of : FuncData
  F_lots_of : FnP K "lots_of" s_lots_of a_lots_of d_lots_of
  g_lots_of : mg "lots_of" = some (.ref a_lots_of)
  a_are_parts_by : Addr
  d_are_parts_by : FuncData
  F_are_parts_by : FnP K "are_parts_by" s_are_parts_by a_are_parts_by d_are_parts_by
  g_are_parts_by : mg "are_parts_by" = some (.ref a_are_parts_by)
  a_check_parts : Addr
  d_check_parts : FuncData
  F_check_parts : FnP K "check_parts" s_check_parts a_check_parts d_check_parts
  g_check_parts : mg "check_parts" = some (.ref a_check_parts)
  a_common_letters : Addr
  d_common_letters : FuncData
  F_common_letters : FnP K "common_letters" s_common_letters a_common_letters d_common_letters
  g_common_letters : mg "common_letters" = some (.ref a_common_letters)
  a_stays : Addr
  d_stays : FuncData
  F_stays : FnP K "stays" s_stays a_stays d_stays
  g_stays : mg "stays" = some (.ref a_stays)
  a_evened_by : Addr
  d_evened_by : FuncData
  F_evened_by : FnP K "evened_by" s_evened_by a_evened_by d_evened_by
  g_evened_by : mg "evened_by" = some (.ref a_evened_by)
  a_evened_parts : Addr
  d_evened_parts : FuncData
  F_evened_parts : FnP K "evened_parts" s_evened_parts a_evened_parts d_evened_parts
  g_evened_parts : mg "evened_parts" = some (.ref a_evened_parts)
  a_put_in : Addr
  d_put_in : FuncData
  F_put_in : FnP K "put_in" s_put_in a_put_in d_put_in
  g_put_in : mg "put_in" = some (.ref a_put_in)
  a_joined_by : Addr
  d_joined_by : FuncData
  F_joined_by : FnP K "joined_by" s_joined_by a_joined_by d_joined_by
  g_joined_by : mg "joined_by" = some (.ref a_joined_by)
  a_check_few : Addr
  d_check_few : FuncData
  F_check_few : FnP K "check_few" s_check_few a_check_few d_check_few
  g_check_few : mg "check_few" = some (.ref a_check_few)
  a_joined_rows : Addr
  d_joined_rows : FuncData
  F_joined_rows : FnP K "joined_rows" s_joined_rows a_joined_rows d_joined_rows
  g_joined_rows : mg "joined_rows" = some (.ref a_joined_rows)
  a_are_joins_by : Addr
  d_are_joins_by : FuncData
  F_are_joins_by : FnP K "are_joins_by" s_are_joins_by a_are_joins_by d_are_joins_by
  g_are_joins_by : mg "are_joins_by" = some (.ref a_are_joins_by)
  a_check_joins : Addr
  d_check_joins : FuncData
  F_check_joins : FnP K "check_joins" s_check_joins a_check_joins d_check_joins
  g_check_joins : mg "check_joins" = some (.ref a_check_joins)
  a_alone_left : Addr
  d_alone_left : FuncData
  F_alone_left : FnP K "alone_left" s_alone_left a_alone_left d_alone_left
  g_alone_left : mg "alone_left" = some (.ref a_alone_left)
  a_common : Addr
  d_common : FuncData
  F_common : FnP K "common" s_common a_common d_common
  g_common : mg "common" = some (.ref a_common)
  a_within_another : Addr
  d_within_another : FuncData
  F_within_another : FnP K "within_another" s_within_another a_within_another d_within_another
  g_within_another : mg "within_another" = some (.ref a_within_another)
  a_tree_or_core : Addr
  d_tree_or_core : FuncData
  F_tree_or_core : FnP K "tree_or_core" s_tree_or_core a_tree_or_core d_tree_or_core
  g_tree_or_core : mg "tree_or_core" = some (.ref a_tree_or_core)
  a_fits_all : Addr
  d_fits_all : FuncData
  F_fits_all : FnP K "fits_all" s_fits_all a_fits_all d_fits_all
  g_fits_all : mg "fits_all" = some (.ref a_fits_all)
  a_steps_by : Addr
  d_steps_by : FuncData
  F_steps_by : FnP K "steps_by" s_steps_by a_steps_by d_steps_by
  g_steps_by : mg "steps_by" = some (.ref a_steps_by)
  a_is_order_by : Addr
  d_is_order_by : FuncData
  F_is_order_by : FnP K "is_order_by" s_is_order_by a_is_order_by d_is_order_by
  g_is_order_by : mg "is_order_by" = some (.ref a_is_order_by)
  a_steps_counted : Addr
  d_steps_counted : FuncData
  F_steps_counted : FnP K "steps_counted" s_steps_counted a_steps_counted d_steps_counted
  g_steps_counted : mg "steps_counted" = some (.ref a_steps_counted)
  a_law : Addr
  d_law : FuncData
  F_law : FnP K "law" s_law a_law d_law
  g_law : mg "law" = some (.ref a_law)
  z_len : mg "len" = none
  z_sum : mg "sum" = none
  z_int : mg "int" = none
  z_max : mg "max" = none
  z_range : mg "range" = none
  z_sorted : mg "sorted" = none
  z_isinstance : mg "isinstance" = none
  z_bool : mg "bool" = none
  z_list : mg "list" = none
  z_all : mg "all" = none
  z_tuple : mg "tuple" = none
  z_any : mg "any" = none
  z_zip : mg "zip" = none
  z_enumerate : mg "enumerate" = none
  z_set : mg "set" = none
  i_MOST_THINGS : ∃ t, mg "MOST_THINGS" = some (.int 5 t)
  i_MOST_LETTER : ∃ t, mg "MOST_LETTER" = some (.int 9 t)
  i_MOST_PART : ∃ t, mg "MOST_PART" = some (.int 12 t)
  i_MOST_JOINS : ∃ t, mg "MOST_JOINS" = some (.int 6 t)
  i_MOST_JOINED : ∃ t, mg "MOST_JOINED" = some (.int 500 t)
section
variable {P : Program} {w : World} {K : PySem.W.Frag} {mg : Str → Option Value} {base : Heap}
theorem sc__law_cell : FnScope N__law_cell ["script", "index"] (defScope s__law_cell) := ⟨by kernel_rfl, by kernel_rfl, by kernel_rfl, by decide +kernel, by kernel_rfl, by decide +kernel, by decide +kernel⟩
theorem b__law_cell (Ev : Gs K mg) : Binds K Ev.d__law_cell ["script", "index"] [] := Ev.F__law_cell.bindsN fun _ _ _ _ _ _ us hl => match us, hl with | [_, _], _ => rfl
theorem ok__law_cell (Ev : Gs K mg) : FnOk P w K mg base CX0 1 Ev.a__law_cell Ev.d__law_cell ["script", "index"] (spP K 2 m__law_cell) := by
  refine fnp N__law_cell 2 b__law_cell_ (by kernel_rfl) Ev.F__law_cell sc__law_cell rfl (by decide) fun cdv A outer s H E S hr => ?_
  unfold b__law_cell_
  exact (pds_cons
    (pds_if (pt_cmpD (op_ltA (u64 hr)) rd_ord (pd_var (pv 1)) (pd_callB call_len rcd_len (gl (by kernel_rfl)) Ev.z_len (by decide +kernel) (pda_cons (pd_var (pv 0)) pda_nil)) (nomark _)) (pds_one (pds_ret (pd_ix (pd_var (pv 0)) (pd_var (pv 1)) fun _ _ => rfl))) pds_nil)
    (pds_one (pds_ret (pd_mod (pd_callB (cr_sum rfl) rcd_sum (gl (by kernel_rfl)) Ev.z_sum (by decide +kernel) (pda_cons (pd_slice (pd_var (pv 0)) pdo_none (pdo_some pd_int)) pda_nil)) pd_int))))
theorem sc__law_generator : FnScope N__law_generator ["script", "index"] (defScope s__law_generator) := ⟨by kernel_rfl, by kernel_rfl, by kernel_rfl, by decide +kernel, by kernel_rfl, by decide +kernel, by decide +kernel⟩
theorem b__law_generator (Ev : Gs K mg) : Binds K Ev.d__law_generator ["script", "index"] [] := Ev.F__law_generator.bindsN fun _ _ _ _ _ _ us hl => match us, hl with | [_, _], _ => rfl
theorem ok__law_generator (Ev : Gs K mg) : FnOk P w K mg base CX0 2 Ev.a__law_generator Ev.d__law_generator ["script", "index"] (spF K 2 m__law_generator) := by
  refine fnf N__law_generator 2 b__law_generator_ (by kernel_rfl) Ev.F__law_generator sc__law_generator rfl (by decide) fun cdv A outer s H E S hr => ?_
  unfold b__law_generator_
  exact (pdf_cons (pds_set (i := 2) sc__law_generator.nd rfl (by first | exact Or.inl rfl | exact Or.inr rfl) (pdm_d (pd_fn (ok__law_cell Ev) (Room.mono hr (by decide)) (gl (by kernel_rfl)) Ev.g__law_cell Ev.F__law_cell.kp (b__law_cell Ev) pass0 (pda_cons (pd_var (pv 0)) (pda_cons (pd_var (pv 1)) pda_nil))))) (pdf_ret (pdm_n (pdn_lst (pda_cons (pd_mod (pd_callT call_int1 rcd_int1 (gl (by kernel_rfl)) Ev.z_int (by decide +kernel) (pda_cons (pd_callB (call_max2 rfl) rcd_max2 (gl (by kernel_rfl)) Ev.z_max (by decide +kernel) (pda_cons (pd_sub (pd_var (pv 2)) (pd_pow pd_int pd_int)) (pda_cons pd_int pda_nil))) pda_nil)) (pd_pow (pd_pow pd_int pd_int) pd_int)) (pda_cons (pd_mod (pd_callT call_int1 rcd_int1 (gl (by kernel_rfl)) Ev.z_int (by decide +kernel) (pda_cons (pd_var (pv 2)) pda_nil)) pd_int) (pda_cons (pd_mul pd_int (pd_var (pv 1))) pda_nil)))))))
theorem sc__law_hash : FnScope N__law_hash ["seed", "index"] (defScope s__law_hash) := ⟨by kernel_rfl, by kernel_rfl, by kernel_rfl, by decide +kernel, by kernel_rfl, by decide +kernel, by decide +kernel⟩
theorem b__law_hash (Ev : Gs K mg) : Binds K Ev.d__law_hash ["seed", "index"] [] := Ev.F__law_hash.bindsN fun _ _ _ _ _ _ us hl => match us, hl with | [_, _], _ => rfl
theorem ok__law_hash (Ev : Gs K mg) : FnOk P w K mg base CX0 1 Ev.a__law_hash Ev.d__law_hash ["seed", "index"] (spP K 2 m__law_hash) := by
  refine fnp N__law_hash 2 b__law_hash_ (by kernel_rfl) Ev.F__law_hash sc__law_hash rfl (by decide) fun cdv A outer s H E S hr => ?_
  unfold b__law_hash_
  exact (pds_cons
    (pds_set (i := 2) sc__law_hash.nd rfl (by first | exact Or.inl rfl | exact Or.inr rfl) (pdm_d (pd_mod (pd_callT call_int1 rcd_int1 (gl (by kernel_rfl)) Ev.z_int (by decide +kernel) (pda_cons (pd_add (pd_add (pd_add (pd_mul (pd_var (pv 0)) pd_int) (pd_mul (pd_mul pd_int (pd_var (pv 1))) (pd_var (pv 1)))) (pd_mul pd_int (pd_var (pv 1)))) pd_int) pda_nil)) pd_int)))
    (pds_cons
    (pds_set (i := 2) sc__law_hash.nd rfl (by first | exact Or.inl rfl | exact Or.inr rfl) (pdm_d (pd_mod (pd_callT call_int1 rcd_int1 (gl (by kernel_rfl)) Ev.z_int (by decide +kernel) (pda_cons (pd_add (pd_add (pd_mul (pd_var (pv 2)) (pd_var (pv 2))) (pd_mul pd_int (pd_var (pv 1)))) pd_int) pda_nil)) pd_int)))
    (pds_one (pds_ret (pd_mod (pd_callT call_int1 rcd_int1 (gl (by kernel_rfl)) Ev.z_int (by decide +kernel) (pda_cons (pd_mul (pd_var (pv 2)) pd_int) pda_nil)) pd_int)))))
theorem sc__law_random : FnScope N__law_random ["generator", "bound"] (defScope s__law_random) := ⟨by kernel_rfl, by kernel_rfl, by kernel_rfl, by decide +kernel, by kernel_rfl, by decide +kernel, by decide +kernel⟩
theorem b__law_random (Ev : Gs K mg) : Binds K Ev.d__law_random ["generator", "bound"] [] := Ev.F__law_random.bindsN fun _ _ _ _ _ _ us hl => match us, hl with | [_, _], _ => rfl
theorem ok__law_random (Ev : Gs K mg) : FnOk P w K mg base CX0 2 Ev.a__law_random Ev.d__law_random ["generator", "bound"] (spG K 1 m__law_random) := by
  refine fng N__law_random 1 b__law_random_ (by kernel_rfl) Ev.F__law_random sc__law_random rfl (by decide) fun cdv A outer s H E S hr => ?_
  unfold b__law_random_
  exact (pds_cons
    (pds_if (pt_cmpD (op_gtA (u64 hr)) rd_ord (pd_ownIx (pv 0) pd_int fun _ _ => rfl) pd_int (nomark _)) (pds_cons
    (pds_set (i := 2) sc__law_random.nd rfl (by first | exact Or.inl rfl | exact Or.inr rfl) (pdm_d (pd_mod (pd_callT call_int1 rcd_int1 (gl (by kernel_rfl)) Ev.z_int (by decide +kernel) (pda_cons (pd_ownIx (pv 0) pd_int fun _ _ => rfl) pda_nil)) (pd_var (pv 1)))))
    (pds_cons
    (pds_put (pdm_d (pd_fdiv (pd_ownIx (pv 0) pd_int fun _ _ => rfl) (pd_var (pv 1)))) (pv 0) pd_int)
    (pds_one (pds_ret (pd_var (pv 2)))))) pds_nil)
    (pds_cons
    (pds_set (i := 2) sc__law_random.nd rfl (by first | exact Or.inl rfl | exact Or.inr rfl) (pdm_d pd_int))
    (pds_cons
    (pds_for PassesOwn.never rfl (pdim (pdi_range1 (gl (by kernel_rfl)) Ev.z_range (pd_add pd_int (pd_fdiv (pd_bits (pd_var (pv 1))) pd_int)))) (pdg_name (pg_name (i := 3) sc__law_random.nd rfl (by first | exact Or.inl rfl | exact Or.inr rfl))) (pds_cons
    (pds_put (pdm_d (pd_add (pd_ownIx (pv 0) pd_int fun _ _ => rfl) pd_int)) (pv 0) pd_int)
    (pds_one (pds_set (i := 2) sc__law_random.nd rfl (by first | exact Or.inl rfl | exact Or.inr rfl) (pdm_d (pd_add (pd_mul (pd_var (pv 2)) pd_int) (pd_fn (ok__law_hash Ev) (Room.mono hr (by decide)) (gl (by kernel_rfl)) Ev.g__law_hash Ev.F__law_hash.kp (b__law_hash Ev) pass0 (pda_cons (pd_ownIx (pv 0) pd_int fun _ _ => rfl) (pda_cons (pd_ownIx (pv 0) pd_int fun _ _ => rfl) pda_nil)))))))))
    (pds_one (pds_ret (pd_mod (pd_callT call_int1 rcd_int1 (gl (by kernel_rfl)) Ev.z_int (by decide +kernel) (pda_cons (pd_var (pv 2)) pda_nil)) (pd_var (pv 1))))))))
theorem sc__law_parts : FnScope N__law_parts ["generator", "joins", "letters", "most"] (defScope s__law_parts) := ⟨by kernel_rfl, by kernel_rfl, by kernel_rfl, by decide +kernel, by kernel_rfl, by decide +kernel, by decide +kernel⟩
theorem b__law_parts (Ev : Gs K mg) : Binds K Ev.d__law_parts ["generator", "joins", "letters", "most"] [] := Ev.F__law_parts.bindsN fun _ _ _ _ _ _ us hl => match us, hl with | [_, _, _, _], _ => rfl
theorem ok__law_parts (Ev : Gs K mg) : FnOk P w K mg base CX0 3 Ev.a__law_parts Ev.d__law_parts ["generator", "joins", "letters", "most"] (spG K 3 m__law_parts) := by
  refine fng N__law_parts 3 b__law_parts_ (by kernel_rfl) Ev.F__law_parts sc__law_parts rfl (by decide) fun cdv A outer s H E S hr => ?_
  unfold b__law_parts_
  exact (pds_cons
    (pds_set (i := 4) sc__law_parts.nd rfl (by first | exact Or.inl rfl | exact Or.inr rfl) (pdm_n (pdn_lst pda_nil)))
    (pds_cons
    (pds_for PassesOwn.never rfl (pdim (pdi_list (pd_var (pv 1)))) (pdg_name (pg_name (i := 5) sc__law_parts.nd rfl (by first | exact Or.inl rfl | exact Or.inr rfl))) (pds_cons
    (pds_set (i := 6) sc__law_parts.nd rfl (by first | exact Or.inl rfl | exact Or.inr rfl) (pdm_d (pd_lst pda_nil)))
    (pds_cons
    (pds_for PassesOwn.never rfl (pdim_range1 (gl (by kernel_rfl)) Ev.z_range (pm_add (pdm_d pd_int) (pm_gen (ok__law_random Ev) (Room.mono hr (by decide)) (gl (by kernel_rfl)) Ev.g__law_random Ev.F__law_random.kp (b__law_random Ev) pass0 (pv 0) (pam_of (pda_cons (pd_var (pv 3)) pda_nil))))) (pdg_name (pg_name (i := 7) sc__law_parts.nd rfl (by first | exact Or.inl rfl | exact Or.inr rfl))) (pds_cons
    (pds_setLcM (i := 8) rfl sc__law_parts.nd rfl rfl (sw_true rfl rfl rfl (by decide +kernel)) (pdim (pdi_list (pd_var (pv 5)))) (blkOk_by (own := [(("thing" : Str), 9)]) (by kernel_rfl)) (by decide) (fun _ _ _ _ _ _ => (pdg_name (pg_name (i := 9) sc__law_parts.nd rfl (by first | exact Or.inl rfl | exact Or.inr rfl)))) (fun _ _ _ _ _ _ => pdts_nil) (fun _ _ _ _ _ _ => (pm_gen (ok__law_random Ev) (Room.mono hr (by decide)) (gl (by kernel_rfl)) Ev.g__law_random Ev.F__law_random.kp (b__law_random Ev) pass0 (pv 0) (pam_of (pda_cons (pd_var (pv 2)) pda_nil)))))
    (pds_one (pds_set (i := 6) sc__law_parts.nd rfl (by first | exact Or.inl rfl | exact Or.inr rfl) (pdm_d (pd_add (pd_var (pv 6)) (pd_mul (pd_lst (pda_cons (pd_var (pv 8)) pda_nil)) (pd_callT call_int1 rcd_int1 (gl (by kernel_rfl)) Ev.z_int (by decide +kernel) (pda_cons (pd_cmp (op_niA (u65 hr)) rd_in (pd_var (pv 8)) (pd_var (pv 6)) (by with_unfolding_all rfl)) pda_nil)))))))))
    (pds_one (pds_app (pv 4) (pdm_d (pd_tup (pda_cons (pd_var (pv 5)) (pda_cons (pd_callB (cr_sortD (u80 hr)) rcd_sortD (gl (by kernel_rfl)) Ev.z_sorted (by decide +kernel) (pda_cons (pd_var (pv 6)) pda_nil)) pda_nil)))))))))
    (pds_one (pds_retOwn (pv 4)))))
theorem sc__law_pick : FnScope N__law_pick ["generator", "things"] (defScope s__law_pick) := ⟨by kernel_rfl, by kernel_rfl, by kernel_rfl, by decide +kernel, by kernel_rfl, by decide +kernel, by decide +kernel⟩
theorem b__law_pick (Ev : Gs K mg) : Binds K Ev.d__law_pick ["generator", "things"] [] := Ev.F__law_pick.bindsN fun _ _ _ _ _ _ us hl => match us, hl with | [_, _], _ => rfl
theorem ok__law_pick (Ev : Gs K mg) : FnOk P w K mg base CX0 3 Ev.a__law_pick Ev.d__law_pick ["generator", "things"] (spG K 1 m__law_pick) := by
  refine fng N__law_pick 1 b__law_pick_ (by kernel_rfl) Ev.F__law_pick sc__law_pick rfl (by decide) fun cdv A outer s H E S hr => ?_
  unfold b__law_pick_
  exact (pds_one (pds_retM (pm_ix (pdm_d (pd_var (pv 1))) (pm_gen (ok__law_random Ev) (Room.mono hr (by decide)) (gl (by kernel_rfl)) Ev.g__law_random Ev.F__law_random.kp (b__law_random Ev) pass0 (pv 0) (pam_of (pda_cons (pd_callB call_len rcd_len (gl (by kernel_rfl)) Ev.z_len (by decide +kernel) (pda_cons (pd_var (pv 1)) pda_nil)) pda_nil))) fun _ _ => rfl)))
theorem sc__law_lots : FnScope N__law_lots ["many"] (defScope s__law_lots) := ⟨by kernel_rfl, by kernel_rfl, by kernel_rfl, by decide +kernel, by kernel_rfl, by decide +kernel, by decide +kernel⟩
theorem b__law_lots (Ev : Gs K mg) : Binds K Ev.d__law_lots ["many"] [] := Ev.F__law_lots.bindsN fun _ _ _ _ _ _ us hl => match us, hl with | [_], _ => rfl
theorem ok__law_lots (Ev : Gs K mg) : FnOk P w K mg base CX0 1 Ev.a__law_lots Ev.d__law_lots ["many"] (spP K 1 m__law_lots) := by
  refine fnp N__law_lots 1 b__law_lots_ (by kernel_rfl) Ev.F__law_lots sc__law_lots rfl (by decide) fun cdv A outer s H E S hr => ?_
  unfold b__law_lots_
  exact (pds_cons
    (pds_par rfl sc__law_lots.nd (i := 3) (j := 4) rfl rfl (by decide) rfl rfl (pdm_d (pd_lst (pda_cons (pd_lst pda_nil) pda_nil))) (pdm_d (pd_lst pda_nil)) rfl)
    (pds_cons
    (pds_for PassesOwn.never rfl (pdim (pdi_range1 (gl (by kernel_rfl)) Ev.z_range (pd_var (pv 0)))) (pdg_name (pg_name (i := 1) sc__law_lots.nd rfl (by first | exact Or.inl rfl | exact Or.inr rfl))) (pds_one (pds_set (i := 3) sc__law_lots.nd rfl (by first | exact Or.inl rfl | exact Or.inr rfl) (pdm_d (pd_add (pd_var (pv 3)) (pd_lc rfl sc__law_lots.nd (pdip (pdi_list (pd_var (pv 3)))) (blkOk_by (own := [(("lot" : Str), 5)]) (by kernel_rfl)) (by decide) (fun _ _ _ _ _ => (pdg_name (pg_name (i := 5) sc__law_lots.nd rfl (by first | exact Or.inl rfl | exact Or.inr rfl)))) (fun _ _ _ _ _ => pdts_nil) (fun _ _ _ _ _ => (pd_add (pd_var (pv 5)) (pd_lst (pda_cons (pd_var (pv 1)) pda_nil))))))))))
    (pds_cons
    (pds_for PassesOwn.never rfl (pdim (pdi_range1 (gl (by kernel_rfl)) Ev.z_range (pd_add (pd_var (pv 0)) pd_int))) (pdg_name (pg_name (i := 2) sc__law_lots.nd rfl (by first | exact Or.inl rfl | exact Or.inr rfl))) (pds_one (pds_set (i := 4) sc__law_lots.nd rfl (by first | exact Or.inl rfl | exact Or.inr rfl) (pdm_d (pd_add (pd_var (pv 4)) (pd_callB (cr_sortD (u80 hr)) rcd_sortD (gl (by kernel_rfl)) Ev.z_sorted (by decide +kernel) (pda_cons (pd_lc rfl sc__law_lots.nd (pdip (pdi_list (pd_var (pv 3)))) (blkOk_by (own := [(("lot" : Str), 5)]) (by kernel_rfl)) (by decide) (fun _ _ _ _ _ => (pdg_name (pg_name (i := 5) sc__law_lots.nd rfl (by first | exact Or.inl rfl | exact Or.inr rfl)))) (fun _ _ _ _ _ => (pdts_one (pt_cmpD (op_eqD (u64 hr)) rd_eq (pd_callB call_len rcd_len (gl (by kernel_rfl)) Ev.z_len (by decide +kernel) (pda_cons (pd_var (pv 5)) pda_nil)) (pd_var (pv 2)) (nomark _)))) (fun _ _ _ _ _ => (pd_var (pv 5)))) pda_nil)))))))
    (pds_one (pds_ret (pd_var (pv 4)))))))
theorem sc__law_joins : FnScope N__law_joins ["generator", "many"] (defScope s__law_joins) := ⟨by kernel_rfl, by kernel_rfl, by kernel_rfl, by decide +kernel, by kernel_rfl, by decide +kernel, by decide +kernel⟩
theorem b__law_joins (Ev : Gs K mg) : Binds K Ev.d__law_joins ["generator", "many"] [] := Ev.F__law_joins.bindsN fun _ _ _ _ _ _ us hl => match us, hl with | [_, _], _ => rfl
theorem ok__law_joins (Ev : Gs K mg) : FnOk P w K mg base CX0 4 Ev.a__law_joins Ev.d__law_joins ["generator", "many"] (spG K 1 m__law_joins) := by
  refine fng N__law_joins 1 b__law_joins_ (by kernel_rfl) Ev.F__law_joins sc__law_joins rfl (by decide) fun cdv A outer s H E S hr => ?_
  unfold b__law_joins_
  exact (pds_cons
    (pds_unp (pd_tup (pda_cons (pd_slice (pd_fn (ok__law_lots Ev) (Room.mono hr (by decide)) (gl (by kernel_rfl)) Ev.g__law_lots Ev.F__law_lots.kp (b__law_lots Ev) pass0 (pda_cons (pd_var (pv 1)) pda_nil)) (pdo_some pd_int) pdo_none) (pda_cons (pd_lst pda_nil) pda_nil))) (pdg_tup rfl (pdgs_cons (pg_name (i := 5) sc__law_joins.nd rfl (by first | exact Or.inl rfl | exact Or.inr rfl)) (pdgs_cons (pg_name (i := 4) sc__law_joins.nd rfl (by first | exact Or.inl rfl | exact Or.inr rfl)) pdgs_nil))))
    (pds_cons
    (pds_for PassesOwn.never rfl (pdim_range1 (gl (by kernel_rfl)) Ev.z_range (pm_add (pdm_d pd_int) (pm_gen (ok__law_random Ev) (Room.mono hr (by decide)) (gl (by kernel_rfl)) Ev.g__law_random Ev.F__law_random.kp (b__law_random Ev) pass0 (pv 0) (pam_of (pda_cons pd_int pda_nil))))) (pdg_name (pg_name (i := 2) sc__law_joins.nd rfl (by first | exact Or.inl rfl | exact Or.inr rfl))) (pds_cons
    (pds_set (i := 6) sc__law_joins.nd rfl (by first | exact Or.inl rfl | exact Or.inr rfl) (pm_gen (ok__law_pick Ev) (Room.mono hr (by decide)) (gl (by kernel_rfl)) Ev.g__law_pick Ev.F__law_pick.kp (b__law_pick Ev) pass0 (pv 0) (pam_of (pda_cons (pd_var (pv 5)) pda_nil))))
    (pds_one (pds_set (i := 4) sc__law_joins.nd rfl (by first | exact Or.inl rfl | exact Or.inr rfl) (pdm_d (pd_add (pd_var (pv 4)) (pd_mul (pd_lst (pda_cons (pd_var (pv 6)) pda_nil)) (pd_callT call_int1 rcd_int1 (gl (by kernel_rfl)) Ev.z_int (by decide +kernel) (pda_cons (pd_cmp (op_niA (u65 hr)) rd_in (pd_var (pv 6)) (pd_var (pv 4)) (by with_unfolding_all rfl)) pda_nil)))))))))
    (pds_cons
    (pds_setLc (i := 3) rfl sc__law_joins.nd rfl rfl (sw_true rfl rfl rfl (by decide +kernel)) (pdip (pdi_range1 (gl (by kernel_rfl)) Ev.z_range (pd_var (pv 1)))) (blkOk_by (own := [(("thing" : Str), 7)]) (by kernel_rfl)) (by decide) (fun _ _ _ _ _ => (pdg_name (pg_name (i := 7) sc__law_joins.nd rfl (by first | exact Or.inl rfl | exact Or.inr rfl)))) (fun _ _ _ _ _ => (pdts_one (pt_cmpD (op_eqD (u64 hr)) rd_eq (pd_lc rfl sc__law_joins.nd (pdip (pdi_list (pd_var (pv 4)))) (blkOk_by (own := [(("lot" : Str), 6)]) (by kernel_rfl)) (by decide) (fun _ _ _ _ _ => (pdg_name (pg_name (i := 6) sc__law_joins.nd rfl (by first | exact Or.inl rfl | exact Or.inr rfl)))) (fun _ _ _ _ _ => (pdts_one (pt_cmpD (op_inA (u65 hr)) rd_in (pd_var (pv 7)) (pd_var (pv 6)) (by with_unfolding_all rfl)))) (fun _ _ _ _ _ => (pd_var (pv 6)))) (pd_lst pda_nil) (nomark _)))) (fun _ _ _ _ _ => (pd_var (pv 7))))
    (pds_cons
    (pds_set (i := 4) sc__law_joins.nd rfl (by first | exact Or.inl rfl | exact Or.inr rfl) (pdm_d (pd_add (pd_var (pv 4)) (pd_if (pt_cmpD (op_neD (u64 hr)) rd_ne (pd_var (pv 3)) (pd_lst pda_nil) (nomark _)) (pd_lst (pda_cons (pd_var (pv 3)) pda_nil)) (pd_lst pda_nil)))))
    (pds_one (pds_ret (pd_lc rfl sc__law_joins.nd (pdip (pdi_list (pd_var (pv 5)))) (blkOk_by (own := [(("lot" : Str), 6)]) (by kernel_rfl)) (by decide) (fun _ _ _ _ _ => (pdg_name (pg_name (i := 6) sc__law_joins.nd rfl (by first | exact Or.inl rfl | exact Or.inr rfl)))) (fun _ _ _ _ _ => (pdts_one (pt_cmpD (op_inA (u65 hr)) rd_in (pd_var (pv 6)) (pd_var (pv 4)) (by with_unfolding_all rfl)))) (fun _ _ _ _ _ => (pd_var (pv 6))))))))))
theorem sc_is_whole : FnScope N_is_whole ["value"] (defScope s_is_whole) := ⟨by kernel_rfl, by kernel_rfl, by kernel_rfl, by decide +kernel, by kernel_rfl, by decide +kernel, by decide +kernel⟩
theorem b_is_whole (Ev : Gs K mg) : Binds K Ev.d_is_whole ["value"] [] := Ev.F_is_whole.bindsN fun _ _ _ _ _ _ us hl => match us, hl with | [_], _ => rfl
theorem ok_is_whole (Ev : Gs K mg) : FnOk P w K mg base CX0 1 Ev.a_is_whole Ev.d_is_whole ["value"] (spP K 1 m_is_whole) := by
  refine fnp N_is_whole 1 b_is_whole_ (by kernel_rfl) Ev.F_is_whole sc_is_whole rfl (by decide) fun cdv A outer s H E S hr => ?_
  unfold b_is_whole_
  exact (pds_one (pds_ret (pd_and (pd_isi (t := .int) (gl (by kernel_rfl)) Ev.z_isinstance (pd_var (pv 0)) (pe_tyN (gl (by kernel_rfl)) Ev.z_int (by decide +kernel))) (pd_one (pd_not (pd_isi (t := .bool) (gl (by kernel_rfl)) Ev.z_isinstance (pd_var (pv 0)) (pe_tyN (gl (by kernel_rfl)) Ev.z_bool (by decide +kernel))))))))
theorem sc_is_many : FnScope N_is_many ["value"] (defScope s_is_many) := ⟨by kernel_rfl, by kernel_rfl, by kernel_rfl, by decide +kernel, by kernel_rfl, by decide +kernel, by decide +kernel⟩
theorem b_is_many (Ev : Gs K mg) : Binds K Ev.d_is_many ["value"] [] := Ev.F_is_many.bindsN fun _ _ _ _ _ _ us hl => match us, hl with | [_], _ => rfl
theorem ok_is_many (Ev : Gs K mg) : FnOk P w K mg base CX0 2 Ev.a_is_many Ev.d_is_many ["value"] (spP K 1 m_is_many) := by
  refine fnp N_is_many 1 b_is_many_ (by kernel_rfl) Ev.F_is_many sc_is_many rfl (by decide) fun cdv A outer s H E S hr => ?_
  unfold b_is_many_
  exact (pds_one (pds_ret (pd_and (pd_fn (ok_is_whole Ev) (Room.mono hr (by decide)) (gl (by kernel_rfl)) Ev.g_is_whole Ev.F_is_whole.kp (b_is_whole Ev) pass0 (pda_cons (pd_var (pv 0)) pda_nil)) (pd_one (pd_chain (op_leA (u64 hr)) rd_ord (op_leA (u64 hr)) rd_ord pd_int (pd_var (pv 0)) (pd_gint (gl (by kernel_rfl)) Ev.i_MOST_THINGS) (by with_unfolding_all rfl))))))
theorem sc_check_many : FnScope N_check_many ["many"] (defScope s_check_many) := ⟨by kernel_rfl, by kernel_rfl, by kernel_rfl, by decide +kernel, by kernel_rfl, by decide +kernel, by decide +kernel⟩
theorem b_check_many (Ev : Gs K mg) : Binds K Ev.d_check_many ["many"] [] := Ev.F_check_many.bindsN fun _ _ _ _ _ _ us hl => match us, hl with | [_], _ => rfl
theorem ok_check_many (Ev : Gs K mg) : FnOk P w K mg base CX0 3 Ev.a_check_many Ev.d_check_many ["many"] (spP K 1 m_check_many) := by
  refine fnp N_check_many 1 b_check_many_ (by kernel_rfl) Ev.F_check_many sc_check_many rfl (by decide) fun cdv A outer s H E S hr => ?_
  unfold b_check_many_
  exact (pds_one (pds_if (pdt_not (pt_of (pd_fn (ok_is_many Ev) (Room.mono hr (by decide)) (gl (by kernel_rfl)) Ev.g_is_many Ev.F_is_many.kp (b_is_many Ev) pass0 (pda_cons (pd_var (pv 0)) pda_nil)))) (pds_one pds_stuck) pds_nil))
theorem sc_is_lot_by : FnScope N_is_lot_by ["many", "value"] (defScope s_is_lot_by) := ⟨by kernel_rfl, by kernel_rfl, by kernel_rfl, by decide +kernel, by kernel_rfl, by decide +kernel, by decide +kernel⟩
theorem b_is_lot_by (Ev : Gs K mg) : Binds K Ev.d_is_lot_by ["many", "value"] [] := Ev.F_is_lot_by.bindsN fun _ _ _ _ _ _ us hl => match us, hl with | [_, _], _ => rfl
theorem ok_is_lot_by (Ev : Gs K mg) : FnOk P w K mg base CX0 2 Ev.a_is_lot_by Ev.d_is_lot_by ["many", "value"] (spP K 2 m_is_lot_by) := by
  refine fnp N_is_lot_by 2 b_is_lot_by_ (by kernel_rfl) Ev.F_is_lot_by sc_is_lot_by rfl (by decide) fun cdv A outer s H E S hr => ?_
  unfold b_is_lot_by_
  exact (pds_cons
    (pds_if (pdt_w (pwd_or (pdt_not (pt_of (pd_isi (t := .list) (gl (by kernel_rfl)) Ev.z_isinstance (pd_var (pv 1)) (pe_tyN (gl (by kernel_rfl)) Ev.z_list (by decide +kernel))))) (pwd_or1 (pdt_not (pt_of (pd_callB (cr_all rfl) rcd_all (gl (by kernel_rfl)) Ev.z_all (by decide +kernel) (pda_cons (pd_lc rfl sc_is_lot_by.nd (pdip (pdi_list (pd_var (pv 1)))) (blkOk_by (own := [(("one" : Str), 3)]) (by kernel_rfl)) (by decide) (fun _ _ _ _ _ => (pdg_name (pg_name (i := 3) sc_is_lot_by.nd rfl (by first | exact Or.inl rfl | exact Or.inr rfl)))) (fun _ _ _ _ _ => pdts_nil) (fun _ _ _ _ _ => (pd_and (pd_fn (ok_is_whole Ev) (Room.mono hr (by decide)) (gl (by kernel_rfl)) Ev.g_is_whole Ev.F_is_whole.kp (b_is_whole Ev) pass0 (pda_cons (pd_var (pv 3)) pda_nil)) (pd_one (pd_chain (op_leA (u64 hr)) rd_ord (op_ltA (u64 hr)) rd_ord pd_int (pd_var (pv 3)) (pd_var (pv 0)) (by with_unfolding_all rfl)))))) pda_nil))))))) (pds_one (pds_ret pd_bl)) pds_nil)
    (pds_one (pds_ret (pd_callB (cr_all rfl) rcd_all (gl (by kernel_rfl)) Ev.z_all (by decide +kernel) (pda_cons (pd_lc rfl sc_is_lot_by.nd (pdip (pdi_range2 (gl (by kernel_rfl)) Ev.z_range pd_int (pd_callB call_len rcd_len (gl (by kernel_rfl)) Ev.z_len (by decide +kernel) (pda_cons (pd_var (pv 1)) pda_nil)))) (blkOk_by (own := [(("at" : Str), 2)]) (by kernel_rfl)) (by decide) (fun _ _ _ _ _ => (pdg_name (pg_name (i := 2) sc_is_lot_by.nd rfl (by first | exact Or.inl rfl | exact Or.inr rfl)))) (fun _ _ _ _ _ => pdts_nil) (fun _ _ _ _ _ => (pd_cmp (op_ltA (u64 hr)) rd_ord (pd_ix (pd_var (pv 1)) (pd_sub (pd_var (pv 2)) pd_int) fun _ _ => rfl) (pd_ix (pd_var (pv 1)) (pd_var (pv 2)) fun _ _ => rfl) (nomark _)))) pda_nil)))))
theorem sc_are_letters : FnScope N_are_letters ["value", "many"] (defScope s_are_letters) := ⟨by kernel_rfl, by kernel_rfl, by kernel_rfl, by decide +kernel, by kernel_rfl, by decide +kernel, by decide +kernel⟩
theorem b_are_letters (Ev : Gs K mg) : Binds K Ev.d_are_letters ["value", "many"] [] := Ev.F_are_letters.bindsN fun _ _ _ _ _ _ us hl => match us, hl with | [_, _], _ => rfl
theorem ok_are_letters (Ev : Gs K mg) : FnOk P w K mg base CX0 2 Ev.a_are_letters Ev.d_are_letters ["value", "many"] (spP K 2 m_are_letters) := by
  refine fnp N_are_letters 2 b_are_letters_ (by kernel_rfl) Ev.F_are_letters sc_are_letters rfl (by decide) fun cdv A outer s H E S hr => ?_
  unfold b_are_letters_
  exact (pds_cons
    (pds_if (pdt_w (pwd_or (pdt_not (pt_of (pd_isi (t := .list) (gl (by kernel_rfl)) Ev.z_isinstance (pd_var (pv 0)) (pe_tyN (gl (by kernel_rfl)) Ev.z_list (by decide +kernel))))) (pwd_or1 (pt_cmpD (op_neD (u64 hr)) rd_ne (pd_callB call_len rcd_len (gl (by kernel_rfl)) Ev.z_len (by decide +kernel) (pda_cons (pd_var (pv 0)) pda_nil)) (pd_var (pv 1)) (nomark _))))) (pds_one (pds_ret pd_bl)) pds_nil)
    (pds_one (pds_ret (pd_callB (cr_all rfl) rcd_all (gl (by kernel_rfl)) Ev.z_all (by decide +kernel) (pda_cons (pd_lc rfl sc_are_letters.nd (pdip (pdi_list (pd_var (pv 0)))) (blkOk_by (own := [(("one" : Str), 2)]) (by kernel_rfl)) (by decide) (fun _ _ _ _ _ => (pdg_name (pg_name (i := 2) sc_are_letters.nd rfl (by first | exact Or.inl rfl | exact Or.inr rfl)))) (fun _ _ _ _ _ => pdts_nil) (fun _ _ _ _ _ => (pd_and (pd_fn (ok_is_whole Ev) (Room.mono hr (by decide)) (gl (by kernel_rfl)) Ev.g_is_whole Ev.F_is_whole.kp (b_is_whole Ev) pass0 (pda_cons (pd_var (pv 2)) pda_nil)) (pd_one (pd_chain (op_leA (u64 hr)) rd_ord (op_leA (u64 hr)) rd_ord pd_int (pd_var (pv 2)) (pd_gint (gl (by kernel_rfl)) Ev.i_MOST_LETTER) (by with_unfolding_all rfl)))))) pda_nil)))))
theorem sc_is_part_by : FnScope N_is_part_by ["many", "value"] (defScope s_is_part_by) := ⟨by kernel_rfl, by kernel_rfl, by kernel_rfl, by decide +kernel, by kernel_rfl, by decide +kernel, by decide +kernel⟩
theorem b_is_part_by (Ev : Gs K mg) : Binds K Ev.d_is_part_by ["many", "value"] [] := Ev.F_is_part_by.bindsN fun _ _ _ _ _ _ us hl => match us, hl with | [_, _], _ => rfl
theorem ok_is_part_by (Ev : Gs K mg) : FnOk P w K mg base CX0 3 Ev.a_is_part_by Ev.d_is_part_by ["many", "value"] (spP K 2 m_is_part_by) := by
  refine fnp N_is_part_by 2 b_is_part_by_ (by kernel_rfl) Ev.F_is_part_by sc_is_part_by rfl (by decide) fun cdv A outer s H E S hr => ?_
  unfold b_is_part_by_
  exact (pds_cons
    (pds_if (pdt_w (pwd_or (pdt_not (pt_of (pd_isi (t := .tuple) (gl (by kernel_rfl)) Ev.z_isinstance (pd_var (pv 1)) (pe_tyN (gl (by kernel_rfl)) Ev.z_tuple (by decide +kernel))))) (pwd_or (pt_cmpD (op_neD (u64 hr)) rd_ne (pd_callB call_len rcd_len (gl (by kernel_rfl)) Ev.z_len (by decide +kernel) (pda_cons (pd_var (pv 1)) pda_nil)) pd_int (nomark _)) (pwd_or (pdt_not (pt_of (pd_fn (ok_is_lot_by Ev) (Room.mono hr (by decide)) (gl (by kernel_rfl)) Ev.g_is_lot_by Ev.F_is_lot_by.kp (b_is_lot_by Ev) pass0 (pda_cons (pd_var (pv 0)) (pda_cons (pd_ix (pd_var (pv 1)) pd_int fun _ _ => rfl) pda_nil))))) (pwd_or1 (pt_cmpD (op_eqD (u64 hr)) rd_eq (pd_ix (pd_var (pv 1)) pd_int fun _ _ => rfl) (pd_lst pda_nil) (nomark _))))))) (pds_one (pds_ret pd_bl)) pds_nil)
    (pds_cons
    (pds_unp (pd_var (pv 1)) (pdg_tup rfl (pdgs_cons (pg_name (i := 2) sc_is_part_by.nd rfl (by first | exact Or.inl rfl | exact Or.inr rfl)) (pdgs_cons (pg_name (i := 3) sc_is_part_by.nd rfl (by first | exact Or.inl rfl | exact Or.inr rfl)) pdgs_nil))))
    (pds_cons
    (pds_if (pdt_w (pwd_or (pdt_not (pt_of (pd_isi (t := .list) (gl (by kernel_rfl)) Ev.z_isinstance (pd_var (pv 3)) (pe_tyN (gl (by kernel_rfl)) Ev.z_list (by decide +kernel))))) (pwd_or1 (pdt_not (pt_chainD (op_leA (u64 hr)) rd_ord (op_leA (u64 hr)) rd_ord pd_int (pd_callB call_len rcd_len (gl (by kernel_rfl)) Ev.z_len (by decide +kernel) (pda_cons (pd_var (pv 3)) pda_nil)) (pd_gint (gl (by kernel_rfl)) Ev.i_MOST_PART) (by with_unfolding_all rfl)))))) (pds_one (pds_ret pd_bl)) pds_nil)
    (pds_cons
    (pds_if (pdt_not (pt_of (pd_callB (cr_all rfl) rcd_all (gl (by kernel_rfl)) Ev.z_all (by decide +kernel) (pda_cons (pd_lc rfl sc_is_part_by.nd (pdip (pdi_list (pd_var (pv 3)))) (blkOk_by (own := [(("row" : Str), 5)]) (by kernel_rfl)) (by decide) (fun _ _ _ _ _ => (pdg_name (pg_name (i := 5) sc_is_part_by.nd rfl (by first | exact Or.inl rfl | exact Or.inr rfl)))) (fun _ _ _ _ _ => pdts_nil) (fun _ _ _ _ _ => (pd_fn (ok_are_letters Ev) (Room.mono hr (by decide)) (gl (by kernel_rfl)) Ev.g_are_letters Ev.F_are_letters.kp (b_are_letters Ev) pass0 (pda_cons (pd_var (pv 5)) (pda_cons (pd_callB call_len rcd_len (gl (by kernel_rfl)) Ev.z_len (by decide +kernel) (pda_cons (pd_var (pv 2)) pda_nil)) pda_nil))))) pda_nil)))) (pds_one (pds_ret pd_bl)) pds_nil)
    (pds_one (pds_ret (pd_callB (cr_all rfl) rcd_all (gl (by kernel_rfl)) Ev.z_all (by decide +kernel) (pda_cons (pd_lc rfl sc_is_part_by.nd (pdip (pdi_range2 (gl (by kernel_rfl)) Ev.z_range pd_int (pd_callB call_len rcd_len (gl (by kernel_rfl)) Ev.z_len (by decide +kernel) (pda_cons (pd_var (pv 3)) pda_nil)))) (blkOk_by (own := [(("at" : Str), 4)]) (by kernel_rfl)) (by decide) (fun _ _ _ _ _ => (pdg_name (pg_name (i := 4) sc_is_part_by.nd rfl (by first | exact Or.inl rfl | exact Or.inr rfl)))) (fun _ _ _ _ _ => pdts_nil) (fun _ _ _ _ _ => (pd_cmp (op_ltA (u64 hr)) rd_ord (pd_ix (pd_var (pv 3)) (pd_sub (pd_var (pv 4)) pd_int) fun _ _ => rfl) (pd_ix (pd_var (pv 3)) (pd_var (pv 4)) fun _ _ => rfl) (nomark _)))) pda_nil))))))))
theorem sc_lots_of : FnScope N_lots_of ["many"] (defScope s_lots_of) := ⟨by kernel_rfl, by kernel_rfl, by kernel_rfl, by decide +kernel, by kernel_rfl, by decide +kernel, by decide +kernel⟩
theorem b_lots_of (Ev : Gs K mg) : Binds K Ev.d_lots_of ["many"] [] := Ev.F_lots_of.bindsN fun _ _ _ _ _ _ us hl => match us, hl with | [_], _ => rfl
theorem ok_lots_of (Ev : Gs K mg) : FnOk P w K mg base CX0 1 Ev.a_lots_of Ev.d_lots_of ["many"] (spP K 1 m_lots_of) := by
  refine fnp N_lots_of 1 b_lots_of_ (by kernel_rfl) Ev.F_lots_of sc_lots_of rfl (by decide) fun cdv A outer s H E S hr => ?_
  unfold b_lots_of_
  exact (pds_cons
    (pds_set (i := 1) sc_lots_of.nd rfl (by first | exact Or.inl rfl | exact Or.inr rfl) (pdm_d (pd_lst (pda_cons (pd_lst pda_nil) pda_nil))))
    (pds_cons
    (pds_for PassesOwn.never rfl (pdim (pdi_range1 (gl (by kernel_rfl)) Ev.z_range (pd_var (pv 0)))) (pdg_name (pg_name (i := 2) sc_lots_of.nd rfl (by first | exact Or.inl rfl | exact Or.inr rfl))) (pds_one (pds_set (i := 1) sc_lots_of.nd rfl (by first | exact Or.inl rfl | exact Or.inr rfl) (pdm_d (pd_add (pd_var (pv 1)) (pd_lc rfl sc_lots_of.nd (pdip (pdi_list (pd_var (pv 1)))) (blkOk_by (own := [(("lot" : Str), 4)]) (by kernel_rfl)) (by decide) (fun _ _ _ _ _ => (pdg_name (pg_name (i := 4) sc_lots_of.nd rfl (by first | exact Or.inl rfl | exact Or.inr rfl)))) (fun _ _ _ _ _ => pdts_nil) (fun _ _ _ _ _ => (pd_add (pd_var (pv 4)) (pd_lst (pda_cons (pd_var (pv 2)) pda_nil))))))))))
    (pds_one (pds_ret (pd_lc rfl sc_lots_of.nd (pdip (pdi_list (pd_callB (cr_sortD (u80 hr)) rcd_sortD (gl (by kernel_rfl)) Ev.z_sorted (by decide +kernel) (pda_cons (pd_lc rfl sc_lots_of.nd (pdip (pdi_list (pd_var (pv 1)))) (blkOk_by (own := [(("lot" : Str), 4)]) (by kernel_rfl)) (by decide) (fun _ _ _ _ _ => (pdg_name (pg_name (i := 4) sc_lots_of.nd rfl (by first | exact Or.inl rfl | exact Or.inr rfl)))) (fun _ _ _ _ _ => pdts_nil) (fun _ _ _ _ _ => (pd_tup (pda_cons (pd_callB call_len rcd_len (gl (by kernel_rfl)) Ev.z_len (by decide +kernel) (pda_cons (pd_var (pv 4)) pda_nil)) (pda_cons (pd_var (pv 4)) pda_nil))))) pda_nil)))) (blkOk_by (own := [(("_" : Str), 3), (("lot" : Str), 4)]) (by kernel_rfl)) (by decide) (fun _ _ _ _ _ => (pdg_tup rfl (pdgs_cons (pg_name (i := 3) sc_lots_of.nd rfl (by first | exact Or.inl rfl | exact Or.inr rfl)) (pdgs_cons (pg_name (i := 4) sc_lots_of.nd rfl (by first | exact Or.inl rfl | exact Or.inr rfl)) pdgs_nil)))) (fun _ _ _ _ _ => pdts_nil) (fun _ _ _ _ _ => (pd_var (pv 4))))))))
theorem sc_are_parts_by : FnScope N_are_parts_by ["many", "value"] (defScope s_are_parts_by) := ⟨by kernel_rfl, by kernel_rfl, by kernel_rfl, by decide +kernel, by kernel_rfl, by decide +kernel, by decide +kernel⟩
theorem b_are_parts_by (Ev : Gs K mg) : Binds K Ev.d_are_parts_by ["many", "value"] [] := Ev.F_are_parts_by.bindsN fun _ _ _ _ _ _ us hl => match us, hl with | [_, _], _ => rfl
theorem ok_are_parts_by (Ev : Gs K mg) : FnOk P w K mg base CX0 4 Ev.a_are_parts_by Ev.d_are_parts_by ["many", "value"] (spP K 2 m_are_parts_by) := by
  refine fnp N_are_parts_by 2 b_are_parts_by_ (by kernel_rfl) Ev.F_are_parts_by sc_are_parts_by rfl (by decide) fun cdv A outer s H E S hr => ?_
  unfold b_are_parts_by_
  exact (pds_cons
    (pds_if (pdt_w (pwd_or (pdt_not (pt_of (pd_isi (t := .list) (gl (by kernel_rfl)) Ev.z_isinstance (pd_var (pv 1)) (pe_tyN (gl (by kernel_rfl)) Ev.z_list (by decide +kernel))))) (pwd_or1 (pdt_not (pt_chainD (op_leA (u64 hr)) rd_ord (op_leA (u64 hr)) rd_ord pd_int (pd_callB call_len rcd_len (gl (by kernel_rfl)) Ev.z_len (by decide +kernel) (pda_cons (pd_var (pv 1)) pda_nil)) (pd_gint (gl (by kernel_rfl)) Ev.i_MOST_JOINS) (by with_unfolding_all rfl)))))) (pds_one (pds_ret pd_bl)) pds_nil)
    (pds_cons
    (pds_if (pdt_not (pt_of (pd_callB (cr_all rfl) rcd_all (gl (by kernel_rfl)) Ev.z_all (by decide +kernel) (pda_cons (pd_lc rfl sc_are_parts_by.nd (pdip (pdi_list (pd_var (pv 1)))) (blkOk_by (own := [(("part" : Str), 6)]) (by kernel_rfl)) (by decide) (fun _ _ _ _ _ => (pdg_name (pg_name (i := 6) sc_are_parts_by.nd rfl (by first | exact Or.inl rfl | exact Or.inr rfl)))) (fun _ _ _ _ _ => pdts_nil) (fun _ _ _ _ _ => (pd_fn (ok_is_part_by Ev) (Room.mono hr (by decide)) (gl (by kernel_rfl)) Ev.g_is_part_by Ev.F_is_part_by.kp (b_is_part_by Ev) pass0 (pda_cons (pd_var (pv 0)) (pda_cons (pd_var (pv 6)) pda_nil))))) pda_nil)))) (pds_one (pds_ret pd_bl)) pds_nil)
    (pds_cons
    (pds_set (i := 2) sc_are_parts_by.nd rfl (by first | exact Or.inl rfl | exact Or.inr rfl) (pdm_d (pd_lc rfl sc_are_parts_by.nd (pdip (pdi_list (pd_var (pv 1)))) (blkOk_by (own := [(("lot" : Str), 3), (("_" : Str), 4)]) (by kernel_rfl)) (by decide) (fun _ _ _ _ _ => (pdg_tup rfl (pdgs_cons (pg_name (i := 3) sc_are_parts_by.nd rfl (by first | exact Or.inl rfl | exact Or.inr rfl)) (pdgs_cons (pg_name (i := 4) sc_are_parts_by.nd rfl (by first | exact Or.inl rfl | exact Or.inr rfl)) pdgs_nil)))) (fun _ _ _ _ _ => pdts_nil) (fun _ _ _ _ _ => (pd_index (u65 hr) (pd_fn (ok_lots_of Ev) (Room.mono hr (by decide)) (gl (by kernel_rfl)) Ev.g_lots_of Ev.F_lots_of.kp (b_lots_of Ev) pass0 (pda_cons (pd_var (pv 0)) pda_nil)) (pda_cons (pd_var (pv 3)) pda_nil))))))
    (pds_cons
    (pds_if (pdt_not (pt_of (pd_callB (cr_all rfl) rcd_all (gl (by kernel_rfl)) Ev.z_all (by decide +kernel) (pda_cons (pd_lc rfl sc_are_parts_by.nd (pdip (pdi_range2 (gl (by kernel_rfl)) Ev.z_range pd_int (pd_callB call_len rcd_len (gl (by kernel_rfl)) Ev.z_len (by decide +kernel) (pda_cons (pd_var (pv 2)) pda_nil)))) (blkOk_by (own := [(("at" : Str), 7)]) (by kernel_rfl)) (by decide) (fun _ _ _ _ _ => (pdg_name (pg_name (i := 7) sc_are_parts_by.nd rfl (by first | exact Or.inl rfl | exact Or.inr rfl)))) (fun _ _ _ _ _ => pdts_nil) (fun _ _ _ _ _ => (pd_cmp (op_ltA (u64 hr)) rd_ord (pd_ix (pd_var (pv 2)) (pd_sub (pd_var (pv 7)) pd_int) fun _ _ => rfl) (pd_ix (pd_var (pv 2)) (pd_var (pv 7)) fun _ _ => rfl) (nomark _)))) pda_nil)))) (pds_one (pds_ret pd_bl)) pds_nil)
    (pds_one (pds_ret (pd_callB (cr_all rfl) rcd_all (gl (by kernel_rfl)) Ev.z_all (by decide +kernel) (pda_cons (pd_lc rfl sc_are_parts_by.nd (pdip (pdi_range1 (gl (by kernel_rfl)) Ev.z_range (pd_var (pv 0)))) (blkOk_by (own := [(("thing" : Str), 5)]) (by kernel_rfl)) (by decide) (fun _ _ _ _ _ => (pdg_name (pg_name (i := 5) sc_are_parts_by.nd rfl (by first | exact Or.inl rfl | exact Or.inr rfl)))) (fun _ _ _ _ _ => pdts_nil) (fun _ _ _ _ _ => (pd_callB (cr_any rfl) rcd_any (gl (by kernel_rfl)) Ev.z_any (by decide +kernel) (pda_cons (pd_lc rfl sc_are_parts_by.nd (pdip (pdi_list (pd_var (pv 1)))) (blkOk_by (own := [(("lot" : Str), 3), (("_" : Str), 4)]) (by kernel_rfl)) (by decide) (fun _ _ _ _ _ => (pdg_tup rfl (pdgs_cons (pg_name (i := 3) sc_are_parts_by.nd rfl (by first | exact Or.inl rfl | exact Or.inr rfl)) (pdgs_cons (pg_name (i := 4) sc_are_parts_by.nd rfl (by first | exact Or.inl rfl | exact Or.inr rfl)) pdgs_nil)))) (fun _ _ _ _ _ => pdts_nil) (fun _ _ _ _ _ => (pd_cmp (op_inA (u65 hr)) rd_in (pd_var (pv 5)) (pd_var (pv 3)) (by with_unfolding_all rfl)))) pda_nil)))) pda_nil))))))))
theorem sc_check_parts : FnScope N_check_parts ["many", "parts"] (defScope s_check_parts) := ⟨by kernel_rfl, by kernel_rfl, by kernel_rfl, by decide +kernel, by kernel_rfl, by decide +kernel, by decide +kernel⟩
theorem b_check_parts (Ev : Gs K mg) : Binds K Ev.d_check_parts ["many", "parts"] [] := Ev.F_check_parts.bindsN fun _ _ _ _ _ _ us hl => match us, hl with | [_, _], _ => rfl
theorem ok_check_parts (Ev : Gs K mg) : FnOk P w K mg base CX0 5 Ev.a_check_parts Ev.d_check_parts ["many", "parts"] (spP K 2 m_check_parts) := by
  refine fnp N_check_parts 2 b_check_parts_ (by kernel_rfl) Ev.F_check_parts sc_check_parts rfl (by decide) fun cdv A outer s H E S hr => ?_
  unfold b_check_parts_
  exact (pds_cons
    (pds_drop (pdm_d (pd_fn (ok_check_many Ev) (Room.mono hr (by decide)) (gl (by kernel_rfl)) Ev.g_check_many Ev.F_check_many.kp (b_check_many Ev) pass0 (pda_cons (pd_var (pv 0)) pda_nil))))
    (pds_one (pds_if (pdt_not (pt_of (pd_fn (ok_are_parts_by Ev) (Room.mono hr (by decide)) (gl (by kernel_rfl)) Ev.g_are_parts_by Ev.F_are_parts_by.kp (b_are_parts_by Ev) pass0 (pda_cons (pd_var (pv 0)) (pda_cons (pd_var (pv 1)) pda_nil))))) (pds_one pds_stuck) pds_nil)))
theorem sc_common_letters : FnScope N_common_letters ["lot", "letters", "others"] (defScope s_common_letters) := ⟨by kernel_rfl, by kernel_rfl, by kernel_rfl, by decide +kernel, by kernel_rfl, by decide +kernel, by decide +kernel⟩
theorem b_common_letters (Ev : Gs K mg) : Binds K Ev.d_common_letters ["lot", "letters", "others"] [] := Ev.F_common_letters.bindsN fun _ _ _ _ _ _ us hl => match us, hl with | [_, _, _], _ => rfl
theorem ok_common_letters (Ev : Gs K mg) : FnOk P w K mg base CX0 1 Ev.a_common_letters Ev.d_common_letters ["lot", "letters", "others"] (spP K 3 m_common_letters) := by
  refine fnp N_common_letters 3 b_common_letters_ (by kernel_rfl) Ev.F_common_letters sc_common_letters rfl (by decide) fun cdv A outer s H E S hr => ?_
  unfold b_common_letters_
  exact (pds_one (pds_ret (pd_lc rfl sc_common_letters.nd (pdip (pdi_zipS (gl (by kernel_rfl)) Ev.z_zip (pd_var (pv 0)) (pd_var (pv 1)) pe_bl)) (blkOk_by (own := [(("thing" : Str), 3), (("letter" : Str), 4)]) (by kernel_rfl)) (by decide) (fun _ _ _ _ _ => (pdg_tup rfl (pdgs_cons (pg_name (i := 3) sc_common_letters.nd rfl (by first | exact Or.inl rfl | exact Or.inr rfl)) (pdgs_cons (pg_name (i := 4) sc_common_letters.nd rfl (by first | exact Or.inl rfl | exact Or.inr rfl)) pdgs_nil)))) (fun _ _ _ _ _ => (pdts_one (pt_cmpD (op_inA (u65 hr)) rd_in (pd_var (pv 3)) (pd_var (pv 2)) (by with_unfolding_all rfl)))) (fun _ _ _ _ _ => (pd_var (pv 4))))))
theorem sc_stays : FnScope N_stays ["part", "other"] (defScope s_stays) := ⟨by kernel_rfl, by kernel_rfl, by kernel_rfl, by decide +kernel, by kernel_rfl, by decide +kernel, by decide +kernel⟩
theorem b_stays (Ev : Gs K mg) : Binds K Ev.d_stays ["part", "other"] [] := Ev.F_stays.bindsN fun _ _ _ _ _ _ us hl => match us, hl with | [_, _], _ => rfl
theorem ok_stays (Ev : Gs K mg) : FnOk P w K mg base CX0 2 Ev.a_stays Ev.d_stays ["part", "other"] (spP K 2 m_stays) := by
  refine fnp N_stays 2 b_stays_ (by kernel_rfl) Ev.F_stays sc_stays rfl (by decide) fun cdv A outer s H E S hr => ?_
  unfold b_stays_
  exact (pds_cons
    (pds_unp (pd_var (pv 0)) (pdg_tup rfl (pdgs_cons (pg_name (i := 3) sc_stays.nd rfl (by first | exact Or.inl rfl | exact Or.inr rfl)) (pdgs_cons (pg_name (i := 4) sc_stays.nd rfl (by first | exact Or.inl rfl | exact Or.inr rfl)) pdgs_nil))))
    (pds_cons
    (pds_set (i := 2) sc_stays.nd rfl (by first | exact Or.inl rfl | exact Or.inr rfl) (pdm_d (pd_lc rfl sc_stays.nd (pdip (pdi_list (pd_ix (pd_var (pv 1)) pd_int fun _ _ => rfl))) (blkOk_by (own := [(("letters" : Str), 5)]) (by kernel_rfl)) (by decide) (fun _ _ _ _ _ => (pdg_name (pg_name (i := 5) sc_stays.nd rfl (by first | exact Or.inl rfl | exact Or.inr rfl)))) (fun _ _ _ _ _ => pdts_nil) (fun _ _ _ _ _ => (pd_fn (ok_common_letters Ev) (Room.mono hr (by decide)) (gl (by kernel_rfl)) Ev.g_common_letters Ev.F_common_letters.kp (b_common_letters Ev) pass0 (pda_cons (pd_ix (pd_var (pv 1)) pd_int fun _ _ => rfl) (pda_cons (pd_var (pv 5)) (pda_cons (pd_var (pv 3)) pda_nil))))))))
    (pds_one (pds_ret (pd_lc rfl sc_stays.nd (pdip (pdi_list (pd_var (pv 4)))) (blkOk_by (own := [(("letters" : Str), 5)]) (by kernel_rfl)) (by decide) (fun _ _ _ _ _ => (pdg_name (pg_name (i := 5) sc_stays.nd rfl (by first | exact Or.inl rfl | exact Or.inr rfl)))) (fun _ _ _ _ _ => (pdts_one (pt_cmpD (op_inA (u65 hr)) rd_in (pd_fn (ok_common_letters Ev) (Room.mono hr (by decide)) (gl (by kernel_rfl)) Ev.g_common_letters Ev.F_common_letters.kp (b_common_letters Ev) pass0 (pda_cons (pd_var (pv 3)) (pda_cons (pd_var (pv 5)) (pda_cons (pd_ix (pd_var (pv 1)) pd_int fun _ _ => rfl) pda_nil)))) (pd_var (pv 2)) (by with_unfolding_all rfl)))) (fun _ _ _ _ _ => (pd_var (pv 5))))))))
theorem sc_evened_by : FnScope N_evened_by ["parts"] (defScope s_evened_by) := ⟨by kernel_rfl, by kernel_rfl, by kernel_rfl, by decide +kernel, by kernel_rfl, by decide +kernel, by decide +kernel⟩
theorem b_evened_by (Ev : Gs K mg) : Binds K Ev.d_evened_by ["parts"] [] := Ev.F_evened_by.bindsN fun _ _ _ _ _ _ us hl => match us, hl with | [_], _ => rfl
theorem ok_evened_by (Ev : Gs K mg) : FnOk P w K mg base CX0 3 Ev.a_evened_by Ev.d_evened_by ["parts"] (spP K 1 m_evened_by) := by
  refine fnp N_evened_by 1 b_evened_by_ (by kernel_rfl) Ev.F_evened_by sc_evened_by rfl (by decide) fun cdv A outer s H E S hr => ?_
  unfold b_evened_by_
  exact (pds_cons
    (pds_setLcN (i := 1) rfl sc_evened_by.nd rfl rfl (sw_true rfl rfl rfl (by decide +kernel)) (pdip (pdi_list (pd_var (pv 0)))) (blkOk_by (own := [(("lot" : Str), 7), (("rows" : Str), 5)]) (by kernel_rfl)) (by decide) (fun _ _ _ _ _ => (pdg_tup rfl (pdgs_cons (pg_name (i := 7) sc_evened_by.nd rfl (by first | exact Or.inl rfl | exact Or.inr rfl)) (pdgs_cons (pg_name (i := 5) sc_evened_by.nd rfl (by first | exact Or.inl rfl | exact Or.inr rfl)) pdgs_nil)))) (fun _ _ _ _ _ => pdts_nil) (fun _ _ _ _ _ => (pd_tup (pda_cons (pd_callT call_list_of rcd_list (gl (by kernel_rfl)) Ev.z_list (by decide +kernel) (pda_cons (pd_var (pv 7)) pda_nil)) (pda_cons (pd_lc rfl sc_evened_by.nd (pdip (pdi_list (pd_var (pv 5)))) (blkOk_by (own := [(("row" : Str), 8)]) (by kernel_rfl)) (by decide) (fun _ _ _ _ _ => (pdg_name (pg_name (i := 8) sc_evened_by.nd rfl (by first | exact Or.inl rfl | exact Or.inr rfl)))) (fun _ _ _ _ _ => pdts_nil) (fun _ _ _ _ _ => (pd_callT call_list_of rcd_list (gl (by kernel_rfl)) Ev.z_list (by decide +kernel) (pda_cons (pd_var (pv 8)) pda_nil)))) pda_nil)))))
    (pds_one (pds_while PassesOwn.never (pt_of pd_bl) (pds_cons
    (pds_setLc (i := 2) rfl sc_evened_by.nd rfl rfl (sw_true rfl rfl rfl (by decide +kernel)) (pdip_own (pv 1)) (blkOk_by (own := [(("_" : Str), 9), (("rows" : Str), 5)]) (by kernel_rfl)) (by decide) (fun _ _ _ _ _ => (pdg_tup rfl (pdgs_cons (pg_name (i := 9) sc_evened_by.nd rfl (by first | exact Or.inl rfl | exact Or.inr rfl)) (pdgs_cons (pg_name (i := 5) sc_evened_by.nd rfl (by first | exact Or.inl rfl | exact Or.inr rfl)) pdgs_nil)))) (fun _ _ _ _ _ => pdts_nil) (fun _ _ _ _ _ => (pd_callB call_len rcd_len (gl (by kernel_rfl)) Ev.z_len (by decide +kernel) (pda_cons (pd_var (pv 5)) pda_nil))))
    (pds_cons
    (pds_for PassesOwn.never rfl (pdim (pdi_enum (gl (by kernel_rfl)) Ev.z_enumerate (pd_listOwn (gl (by kernel_rfl)) Ev.z_list (pv 1)))) (pdg_tup rfl (pdgs_cons (pg_name (i := 3) sc_evened_by.nd rfl (by first | exact Or.inl rfl | exact Or.inr rfl)) (pdgs_cons (pg_name (i := 4) sc_evened_by.nd rfl (by first | exact Or.inl rfl | exact Or.inr rfl)) pdgs_nil))) (pds_cons
    (pds_set (i := 5) sc_evened_by.nd rfl (by first | exact Or.inl rfl | exact Or.inr rfl) (pdm_d (pd_ix (pd_var (pv 4)) pd_int fun _ _ => rfl)))
    (pds_cons
    (pds_for PassesOwn.never rfl (pdim (pdi_list (pd_add (pd_ownCut (pv 1) pdo_none (pdo_some (pd_var (pv 3)))) (pd_ownCut (pv 1) (pdo_some (pd_add (pd_var (pv 3)) pd_int)) pdo_none)))) (pdg_name (pg_name (i := 6) sc_evened_by.nd rfl (by first | exact Or.inl rfl | exact Or.inr rfl))) (pds_one (pds_set (i := 5) sc_evened_by.nd rfl (by first | exact Or.inl rfl | exact Or.inr rfl) (pdm_d (pd_fn (ok_stays Ev) (Room.mono hr (by decide)) (gl (by kernel_rfl)) Ev.g_stays Ev.F_stays.kp (b_stays Ev) pass0 (pda_cons (pd_tup (pda_cons (pd_ix (pd_var (pv 4)) pd_int fun _ _ => rfl) (pda_cons (pd_var (pv 5)) pda_nil))) (pda_cons (pd_var (pv 6)) pda_nil)))))))
    (pds_one (pds_put (pdm_d (pd_tup (pda_cons (pd_ix (pd_var (pv 4)) pd_int fun _ _ => rfl) (pda_cons (pd_var (pv 5)) pda_nil)))) (pv 1) (pd_var (pv 3)))))))
    (pds_one (pds_if (pt_cmpD (op_eqD (u64 hr)) rd_eq (pd_lc rfl sc_evened_by.nd (pdip_own (pv 1)) (blkOk_by (own := [(("_" : Str), 9), (("rows" : Str), 5)]) (by kernel_rfl)) (by decide) (fun _ _ _ _ _ => (pdg_tup rfl (pdgs_cons (pg_name (i := 9) sc_evened_by.nd rfl (by first | exact Or.inl rfl | exact Or.inr rfl)) (pdgs_cons (pg_name (i := 5) sc_evened_by.nd rfl (by first | exact Or.inl rfl | exact Or.inr rfl)) pdgs_nil)))) (fun _ _ _ _ _ => pdts_nil) (fun _ _ _ _ _ => (pd_callB call_len rcd_len (gl (by kernel_rfl)) Ev.z_len (by decide +kernel) (pda_cons (pd_var (pv 5)) pda_nil)))) (pd_var (pv 2)) (nomark _)) (pds_one (pds_retOwn (pv 1))) pds_nil)))))))
theorem sc_evened_parts : FnScope N_evened_parts ["many", "parts"] (defScope s_evened_parts) := ⟨by kernel_rfl, by kernel_rfl, by kernel_rfl, by decide +kernel, by kernel_rfl, by decide +kernel, by decide +kernel⟩
theorem b_evened_parts (Ev : Gs K mg) : Binds K Ev.d_evened_parts ["many", "parts"] [] := Ev.F_evened_parts.bindsN fun _ _ _ _ _ _ us hl => match us, hl with | [_, _], _ => rfl
theorem ok_evened_parts (Ev : Gs K mg) : FnOk P w K mg base CX0 6 Ev.a_evened_parts Ev.d_evened_parts ["many", "parts"] (spP K 2 m_evened_parts) := by
  refine fnp N_evened_parts 2 b_evened_parts_ (by kernel_rfl) Ev.F_evened_parts sc_evened_parts rfl (by decide) fun cdv A outer s H E S hr => ?_
  unfold b_evened_parts_
  exact (pds_cons
    (pds_drop (pdm_d (pd_fn (ok_check_parts Ev) (Room.mono hr (by decide)) (gl (by kernel_rfl)) Ev.g_check_parts Ev.F_check_parts.kp (b_check_parts Ev) pass0 (pda_cons (pd_var (pv 0)) (pda_cons (pd_var (pv 1)) pda_nil)))))
    (pds_one (pds_ret (pd_fn (ok_evened_by Ev) (Room.mono hr (by decide)) (gl (by kernel_rfl)) Ev.g_evened_by Ev.F_evened_by.kp (b_evened_by Ev) pass0 (pda_cons (pd_var (pv 1)) pda_nil)))))
theorem sc_put_in : FnScope N_put_in ["row", "lot", "letters"] (defScope s_put_in) := ⟨by kernel_rfl, by kernel_rfl, by kernel_rfl, by decide +kernel, by kernel_rfl, by decide +kernel, by decide +kernel⟩
theorem b_put_in (Ev : Gs K mg) : Binds K Ev.d_put_in ["row", "lot", "letters"] [] := Ev.F_put_in.bindsN fun _ _ _ _ _ _ us hl => match us, hl with | [_, _, _], _ => rfl
theorem ok_put_in (Ev : Gs K mg) : FnOk P w K mg base CX0 1 Ev.a_put_in Ev.d_put_in ["row", "lot", "letters"] (spP K 3 m_put_in) := by
  refine fnp N_put_in 3 b_put_in_ (by kernel_rfl) Ev.F_put_in sc_put_in rfl (by decide) fun cdv A outer s H E S hr => ?_
  unfold b_put_in_
  exact (pds_cons
    (pds_set (i := 3) sc_put_in.nd rfl (by first | exact Or.inl rfl | exact Or.inr rfl) (pdm_n (pdn_list (gl (by kernel_rfl)) Ev.z_list (pda_cons (pd_var (pv 0)) pda_nil))))
    (pds_cons
    (pds_for PassesOwn.never rfl (pdim (pdi_zipS (gl (by kernel_rfl)) Ev.z_zip (pd_var (pv 1)) (pd_var (pv 2)) pe_bl)) (pdg_tup rfl (pdgs_cons (pg_name (i := 4) sc_put_in.nd rfl (by first | exact Or.inl rfl | exact Or.inr rfl)) (pdgs_cons (pg_name (i := 5) sc_put_in.nd rfl (by first | exact Or.inl rfl | exact Or.inr rfl)) pdgs_nil))) (pds_cons
    (pds_if (pdt_w (pwd_and (pt_cmpD op_notN rd_notN (pd_ownIx (pv 3) (pd_var (pv 4)) fun _ _ => rfl) pd_non (nomark _)) (pwd_and1 (pt_cmpD (op_neD (u64 hr)) rd_ne (pd_ownIx (pv 3) (pd_var (pv 4)) fun _ _ => rfl) (pd_var (pv 5)) (nomark _))))) (pds_one (pds_ret pd_non)) pds_nil)
    (pds_one (pds_put (pdm_d (pd_var (pv 5))) (pv 3) (pd_var (pv 4))))))
    (pds_one (pds_retOwn (pv 3)))))
theorem sc_joined_by : FnScope N_joined_by ["many", "parts"] (defScope s_joined_by) := ⟨by kernel_rfl, by kernel_rfl, by kernel_rfl, by decide +kernel, by kernel_rfl, by decide +kernel, by decide +kernel⟩
theorem b_joined_by (Ev : Gs K mg) : Binds K Ev.d_joined_by ["many", "parts"] [] := Ev.F_joined_by.bindsN fun _ _ _ _ _ _ us hl => match us, hl with | [_, _], _ => rfl
theorem ok_joined_by (Ev : Gs K mg) : FnOk P w K mg base CX0 2 Ev.a_joined_by Ev.d_joined_by ["many", "parts"] (spP K 2 m_joined_by) := by
  refine fnp N_joined_by 2 b_joined_by_ (by kernel_rfl) Ev.F_joined_by sc_joined_by rfl (by decide) fun cdv A outer s H E S hr => ?_
  unfold b_joined_by_
  exact (pds_cons
    (pds_set (i := 2) sc_joined_by.nd rfl (by first | exact Or.inl rfl | exact Or.inr rfl) (pdm_d (pd_lst (pda_cons (pd_mul (pd_lst (pda_cons pd_non pda_nil)) (pd_var (pv 0))) pda_nil))))
    (pds_cons
    (pds_for PassesOwn.never rfl (pdim (pdi_list (pd_var (pv 1)))) (pdg_tup rfl (pdgs_cons (pg_name (i := 3) sc_joined_by.nd rfl (by first | exact Or.inl rfl | exact Or.inr rfl)) (pdgs_cons (pg_name (i := 4) sc_joined_by.nd rfl (by first | exact Or.inl rfl | exact Or.inr rfl)) pdgs_nil))) (pds_cons
    (pds_setLc2 (i := 5) rfl sc_joined_by.nd rfl rfl (sw_true rfl rfl rfl (by decide +kernel)) (pdip (pdi_list (pd_var (pv 2)))) (blkOk_by (own := [(("row" : Str), 6), (("letters" : Str), 7)]) (by kernel_rfl)) (by decide) (by decide) (by decide) (fun _ _ _ _ _ _ => (pdg_name (pg_name (i := 6) sc_joined_by.nd rfl (by first | exact Or.inl rfl | exact Or.inr rfl)))) (fun _ _ _ _ _ _ => pdts_nil) (fun _ _ _ _ _ _ => (pdi_list (pd_var (pv 4)))) (fun _ _ _ _ _ _ => (pdg_name (pg_name (i := 7) sc_joined_by.nd rfl (by first | exact Or.inl rfl | exact Or.inr rfl)))) (fun _ _ _ _ _ _ => pdts_nil) (fun _ _ _ _ _ _ => (pd_fn (ok_put_in Ev) (Room.mono hr (by decide)) (gl (by kernel_rfl)) Ev.g_put_in Ev.F_put_in.kp (b_put_in Ev) pass0 (pda_cons (pd_var (pv 6)) (pda_cons (pd_var (pv 3)) (pda_cons (pd_var (pv 7)) pda_nil))))))
    (pds_one (pds_setLc (i := 2) rfl sc_joined_by.nd rfl rfl (sw_true rfl rfl rfl (by decide +kernel)) (pdip (pdi_list (pd_var (pv 5)))) (blkOk_by (own := [(("row" : Str), 6)]) (by kernel_rfl)) (by decide) (fun _ _ _ _ _ => (pdg_name (pg_name (i := 6) sc_joined_by.nd rfl (by first | exact Or.inl rfl | exact Or.inr rfl)))) (fun _ _ _ _ _ => (pdts_one (pt_cmpD op_notN rd_notN (pd_var (pv 6)) pd_non (nomark _)))) (fun _ _ _ _ _ => (pd_var (pv 6)))))))
    (pds_one (pds_ret (pd_callB (cr_sortD (u80 hr)) rcd_sortD (gl (by kernel_rfl)) Ev.z_sorted (by decide +kernel) (pda_cons (pd_var (pv 2)) pda_nil))))))
theorem sc_check_few : FnScope N_check_few ["many", "parts"] (defScope s_check_few) := ⟨by kernel_rfl, by kernel_rfl, by kernel_rfl, by decide +kernel, by kernel_rfl, by decide +kernel, by decide +kernel⟩
theorem b_check_few (Ev : Gs K mg) : Binds K Ev.d_check_few ["many", "parts"] [] := Ev.F_check_few.bindsN fun _ _ _ _ _ _ us hl => match us, hl with | [_, _], _ => rfl
theorem ok_check_few (Ev : Gs K mg) : FnOk P w K mg base CX0 6 Ev.a_check_few Ev.d_check_few ["many", "parts"] (spP K 2 m_check_few) := by
  refine fnp N_check_few 2 b_check_few_ (by kernel_rfl) Ev.F_check_few sc_check_few rfl (by decide) fun cdv A outer s H E S hr => ?_
  unfold b_check_few_
  exact (pds_cons
    (pds_drop (pdm_d (pd_fn (ok_check_parts Ev) (Room.mono hr (by decide)) (gl (by kernel_rfl)) Ev.g_check_parts Ev.F_check_parts.kp (b_check_parts Ev) pass0 (pda_cons (pd_var (pv 0)) (pda_cons (pd_var (pv 1)) pda_nil)))))
    (pds_cons
    (pds_set (i := 2) sc_check_few.nd rfl (by first | exact Or.inl rfl | exact Or.inr rfl) (pdm_d (pd_fn (ok_joined_by Ev) (Room.mono hr (by decide)) (gl (by kernel_rfl)) Ev.g_joined_by Ev.F_joined_by.kp (b_joined_by Ev) pass0 (pda_cons (pd_var (pv 0)) (pda_cons (pd_var (pv 1)) pda_nil)))))
    (pds_cons
    (pds_if (pt_cmpD (op_gtA (u64 hr)) rd_ord (pd_callB call_len rcd_len (gl (by kernel_rfl)) Ev.z_len (by decide +kernel) (pda_cons (pd_var (pv 2)) pda_nil)) (pd_gint (gl (by kernel_rfl)) Ev.i_MOST_JOINED) (nomark _)) (pds_one pds_stuck) pds_nil)
    (pds_one (pds_ret (pd_var (pv 2)))))))
theorem sc_joined_rows : FnScope N_joined_rows ["many", "parts"] (defScope s_joined_rows) := ⟨by kernel_rfl, by kernel_rfl, by kernel_rfl, by decide +kernel, by kernel_rfl, by decide +kernel, by decide +kernel⟩
theorem b_joined_rows (Ev : Gs K mg) : Binds K Ev.d_joined_rows ["many", "parts"] [] := Ev.F_joined_rows.bindsN fun _ _ _ _ _ _ us hl => match us, hl with | [_, _], _ => rfl
theorem ok_joined_rows (Ev : Gs K mg) : FnOk P w K mg base CX0 7 Ev.a_joined_rows Ev.d_joined_rows ["many", "parts"] (spP K 2 m_joined_rows) := by
  refine fnp N_joined_rows 2 b_joined_rows_ (by kernel_rfl) Ev.F_joined_rows sc_joined_rows rfl (by decide) fun cdv A outer s H E S hr => ?_
  unfold b_joined_rows_
  exact (pds_one (pds_ret (pd_fn (ok_check_few Ev) (Room.mono hr (by decide)) (gl (by kernel_rfl)) Ev.g_check_few Ev.F_check_few.kp (b_check_few Ev) pass0 (pda_cons (pd_var (pv 0)) (pda_cons (pd_var (pv 1)) pda_nil)))))
theorem sc_are_joins_by : FnScope N_are_joins_by ["many", "value"] (defScope s_are_joins_by) := ⟨by kernel_rfl, by kernel_rfl, by kernel_rfl, by decide +kernel, by kernel_rfl, by decide +kernel, by decide +kernel⟩
theorem b_are_joins_by (Ev : Gs K mg) : Binds K Ev.d_are_joins_by ["many", "value"] [] := Ev.F_are_joins_by.bindsN fun _ _ _ _ _ _ us hl => match us, hl with | [_, _], _ => rfl
theorem ok_are_joins_by (Ev : Gs K mg) : FnOk P w K mg base CX0 3 Ev.a_are_joins_by Ev.d_are_joins_by ["many", "value"] (spP K 2 m_are_joins_by) := by
  refine fnp N_are_joins_by 2 b_are_joins_by_ (by kernel_rfl) Ev.F_are_joins_by sc_are_joins_by rfl (by decide) fun cdv A outer s H E S hr => ?_
  unfold b_are_joins_by_
  exact (pds_cons
    (pds_if (pdt_w (pwd_or (pdt_not (pt_of (pd_isi (t := .list) (gl (by kernel_rfl)) Ev.z_isinstance (pd_var (pv 1)) (pe_tyN (gl (by kernel_rfl)) Ev.z_list (by decide +kernel))))) (pwd_or1 (pdt_not (pt_chainD (op_leA (u64 hr)) rd_ord (op_leA (u64 hr)) rd_ord pd_int (pd_callB call_len rcd_len (gl (by kernel_rfl)) Ev.z_len (by decide +kernel) (pda_cons (pd_var (pv 1)) pda_nil)) (pd_gint (gl (by kernel_rfl)) Ev.i_MOST_JOINS) (by with_unfolding_all rfl)))))) (pds_one (pds_ret pd_bl)) pds_nil)
    (pds_cons
    (pds_if (pdt_not (pt_of (pd_callB (cr_all rfl) rcd_all (gl (by kernel_rfl)) Ev.z_all (by decide +kernel) (pda_cons (pd_lc rfl sc_are_joins_by.nd (pdip (pdi_list (pd_var (pv 1)))) (blkOk_by (own := [(("lot" : Str), 3)]) (by kernel_rfl)) (by decide) (fun _ _ _ _ _ => (pdg_name (pg_name (i := 3) sc_are_joins_by.nd rfl (by first | exact Or.inl rfl | exact Or.inr rfl)))) (fun _ _ _ _ _ => pdts_nil) (fun _ _ _ _ _ => (pd_and (pd_fn (ok_is_lot_by Ev) (Room.mono hr (by decide)) (gl (by kernel_rfl)) Ev.g_is_lot_by Ev.F_is_lot_by.kp (b_is_lot_by Ev) pass0 (pda_cons (pd_var (pv 0)) (pda_cons (pd_var (pv 3)) pda_nil))) (pd_one (pd_cmp (op_neD (u64 hr)) rd_ne (pd_var (pv 3)) (pd_lst pda_nil) (nomark _)))))) pda_nil)))) (pds_one (pds_ret pd_bl)) pds_nil)
    (pds_cons
    (pds_set (i := 2) sc_are_joins_by.nd rfl (by first | exact Or.inl rfl | exact Or.inr rfl) (pdm_d (pd_lc rfl sc_are_joins_by.nd (pdip (pdi_list (pd_var (pv 1)))) (blkOk_by (own := [(("lot" : Str), 3)]) (by kernel_rfl)) (by decide) (fun _ _ _ _ _ => (pdg_name (pg_name (i := 3) sc_are_joins_by.nd rfl (by first | exact Or.inl rfl | exact Or.inr rfl)))) (fun _ _ _ _ _ => pdts_nil) (fun _ _ _ _ _ => (pd_index (u65 hr) (pd_fn (ok_lots_of Ev) (Room.mono hr (by decide)) (gl (by kernel_rfl)) Ev.g_lots_of Ev.F_lots_of.kp (b_lots_of Ev) pass0 (pda_cons (pd_var (pv 0)) pda_nil)) (pda_cons (pd_var (pv 3)) pda_nil))))))
    (pds_cons
    (pds_if (pdt_not (pt_of (pd_callB (cr_all rfl) rcd_all (gl (by kernel_rfl)) Ev.z_all (by decide +kernel) (pda_cons (pd_lc rfl sc_are_joins_by.nd (pdip (pdi_range2 (gl (by kernel_rfl)) Ev.z_range pd_int (pd_callB call_len rcd_len (gl (by kernel_rfl)) Ev.z_len (by decide +kernel) (pda_cons (pd_var (pv 2)) pda_nil)))) (blkOk_by (own := [(("at" : Str), 5)]) (by kernel_rfl)) (by decide) (fun _ _ _ _ _ => (pdg_name (pg_name (i := 5) sc_are_joins_by.nd rfl (by first | exact Or.inl rfl | exact Or.inr rfl)))) (fun _ _ _ _ _ => pdts_nil) (fun _ _ _ _ _ => (pd_cmp (op_ltA (u64 hr)) rd_ord (pd_ix (pd_var (pv 2)) (pd_sub (pd_var (pv 5)) pd_int) fun _ _ => rfl) (pd_ix (pd_var (pv 2)) (pd_var (pv 5)) fun _ _ => rfl) (nomark _)))) pda_nil)))) (pds_one (pds_ret pd_bl)) pds_nil)
    (pds_one (pds_ret (pd_callB (cr_all rfl) rcd_all (gl (by kernel_rfl)) Ev.z_all (by decide +kernel) (pda_cons (pd_lc rfl sc_are_joins_by.nd (pdip (pdi_range1 (gl (by kernel_rfl)) Ev.z_range (pd_var (pv 0)))) (blkOk_by (own := [(("thing" : Str), 4)]) (by kernel_rfl)) (by decide) (fun _ _ _ _ _ => (pdg_name (pg_name (i := 4) sc_are_joins_by.nd rfl (by first | exact Or.inl rfl | exact Or.inr rfl)))) (fun _ _ _ _ _ => pdts_nil) (fun _ _ _ _ _ => (pd_callB (cr_any rfl) rcd_any (gl (by kernel_rfl)) Ev.z_any (by decide +kernel) (pda_cons (pd_lc rfl sc_are_joins_by.nd (pdip (pdi_list (pd_var (pv 1)))) (blkOk_by (own := [(("lot" : Str), 3)]) (by kernel_rfl)) (by decide) (fun _ _ _ _ _ => (pdg_name (pg_name (i := 3) sc_are_joins_by.nd rfl (by first | exact Or.inl rfl | exact Or.inr rfl)))) (fun _ _ _ _ _ => pdts_nil) (fun _ _ _ _ _ => (pd_cmp (op_inA (u65 hr)) rd_in (pd_var (pv 4)) (pd_var (pv 3)) (by with_unfolding_all rfl)))) pda_nil)))) pda_nil))))))))
theorem sc_check_joins : FnScope N_check_joins ["many", "joins"] (defScope s_check_joins) := ⟨by kernel_rfl, by kernel_rfl, by kernel_rfl, by decide +kernel, by kernel_rfl, by decide +kernel, by decide +kernel⟩
theorem b_check_joins (Ev : Gs K mg) : Binds K Ev.d_check_joins ["many", "joins"] [] := Ev.F_check_joins.bindsN fun _ _ _ _ _ _ us hl => match us, hl with | [_, _], _ => rfl
theorem ok_check_joins (Ev : Gs K mg) : FnOk P w K mg base CX0 4 Ev.a_check_joins Ev.d_check_joins ["many", "joins"] (spP K 2 m_check_joins) := by
  refine fnp N_check_joins 2 b_check_joins_ (by kernel_rfl) Ev.F_check_joins sc_check_joins rfl (by decide) fun cdv A outer s H E S hr => ?_
  unfold b_check_joins_
  exact (pds_cons
    (pds_drop (pdm_d (pd_fn (ok_check_many Ev) (Room.mono hr (by decide)) (gl (by kernel_rfl)) Ev.g_check_many Ev.F_check_many.kp (b_check_many Ev) pass0 (pda_cons (pd_var (pv 0)) pda_nil))))
    (pds_one (pds_if (pdt_not (pt_of (pd_fn (ok_are_joins_by Ev) (Room.mono hr (by decide)) (gl (by kernel_rfl)) Ev.g_are_joins_by Ev.F_are_joins_by.kp (b_are_joins_by Ev) pass0 (pda_cons (pd_var (pv 0)) (pda_cons (pd_var (pv 1)) pda_nil))))) (pds_one pds_stuck) pds_nil)))
theorem sc_alone_left : FnScope N_alone_left ["lots"] (defScope s_alone_left) := ⟨by kernel_rfl, by kernel_rfl, by kernel_rfl, by decide +kernel, by kernel_rfl, by decide +kernel, by decide +kernel⟩
theorem b_alone_left (Ev : Gs K mg) : Binds K Ev.d_alone_left ["lots"] [] := Ev.F_alone_left.bindsN fun _ _ _ _ _ _ us hl => match us, hl with | [_], _ => rfl
theorem ok_alone_left (Ev : Gs K mg) : FnOk P w K mg base CX0 1 Ev.a_alone_left Ev.d_alone_left ["lots"] (spP K 1 m_alone_left) := by
  refine fnp N_alone_left 1 b_alone_left_ (by kernel_rfl) Ev.F_alone_left sc_alone_left rfl (by decide) fun cdv A outer s H E S hr => ?_
  unfold b_alone_left_
  exact (pds_cons
    (pds_set (i := 1) sc_alone_left.nd rfl (by first | exact Or.inl rfl | exact Or.inr rfl) (pdm_d (pd_lc2 rfl sc_alone_left.nd (pdip (pdi_list (pd_var (pv 0)))) (blkOk_by (own := [(("_" : Str), 3), (("lot" : Str), 4), (("thing" : Str), 2)]) (by kernel_rfl)) (by decide) (by decide) (by decide) (fun _ _ _ _ _ _ => (pdg_tup rfl (pdgs_cons (pg_name (i := 3) sc_alone_left.nd rfl (by first | exact Or.inl rfl | exact Or.inr rfl)) (pdgs_cons (pg_name (i := 4) sc_alone_left.nd rfl (by first | exact Or.inl rfl | exact Or.inr rfl)) pdgs_nil)))) (fun _ _ _ _ _ _ => pdts_nil) (fun _ _ _ _ _ _ => (pdi_list (pd_var (pv 4)))) (fun _ _ _ _ _ _ => (pdg_name (pg_name (i := 2) sc_alone_left.nd rfl (by first | exact Or.inl rfl | exact Or.inr rfl)))) (fun _ _ _ _ _ _ => pdts_nil) (fun _ _ _ _ _ _ => (pd_var (pv 2))))))
    (pds_one (pds_ret (pd_lc rfl sc_alone_left.nd (pdip (pdi_list (pd_var (pv 0)))) (blkOk_by (own := [(("at" : Str), 5), (("lot" : Str), 4)]) (by kernel_rfl)) (by decide) (fun _ _ _ _ _ => (pdg_tup rfl (pdgs_cons (pg_name (i := 5) sc_alone_left.nd rfl (by first | exact Or.inl rfl | exact Or.inr rfl)) (pdgs_cons (pg_name (i := 4) sc_alone_left.nd rfl (by first | exact Or.inl rfl | exact Or.inr rfl)) pdgs_nil)))) (fun _ _ _ _ _ => pdts_nil) (fun _ _ _ _ _ => (pd_tup (pda_cons (pd_var (pv 5)) (pda_cons (pd_lc rfl sc_alone_left.nd (pdip (pdi_list (pd_var (pv 4)))) (blkOk_by (own := [(("thing" : Str), 2)]) (by kernel_rfl)) (by decide) (fun _ _ _ _ _ => (pdg_name (pg_name (i := 2) sc_alone_left.nd rfl (by first | exact Or.inl rfl | exact Or.inr rfl)))) (fun _ _ _ _ _ => (pdts_one (pt_cmpD (op_gtA (u64 hr)) rd_ord (pd_count (pd_var (pv 1)) (pda_cons (pd_var (pv 2)) pda_nil)) pd_int (nomark _)))) (fun _ _ _ _ _ => (pd_var (pv 2)))) pda_nil))))))))
theorem sc_common : FnScope N_common ["one", "other"] (defScope s_common) := ⟨by kernel_rfl, by kernel_rfl, by kernel_rfl, by decide +kernel, by kernel_rfl, by decide +kernel, by decide +kernel⟩
theorem b_common (Ev : Gs K mg) : Binds K Ev.d_common ["one", "other"] [] := Ev.F_common.bindsN fun _ _ _ _ _ _ us hl => match us, hl with | [_, _], _ => rfl
theorem ok_common (Ev : Gs K mg) : FnOk P w K mg base CX0 1 Ev.a_common Ev.d_common ["one", "other"] (spP K 2 m_common) := by
  refine fnp N_common 2 b_common_ (by kernel_rfl) Ev.F_common sc_common rfl (by decide) fun cdv A outer s H E S hr => ?_
  unfold b_common_
  exact (pds_one (pds_ret (pd_lc rfl sc_common.nd (pdip (pdi_list (pd_var (pv 0)))) (blkOk_by (own := [(("thing" : Str), 2)]) (by kernel_rfl)) (by decide) (fun _ _ _ _ _ => (pdg_name (pg_name (i := 2) sc_common.nd rfl (by first | exact Or.inl rfl | exact Or.inr rfl)))) (fun _ _ _ _ _ => (pdts_one (pt_cmpD (op_inA (u65 hr)) rd_in (pd_var (pv 2)) (pd_var (pv 1)) (by with_unfolding_all rfl)))) (fun _ _ _ _ _ => (pd_var (pv 2))))))
theorem sc_within_another : FnScope N_within_another ["lots"] (defScope s_within_another) := ⟨by kernel_rfl, by kernel_rfl, by kernel_rfl, by decide +kernel, by kernel_rfl, by decide +kernel, by decide +kernel⟩
theorem b_within_another (Ev : Gs K mg) : Binds K Ev.d_within_another ["lots"] [] := Ev.F_within_another.bindsN fun _ _ _ _ _ _ us hl => match us, hl with | [_], _ => rfl
theorem ok_within_another (Ev : Gs K mg) : FnOk P w K mg base CX0 2 Ev.a_within_another Ev.d_within_another ["lots"] (spP K 1 m_within_another) := by
  refine fnp N_within_another 1 b_within_another_ (by kernel_rfl) Ev.F_within_another sc_within_another rfl (by decide) fun cdv A outer s H E S hr => ?_
  unfold b_within_another_
  exact (pds_cons
    (pds_for PassesOwn.never rfl (pdim (pdi_list (pd_var (pv 0)))) (pdg_tup rfl (pdgs_cons (pg_name (i := 1) sc_within_another.nd rfl (by first | exact Or.inl rfl | exact Or.inr rfl)) (pdgs_cons (pg_name (i := 2) sc_within_another.nd rfl (by first | exact Or.inl rfl | exact Or.inr rfl)) pdgs_nil))) (pds_one (pds_for PassesOwn.never rfl (pdim (pdi_list (pd_var (pv 0)))) (pdg_tup rfl (pdgs_cons (pg_name (i := 3) sc_within_another.nd rfl (by first | exact Or.inl rfl | exact Or.inr rfl)) (pdgs_cons (pg_name (i := 4) sc_within_another.nd rfl (by first | exact Or.inl rfl | exact Or.inr rfl)) pdgs_nil))) (pds_one (pds_if (pdt_w (pwd_and (pt_cmpD (op_neD (u64 hr)) rd_ne (pd_var (pv 1)) (pd_var (pv 3)) (nomark _)) (pwd_and1 (pt_cmpD (op_eqD (u64 hr)) rd_eq (pd_fn (ok_common Ev) (Room.mono hr (by decide)) (gl (by kernel_rfl)) Ev.g_common Ev.F_common.kp (b_common Ev) pass0 (pda_cons (pd_var (pv 2)) (pda_cons (pd_var (pv 4)) pda_nil))) (pd_var (pv 2)) (nomark _))))) (pds_one (pds_ret (pd_tup (pda_cons (pd_var (pv 1)) (pda_cons (pd_var (pv 3)) pda_nil))))) pds_nil)))))
    (pds_one (pds_ret pd_non)))
theorem sc_tree_or_core : FnScope N_tree_or_core ["many", "joins"] (defScope s_tree_or_core) := ⟨by kernel_rfl, by kernel_rfl, by kernel_rfl, by decide +kernel, by kernel_rfl, by decide +kernel, by decide +kernel⟩
theorem b_tree_or_core (Ev : Gs K mg) : Binds K Ev.d_tree_or_core ["many", "joins"] [] := Ev.F_tree_or_core.bindsN fun _ _ _ _ _ _ us hl => match us, hl with | [_, _], _ => rfl
theorem ok_tree_or_core (Ev : Gs K mg) : FnOk P w K mg base CX0 5 Ev.a_tree_or_core Ev.d_tree_or_core ["many", "joins"] (spP K 2 m_tree_or_core) := by
  refine fnp N_tree_or_core 2 b_tree_or_core_ (by kernel_rfl) Ev.F_tree_or_core sc_tree_or_core rfl (by decide) fun cdv A outer s H E S hr => ?_
  unfold b_tree_or_core_
  exact (pds_cons
    (pds_drop (pdm_d (pd_fn (ok_check_joins Ev) (Room.mono hr (by decide)) (gl (by kernel_rfl)) Ev.g_check_joins Ev.F_check_joins.kp (b_check_joins Ev) pass0 (pda_cons (pd_var (pv 0)) (pda_cons (pd_var (pv 1)) pda_nil)))))
    (pds_cons
    (pds_par rfl sc_tree_or_core.nd (i := 2) (j := 3) rfl rfl (by decide) rfl rfl (pdm_d (pd_listEnum rfl (gl (by kernel_rfl)) Ev.z_list (gl (by kernel_rfl)) Ev.z_enumerate (pd_var (pv 1)))) (pdm_n (pdn_rep (pd_lst (pda_cons pd_non pda_nil)) (pd_callB call_len rcd_len (gl (by kernel_rfl)) Ev.z_len (by decide +kernel) (pda_cons (pd_var (pv 1)) pda_nil)))) rfl)
    (pds_cons
    (pds_while PassesOwn.never (pt_of pd_bl) (pds_cons
    (pds_set (i := 2) sc_tree_or_core.nd rfl (by first | exact Or.inl rfl | exact Or.inr rfl) (pdm_d (pd_fn (ok_alone_left Ev) (Room.mono hr (by decide)) (gl (by kernel_rfl)) Ev.g_alone_left Ev.F_alone_left.kp (b_alone_left Ev) pass0 (pda_cons (pd_var (pv 2)) pda_nil))))
    (pds_cons
    (pds_set (i := 4) sc_tree_or_core.nd rfl (by first | exact Or.inl rfl | exact Or.inr rfl) (pdm_d (pd_fn (ok_within_another Ev) (Room.mono hr (by decide)) (gl (by kernel_rfl)) Ev.g_within_another Ev.F_within_another.kp (b_within_another Ev) pass0 (pda_cons (pd_var (pv 2)) pda_nil))))
    (pds_cons
    (pds_if (pt_cmpD op_isN rd_isN (pd_var (pv 4)) pd_non (nomark _)) (pds_one pds_break) pds_nil)
    (pds_cons
    (pds_put (pdm_d (pd_ix (pd_var (pv 4)) pd_int fun _ _ => rfl)) (pv 3) (pd_ix (pd_var (pv 4)) pd_int fun _ _ => rfl))
    (pds_one (pds_setLc (i := 2) rfl sc_tree_or_core.nd rfl rfl (sw_true rfl rfl rfl (by decide +kernel)) (pdip (pdi_list (pd_var (pv 2)))) (blkOk_by (own := [(("at" : Str), 5), (("lot" : Str), 6)]) (by kernel_rfl)) (by decide) (fun _ _ _ _ _ => (pdg_tup rfl (pdgs_cons (pg_name (i := 5) sc_tree_or_core.nd rfl (by first | exact Or.inl rfl | exact Or.inr rfl)) (pdgs_cons (pg_name (i := 6) sc_tree_or_core.nd rfl (by first | exact Or.inl rfl | exact Or.inr rfl)) pdgs_nil)))) (fun _ _ _ _ _ => (pdts_one (pt_cmpD (op_neD (u64 hr)) rd_ne (pd_var (pv 5)) (pd_ix (pd_var (pv 4)) pd_int fun _ _ => rfl) (nomark _)))) (fun _ _ _ _ _ => (pd_tup (pda_cons (pd_var (pv 5)) (pda_cons (pd_var (pv 6)) pda_nil)))))))))))
    (pds_cons
    (pds_if (pt_cmpD (op_eqD (u64 hr)) rd_eq (pd_callB call_len rcd_len (gl (by kernel_rfl)) Ev.z_len (by decide +kernel) (pda_cons (pd_var (pv 2)) pda_nil)) pd_int (nomark _)) (pds_one (pds_retM (pm_tup (pam_cons (pdm_d pd_str) (pam_cons (pdm_frz (pv 3)) pam_nil))))) pds_nil)
    (pds_one (pds_ret (pd_tup (pda_cons pd_str (pda_cons (pd_sortSet rfl (gl (by kernel_rfl)) Ev.z_sorted (gl (by kernel_rfl)) Ev.z_set (pd_lc2 rfl sc_tree_or_core.nd (pdip (pdi_list (pd_var (pv 2)))) (blkOk_by (own := [(("_" : Str), 8), (("lot" : Str), 6), (("thing" : Str), 7)]) (by kernel_rfl)) (by decide) (by decide) (by decide) (fun _ _ _ _ _ _ => (pdg_tup rfl (pdgs_cons (pg_name (i := 8) sc_tree_or_core.nd rfl (by first | exact Or.inl rfl | exact Or.inr rfl)) (pdgs_cons (pg_name (i := 6) sc_tree_or_core.nd rfl (by first | exact Or.inl rfl | exact Or.inr rfl)) pdgs_nil)))) (fun _ _ _ _ _ _ => pdts_nil) (fun _ _ _ _ _ _ => (pdi_list (pd_var (pv 6)))) (fun _ _ _ _ _ _ => (pdg_name (pg_name (i := 7) sc_tree_or_core.nd rfl (by first | exact Or.inl rfl | exact Or.inr rfl)))) (fun _ _ _ _ _ _ => pdts_nil) (fun _ _ _ _ _ _ => (pd_var (pv 7))))) pda_nil)))))))))
theorem sc_fits_all : FnScope N_fits_all ["parts", "row"] (defScope s_fits_all) := ⟨by kernel_rfl, by kernel_rfl, by kernel_rfl, by decide +kernel, by kernel_rfl, by decide +kernel, by decide +kernel⟩
theorem b_fits_all (Ev : Gs K mg) : Binds K Ev.d_fits_all ["parts", "row"] [] := Ev.F_fits_all.bindsN fun _ _ _ _ _ _ us hl => match us, hl with | [_, _], _ => rfl
theorem ok_fits_all (Ev : Gs K mg) : FnOk P w K mg base CX0 2 Ev.a_fits_all Ev.d_fits_all ["parts", "row"] (spP K 2 m_fits_all) := by
  refine fnp N_fits_all 2 b_fits_all_ (by kernel_rfl) Ev.F_fits_all sc_fits_all rfl (by decide) fun cdv A outer s H E S hr => ?_
  unfold b_fits_all_
  exact (pds_cons
    (pds_for PassesOwn.never rfl (pdim (pdi_list (pd_var (pv 0)))) (pdg_tup rfl (pdgs_cons (pg_name (i := 2) sc_fits_all.nd rfl (by first | exact Or.inl rfl | exact Or.inr rfl)) (pdgs_cons (pg_name (i := 3) sc_fits_all.nd rfl (by first | exact Or.inl rfl | exact Or.inr rfl)) pdgs_nil))) (pds_one (pds_if (pdt_not (pt_of (pd_callB (cr_any rfl) rcd_any (gl (by kernel_rfl)) Ev.z_any (by decide +kernel) (pda_cons (pd_lc rfl sc_fits_all.nd (pdip (pdi_list (pd_var (pv 3)))) (blkOk_by (own := [(("letters" : Str), 4)]) (by kernel_rfl)) (by decide) (fun _ _ _ _ _ => (pdg_name (pg_name (i := 4) sc_fits_all.nd rfl (by first | exact Or.inl rfl | exact Or.inr rfl)))) (fun _ _ _ _ _ => pdts_nil) (fun _ _ _ _ _ => (pd_cmp op_notN rd_notN (pd_fn (ok_put_in Ev) (Room.mono hr (by decide)) (gl (by kernel_rfl)) Ev.g_put_in Ev.F_put_in.kp (b_put_in Ev) pass0 (pda_cons (pd_var (pv 1)) (pda_cons (pd_var (pv 2)) (pda_cons (pd_var (pv 4)) pda_nil)))) pd_non (nomark _)))) pda_nil)))) (pds_one (pds_ret pd_bl)) pds_nil)))
    (pds_one (pds_ret pd_bl)))
theorem sc_steps_by : FnScope N_steps_by ["many", "parts", "order"] (defScope s_steps_by) := ⟨by kernel_rfl, by kernel_rfl, by kernel_rfl, by decide +kernel, by kernel_rfl, by decide +kernel, by decide +kernel⟩
theorem b_steps_by (Ev : Gs K mg) : Binds K Ev.d_steps_by ["many", "parts", "order"] [] := Ev.F_steps_by.bindsN fun _ _ _ _ _ _ us hl => match us, hl with | [_, _, _], _ => rfl
theorem ok_steps_by (Ev : Gs K mg) : FnOk P w K mg base CX0 3 Ev.a_steps_by Ev.d_steps_by ["many", "parts", "order"] (spP K 3 m_steps_by) := by
  refine fnp N_steps_by 3 b_steps_by_ (by kernel_rfl) Ev.F_steps_by sc_steps_by rfl (by decide) fun cdv A outer s H E S hr => ?_
  unfold b_steps_by_
  exact (pds_cons
    (pds_par rfl sc_steps_by.nd (i := 4) (j := 5) rfl rfl (by decide) rfl rfl (pdm_d (pd_lst (pda_cons (pd_mul (pd_lst (pda_cons pd_non pda_nil)) (pd_var (pv 0))) pda_nil))) (pdm_n (pdn_lst pda_nil)) rfl)
    (pds_cons
    (pds_for PassesOwn.never rfl (pdim (pdi_list (pd_var (pv 2)))) (pdg_name (pg_name (i := 3) sc_steps_by.nd rfl (by first | exact Or.inl rfl | exact Or.inr rfl))) (pds_cons
    (pds_set (i := 6) sc_steps_by.nd rfl (by first | exact Or.inl rfl | exact Or.inr rfl) (pdm_d (pd_sortSet rfl (gl (by kernel_rfl)) Ev.z_sorted (gl (by kernel_rfl)) Ev.z_set (pd_lc2 rfl sc_steps_by.nd (pdip (pdi_list (pd_var (pv 1)))) (blkOk_by (own := [(("lot" : Str), 10), (("rows" : Str), 11), (("row" : Str), 8)]) (by kernel_rfl)) (by decide) (by decide) (by decide) (fun _ _ _ _ _ _ => (pdg_tup rfl (pdgs_cons (pg_name (i := 10) sc_steps_by.nd rfl (by first | exact Or.inl rfl | exact Or.inr rfl)) (pdgs_cons (pg_name (i := 11) sc_steps_by.nd rfl (by first | exact Or.inl rfl | exact Or.inr rfl)) pdgs_nil)))) (fun _ _ _ _ _ _ => (pdts_one (pt_cmpD (op_inA (u65 hr)) rd_in (pd_var (pv 3)) (pd_var (pv 10)) (by with_unfolding_all rfl)))) (fun _ _ _ _ _ _ => (pdi_list (pd_var (pv 11)))) (fun _ _ _ _ _ _ => (pdg_name (pg_name (i := 8) sc_steps_by.nd rfl (by first | exact Or.inl rfl | exact Or.inr rfl)))) (fun _ _ _ _ _ _ => pdts_nil) (fun _ _ _ _ _ _ => (pd_ix (pd_var (pv 8)) (pd_index (u65 hr) (pd_var (pv 10)) (pda_cons (pd_var (pv 3)) pda_nil)) fun _ _ => rfl))))))
    (pds_cons
    (pds_setLc2 (i := 7) rfl sc_steps_by.nd rfl rfl (sw_true rfl rfl rfl (by decide +kernel)) (pdip (pdi_list (pd_var (pv 4)))) (blkOk_by (own := [(("row" : Str), 8), (("letter" : Str), 9)]) (by kernel_rfl)) (by decide) (by decide) (by decide) (fun _ _ _ _ _ _ => (pdg_name (pg_name (i := 8) sc_steps_by.nd rfl (by first | exact Or.inl rfl | exact Or.inr rfl)))) (fun _ _ _ _ _ _ => pdts_nil) (fun _ _ _ _ _ _ => (pdi_list (pd_var (pv 6)))) (fun _ _ _ _ _ _ => (pdg_name (pg_name (i := 9) sc_steps_by.nd rfl (by first | exact Or.inl rfl | exact Or.inr rfl)))) (fun _ _ _ _ _ _ => pdts_nil) (fun _ _ _ _ _ _ => (pd_add (pd_add (pd_slice (pd_var (pv 8)) pdo_none (pdo_some (pd_var (pv 3)))) (pd_lst (pda_cons (pd_var (pv 9)) pda_nil))) (pd_slice (pd_var (pv 8)) (pdo_some (pd_add (pd_var (pv 3)) pd_int)) pdo_none))))
    (pds_cons
    (pds_setLc (i := 4) rfl sc_steps_by.nd rfl rfl (sw_true rfl rfl rfl (by decide +kernel)) (pdip (pdi_list (pd_var (pv 7)))) (blkOk_by (own := [(("row" : Str), 8)]) (by kernel_rfl)) (by decide) (fun _ _ _ _ _ => (pdg_name (pg_name (i := 8) sc_steps_by.nd rfl (by first | exact Or.inl rfl | exact Or.inr rfl)))) (fun _ _ _ _ _ => (pdts_one (pt_of (pd_fn (ok_fits_all Ev) (Room.mono hr (by decide)) (gl (by kernel_rfl)) Ev.g_fits_all Ev.F_fits_all.kp (b_fits_all Ev) pass0 (pda_cons (pd_var (pv 1)) (pda_cons (pd_var (pv 8)) pda_nil)))))) (fun _ _ _ _ _ => (pd_var (pv 8))))
    (pds_one (pds_app (pv 5) (pdm_d (pd_callB call_len rcd_len (gl (by kernel_rfl)) Ev.z_len (by decide +kernel) (pda_cons (pd_var (pv 4)) pda_nil)))))))))
    (pds_one (pds_retOwn (pv 5)))))
theorem sc_is_order_by : FnScope N_is_order_by ["many", "value"] (defScope s_is_order_by) := ⟨by kernel_rfl, by kernel_rfl, by kernel_rfl, by decide +kernel, by kernel_rfl, by decide +kernel, by decide +kernel⟩
theorem b_is_order_by (Ev : Gs K mg) : Binds K Ev.d_is_order_by ["many", "value"] [] := Ev.F_is_order_by.bindsN fun _ _ _ _ _ _ us hl => match us, hl with | [_, _], _ => rfl
theorem ok_is_order_by (Ev : Gs K mg) : FnOk P w K mg base CX0 2 Ev.a_is_order_by Ev.d_is_order_by ["many", "value"] (spP K 2 m_is_order_by) := by
  refine fnp N_is_order_by 2 b_is_order_by_ (by kernel_rfl) Ev.F_is_order_by sc_is_order_by rfl (by decide) fun cdv A outer s H E S hr => ?_
  unfold b_is_order_by_
  exact (pds_one (pds_ret (pd_and (pd_isi (t := .list) (gl (by kernel_rfl)) Ev.z_isinstance (pd_var (pv 1)) (pe_tyN (gl (by kernel_rfl)) Ev.z_list (by decide +kernel))) (pd_and (pd_callB (cr_all rfl) rcd_all (gl (by kernel_rfl)) Ev.z_all (by decide +kernel) (pda_cons (pd_lc rfl sc_is_order_by.nd (pdip (pdi_list (pd_var (pv 1)))) (blkOk_by (own := [(("one" : Str), 2)]) (by kernel_rfl)) (by decide) (fun _ _ _ _ _ => (pdg_name (pg_name (i := 2) sc_is_order_by.nd rfl (by first | exact Or.inl rfl | exact Or.inr rfl)))) (fun _ _ _ _ _ => pdts_nil) (fun _ _ _ _ _ => (pd_fn (ok_is_whole Ev) (Room.mono hr (by decide)) (gl (by kernel_rfl)) Ev.g_is_whole Ev.F_is_whole.kp (b_is_whole Ev) pass0 (pda_cons (pd_var (pv 2)) pda_nil)))) pda_nil)) (pd_one (pd_cmp (op_eqD (u64 hr)) rd_eq (pd_callB (cr_sortD (u80 hr)) rcd_sortD (gl (by kernel_rfl)) Ev.z_sorted (by decide +kernel) (pda_cons (pd_var (pv 1)) pda_nil)) (pd_listRg1 rfl (gl (by kernel_rfl)) Ev.z_list (gl (by kernel_rfl)) Ev.z_range (pd_var (pv 0))) (nomark _)))))))
theorem sc_steps_counted : FnScope N_steps_counted ["many", "parts", "order"] (defScope s_steps_counted) := ⟨by kernel_rfl, by kernel_rfl, by kernel_rfl, by decide +kernel, by kernel_rfl, by decide +kernel, by decide +kernel⟩
theorem b_steps_counted (Ev : Gs K mg) : Binds K Ev.d_steps_counted ["many", "parts", "order"] [] := Ev.F_steps_counted.bindsN fun _ _ _ _ _ _ us hl => match us, hl with | [_, _, _], _ => rfl
theorem ok_steps_counted (Ev : Gs K mg) : FnOk P w K mg base CX0 7 Ev.a_steps_counted Ev.d_steps_counted ["many", "parts", "order"] (spP K 3 m_steps_counted) := by
  refine fnp N_steps_counted 3 b_steps_counted_ (by kernel_rfl) Ev.F_steps_counted sc_steps_counted rfl (by decide) fun cdv A outer s H E S hr => ?_
  unfold b_steps_counted_
  exact (pds_cons
    (pds_drop (pdm_d (pd_fn (ok_check_parts Ev) (Room.mono hr (by decide)) (gl (by kernel_rfl)) Ev.g_check_parts Ev.F_check_parts.kp (b_check_parts Ev) pass0 (pda_cons (pd_var (pv 0)) (pda_cons (pd_var (pv 1)) pda_nil)))))
    (pds_cons
    (pds_if (pdt_not (pt_of (pd_fn (ok_is_order_by Ev) (Room.mono hr (by decide)) (gl (by kernel_rfl)) Ev.g_is_order_by Ev.F_is_order_by.kp (b_is_order_by Ev) pass0 (pda_cons (pd_var (pv 0)) (pda_cons (pd_var (pv 2)) pda_nil))))) (pds_one pds_stuck) pds_nil)
    (pds_cons
    (pds_drop (pdm_d (pd_fn (ok_check_few Ev) (Room.mono hr (by decide)) (gl (by kernel_rfl)) Ev.g_check_few Ev.F_check_few.kp (b_check_few Ev) pass0 (pda_cons (pd_var (pv 0)) (pda_cons (pd_var (pv 1)) pda_nil)))))
    (pds_one (pds_ret (pd_fn (ok_steps_by Ev) (Room.mono hr (by decide)) (gl (by kernel_rfl)) Ev.g_steps_by Ev.F_steps_by.kp (b_steps_by Ev) pass0 (pda_cons (pd_var (pv 0)) (pda_cons (pd_var (pv 1)) (pda_cons (pd_var (pv 2)) pda_nil)))))))))
theorem sc_law : FnScope N_law ["script"] (defScope s_law) := ⟨by kernel_rfl, by kernel_rfl, by kernel_rfl, by decide +kernel, by kernel_rfl, by decide +kernel, by decide +kernel⟩
theorem b_law (Ev : Gs K mg) : Binds K Ev.d_law ["script"] [] := Ev.F_law.bindsN fun _ _ _ _ _ _ us hl => match us, hl with | [_], _ => rfl
theorem ok_law (Ev : Gs K mg) : FnOk P w K mg base CX0 8 Ev.a_law Ev.d_law ["script"] (spP K 1 m_law) := by
  refine fnp N_law 1 b_law_ (by kernel_rfl) Ev.F_law sc_law rfl (by decide) fun cdv A outer s H E S hr => ?_
  unfold b_law_
  exact (pds_cons
    (pds_for PassesOwn.never rfl (pdim (pdi_range1 (gl (by kernel_rfl)) Ev.z_range pd_int)) (pdg_name (pg_name (i := 1) sc_law.nd rfl (by first | exact Or.inl rfl | exact Or.inr rfl))) (pds_cons
    (pds_set (i := 2) sc_law.nd rfl (by first | exact Or.inl rfl | exact Or.inr rfl) (pdm_n (pdn_fn (ok__law_generator Ev) (Room.mono hr (by decide)) (gl (by kernel_rfl)) Ev.g__law_generator Ev.F__law_generator.kp (b__law_generator Ev) pass0 (pda_cons (pd_var (pv 0)) (pda_cons (pd_var (pv 1)) pda_nil)))))
    (pds_cons
    (pds_set (i := 3) sc_law.nd rfl (by first | exact Or.inl rfl | exact Or.inr rfl) (pm_add (pdm_d pd_int) (pm_gen (ok__law_random Ev) (Room.mono hr (by decide)) (gl (by kernel_rfl)) Ev.g__law_random Ev.F__law_random.kp (b__law_random Ev) pass0 (pv 2) (pam_of (pda_cons pd_int pda_nil)))))
    (pds_cons
    (pds_set (i := 4) sc_law.nd rfl (by first | exact Or.inl rfl | exact Or.inr rfl) (pm_gen (ok__law_parts Ev) (Room.mono hr (by decide)) (gl (by kernel_rfl)) Ev.g__law_parts Ev.F__law_parts.kp (b__law_parts Ev) pass0 (pv 2) (pam_cons (pm_gen (ok__law_joins Ev) (Room.mono hr (by decide)) (gl (by kernel_rfl)) Ev.g__law_joins Ev.F__law_joins.kp (b__law_joins Ev) pass0 (pv 2) (pam_of (pda_cons (pd_var (pv 3)) pda_nil))) (pam_of (pda_cons pd_int (pda_cons pd_int pda_nil))))))
    (pds_cons
    (pds_unp (pd_tup (pda_cons (pd_fn (ok_evened_parts Ev) (Room.mono hr (by decide)) (gl (by kernel_rfl)) Ev.g_evened_parts Ev.F_evened_parts.kp (b_evened_parts Ev) pass0 (pda_cons (pd_var (pv 3)) (pda_cons (pd_var (pv 4)) pda_nil))) (pda_cons (pd_fn (ok_joined_rows Ev) (Room.mono hr (by decide)) (gl (by kernel_rfl)) Ev.g_joined_rows Ev.F_joined_rows.kp (b_joined_rows Ev) pass0 (pda_cons (pd_var (pv 3)) (pda_cons (pd_var (pv 4)) pda_nil))) pda_nil))) (pdg_tup rfl (pdgs_cons (pg_name (i := 9) sc_law.nd rfl (by first | exact Or.inl rfl | exact Or.inr rfl)) (pdgs_cons (pg_name (i := 10) sc_law.nd rfl (by first | exact Or.inl rfl | exact Or.inr rfl)) pdgs_nil))))
    (pds_cons
    (pds_if (pdt_if (pt_cmpD (op_eqD (u64 hr)) rd_eq (pd_lc rfl sc_law.nd (pdip (pdi_list (pd_var (pv 9)))) (blkOk_by (own := [(("part" : Str), 13)]) (by kernel_rfl)) (by decide) (fun _ _ _ _ _ => (pdg_name (pg_name (i := 13) sc_law.nd rfl (by first | exact Or.inl rfl | exact Or.inr rfl)))) (fun _ _ _ _ _ => (pdts_one (pt_cmpD (op_eqD (u64 hr)) rd_eq (pd_ix (pd_var (pv 13)) pd_int fun _ _ => rfl) (pd_lst pda_nil) (nomark _)))) (fun _ _ _ _ _ => (pd_var (pv 13)))) (pd_lst pda_nil) (nomark _)) (pt_cmpD (op_neD (u64 hr)) rd_ne (pd_fn (ok_evened_parts Ev) (Room.mono hr (by decide)) (gl (by kernel_rfl)) Ev.g_evened_parts Ev.F_evened_parts.kp (b_evened_parts Ev) pass0 (pda_cons (pd_var (pv 3)) (pda_cons (pd_lc rfl sc_law.nd (pdip (pdi_list (pd_var (pv 9)))) (blkOk_by (own := [(("part" : Str), 13)]) (by kernel_rfl)) (by decide) (fun _ _ _ _ _ => (pdg_name (pg_name (i := 13) sc_law.nd rfl (by first | exact Or.inl rfl | exact Or.inr rfl)))) (fun _ _ _ _ _ => (pdts_one (pt_cmpD (op_neD (u64 hr)) rd_ne (pd_ix (pd_var (pv 13)) pd_int fun _ _ => rfl) (pd_lst pda_nil) (nomark _)))) (fun _ _ _ _ _ => (pd_var (pv 13)))) pda_nil))) (pd_var (pv 9)) (nomark _)) (pt_cmpD (op_neD (u64 hr)) rd_ne (pd_var (pv 10)) (pd_lst pda_nil) (nomark _))) (pds_one (pds_ret pd_bl)) pds_nil)
    (pds_cons
    (pds_if (pt_cmpD (op_eqD (u64 hr)) rd_eq (pd_ix (pd_fn (ok_tree_or_core Ev) (Room.mono hr (by decide)) (gl (by kernel_rfl)) Ev.g_tree_or_core Ev.F_tree_or_core.kp (b_tree_or_core Ev) pass0 (pda_cons (pd_var (pv 3)) (pda_cons (pd_lc rfl sc_law.nd (pdip (pdi_list (pd_var (pv 4)))) (blkOk_by (own := [(("lot" : Str), 11), (("late" : Str), 12)]) (by kernel_rfl)) (by decide) (fun _ _ _ _ _ => (pdg_tup rfl (pdgs_cons (pg_name (i := 11) sc_law.nd rfl (by first | exact Or.inl rfl | exact Or.inr rfl)) (pdgs_cons (pg_name (i := 12) sc_law.nd rfl (by first | exact Or.inl rfl | exact Or.inr rfl)) pdgs_nil)))) (fun _ _ _ _ _ => pdts_nil) (fun _ _ _ _ _ => (pd_var (pv 11)))) pda_nil))) pd_int fun _ _ => rfl) pd_str (nomark _)) (pds_one (pds_for PassesOwn.never rfl (pdim (pdi_list (pd_var (pv 9)))) (pdg_tup rfl (pdgs_cons (pg_name (i := 11) sc_law.nd rfl (by first | exact Or.inl rfl | exact Or.inr rfl)) (pdgs_cons (pg_name (i := 12) sc_law.nd rfl (by first | exact Or.inl rfl | exact Or.inr rfl)) pdgs_nil))) (pds_one (pds_if (pdt_w (pwd_and (pt_cmpD (op_eqD (u64 hr)) rd_eq (pd_lc rfl sc_law.nd (pdip (pdi_list (pd_var (pv 9)))) (blkOk_by (own := [(("part" : Str), 13)]) (by kernel_rfl)) (by decide) (fun _ _ _ _ _ => (pdg_name (pg_name (i := 13) sc_law.nd rfl (by first | exact Or.inl rfl | exact Or.inr rfl)))) (fun _ _ _ _ _ => (pdts_one (pt_cmpD (op_eqD (u64 hr)) rd_eq (pd_ix (pd_var (pv 13)) pd_int fun _ _ => rfl) (pd_lst pda_nil) (nomark _)))) (fun _ _ _ _ _ => (pd_var (pv 13)))) (pd_lst pda_nil) (nomark _)) (pwd_and1 (pt_cmpD (op_neD (u64 hr)) rd_ne (pd_var (pv 12)) (pd_callB (cr_sortD (u80 hr)) rcd_sortD (gl (by kernel_rfl)) Ev.z_sorted (by decide +kernel) (pda_cons (pd_lc rfl sc_law.nd (pdip (pdi_list (pd_var (pv 12)))) (blkOk_by (own := [(("line" : Str), 15)]) (by kernel_rfl)) (by decide) (fun _ _ _ _ _ => (pdg_name (pg_name (i := 15) sc_law.nd rfl (by first | exact Or.inl rfl | exact Or.inr rfl)))) (fun _ _ _ _ _ => (pdts_one (pt_cmpD (op_neD (u64 hr)) rd_ne (pd_lc rfl sc_law.nd (pdip (pdi_list (pd_var (pv 10)))) (blkOk_by (own := [(("row" : Str), 16)]) (by kernel_rfl)) (by decide) (fun _ _ _ _ _ => (pdg_name (pg_name (i := 16) sc_law.nd rfl (by first | exact Or.inl rfl | exact Or.inr rfl)))) (fun _ _ _ _ _ => (pdts_one (pt_cmpD (op_eqD (u64 hr)) rd_eq (pd_lc rfl sc_law.nd (pdip (pdi_list (pd_var (pv 11)))) (blkOk_by (own := [(("thing" : Str), 17)]) (by kernel_rfl)) (by decide) (fun _ _ _ _ _ => (pdg_name (pg_name (i := 17) sc_law.nd rfl (by first | exact Or.inl rfl | exact Or.inr rfl)))) (fun _ _ _ _ _ => pdts_nil) (fun _ _ _ _ _ => (pd_ix (pd_var (pv 16)) (pd_var (pv 17)) fun _ _ => rfl))) (pd_var (pv 15)) (nomark _)))) (fun _ _ _ _ _ => (pd_var (pv 16)))) (pd_lst pda_nil) (nomark _)))) (fun _ _ _ _ _ => (pd_var (pv 15)))) pda_nil)) (nomark _))))) (pds_one (pds_ret pd_bl)) pds_nil)))) pds_nil)
    (pds_cons
    (pds_if (pt_cmpD (op_neD (u64 hr)) rd_ne (pd_ix (pd_fn (ok_steps_counted Ev) (Room.mono hr (by decide)) (gl (by kernel_rfl)) Ev.g_steps_counted Ev.F_steps_counted.kp (b_steps_counted Ev) pass0 (pda_cons (pd_var (pv 3)) (pda_cons (pd_var (pv 4)) (pda_cons (pd_rev (pd_listRg1 rfl (gl (by kernel_rfl)) Ev.z_list (gl (by kernel_rfl)) Ev.z_range (pd_var (pv 3))) pe_neg1) pda_nil)))) (pd_neg pd_int) fun _ _ => rfl) (pd_callB call_len rcd_len (gl (by kernel_rfl)) Ev.z_len (by decide +kernel) (pda_cons (pd_var (pv 10)) pda_nil)) (nomark _)) (pds_one (pds_ret pd_bl)) pds_nil)
    (pds_cons
    (pds_set (i := 5) sc_law.nd rfl (by first | exact Or.inl rfl | exact Or.inr rfl) (pm_add (pdm_d pd_int) (pm_gen (ok__law_random Ev) (Room.mono hr (by decide)) (gl (by kernel_rfl)) Ev.g__law_random Ev.F__law_random.kp (b__law_random Ev) pass0 (pv 2) (pam_of (pda_cons pd_int pda_nil)))))
    (pds_cons
    (pds_set (i := 6) sc_law.nd rfl (by first | exact Or.inl rfl | exact Or.inr rfl) (pdm_d (pd_add (pd_callB (cr_sortD (u80 hr)) rcd_sortD (gl (by kernel_rfl)) Ev.z_sorted (by decide +kernel) (pda_cons (pd_lc rfl sc_law.nd (pdip (pdi_range1 (gl (by kernel_rfl)) Ev.z_range (pd_sub (pd_var (pv 5)) pd_int))) (blkOk_by (own := [(("at" : Str), 14)]) (by kernel_rfl)) (by decide) (fun _ _ _ _ _ => (pdg_name (pg_name (i := 14) sc_law.nd rfl (by first | exact Or.inl rfl | exact Or.inr rfl)))) (fun _ _ _ _ _ => pdts_nil) (fun _ _ _ _ _ => (pd_lst (pda_cons (pd_var (pv 14)) (pda_cons (pd_add (pd_var (pv 14)) pd_int) pda_nil))))) pda_nil)) (pd_lst pda_nil))))
    (pds_cons
    (pds_set (i := 7) sc_law.nd rfl (by first | exact Or.inl rfl | exact Or.inr rfl) (pdm_d (pd_callB (cr_sortD (u80 hr)) rcd_sortD (gl (by kernel_rfl)) Ev.z_sorted (by decide +kernel) (pda_cons (pd_add (pd_var (pv 6)) (pd_lst (pda_cons (pd_lst (pda_cons pd_int (pda_cons (pd_sub (pd_var (pv 5)) pd_int) pda_nil))) pda_nil))) pda_nil))))
    (pds_cons
    (pds_setLc (i := 8) rfl sc_law.nd rfl rfl (sw_true rfl rfl rfl (by decide +kernel)) (pdip (pdi_list (pd_var (pv 7)))) (blkOk_by (own := [(("lot" : Str), 11)]) (by kernel_rfl)) (by decide) (fun _ _ _ _ _ => (pdg_name (pg_name (i := 11) sc_law.nd rfl (by first | exact Or.inl rfl | exact Or.inr rfl)))) (fun _ _ _ _ _ => pdts_nil) (fun _ _ _ _ _ => (pd_tup (pda_cons (pd_var (pv 11)) (pda_cons (pd_if (pt_cmpD (op_neD (u64 hr)) rd_ne (pd_var (pv 11)) (pd_lst (pda_cons pd_int (pda_cons (pd_sub (pd_var (pv 5)) pd_int) pda_nil))) (nomark _)) (pd_lst (pda_cons (pd_lst (pda_cons pd_int (pda_cons pd_int pda_nil))) (pda_cons (pd_lst (pda_cons pd_int (pda_cons pd_int pda_nil))) pda_nil))) (pd_lst (pda_cons (pd_lst (pda_cons pd_int (pda_cons pd_int pda_nil))) (pda_cons (pd_lst (pda_cons pd_int (pda_cons pd_int pda_nil))) pda_nil)))) pda_nil)))))
    (pds_cons
    (pds_if (pdt_w (pwd_or (pt_cmpD (op_neD (u64 hr)) rd_ne (pd_ix (pd_fn (ok_tree_or_core Ev) (Room.mono hr (by decide)) (gl (by kernel_rfl)) Ev.g_tree_or_core Ev.F_tree_or_core.kp (b_tree_or_core Ev) pass0 (pda_cons (pd_var (pv 5)) (pda_cons (pd_var (pv 7)) pda_nil))) pd_int fun _ _ => rfl) pd_str (nomark _)) (pwd_or (pt_cmpD (op_neD (u64 hr)) rd_ne (pd_fn (ok_evened_parts Ev) (Room.mono hr (by decide)) (gl (by kernel_rfl)) Ev.g_evened_parts Ev.F_evened_parts.kp (b_evened_parts Ev) pass0 (pda_cons (pd_var (pv 5)) (pda_cons (pd_var (pv 8)) pda_nil))) (pd_var (pv 8)) (nomark _)) (pwd_or1 (pt_cmpD (op_neD (u64 hr)) rd_ne (pd_fn (ok_joined_rows Ev) (Room.mono hr (by decide)) (gl (by kernel_rfl)) Ev.g_joined_rows Ev.F_joined_rows.kp (b_joined_rows Ev) pass0 (pda_cons (pd_var (pv 5)) (pda_cons (pd_var (pv 8)) pda_nil))) (pd_lst pda_nil) (nomark _)))))) (pds_one (pds_ret pd_bl)) pds_nil)
    (pds_one (pds_if (pdt_w (pwd_or (pt_cmpD (op_neD (u64 hr)) rd_ne (pd_ix (pd_fn (ok_tree_or_core Ev) (Room.mono hr (by decide)) (gl (by kernel_rfl)) Ev.g_tree_or_core Ev.F_tree_or_core.kp (b_tree_or_core Ev) pass0 (pda_cons (pd_var (pv 5)) (pda_cons (pd_var (pv 6)) pda_nil))) pd_int fun _ _ => rfl) pd_str (nomark _)) (pwd_or1 (pt_cmpD (op_neD (u64 hr)) rd_ne (pd_callB call_len rcd_len (gl (by kernel_rfl)) Ev.z_len (by decide +kernel) (pda_cons (pd_fn (ok_joined_rows Ev) (Room.mono hr (by decide)) (gl (by kernel_rfl)) Ev.g_joined_rows Ev.F_joined_rows.kp (b_joined_rows Ev) pass0 (pda_cons (pd_var (pv 5)) (pda_cons (pd_lc rfl sc_law.nd (pdip (pdi_list (pd_var (pv 8)))) (blkOk_by (own := [(("part" : Str), 13)]) (by kernel_rfl)) (by decide) (fun _ _ _ _ _ => (pdg_name (pg_name (i := 13) sc_law.nd rfl (by first | exact Or.inl rfl | exact Or.inr rfl)))) (fun _ _ _ _ _ => (pdts_one (pt_cmpD (op_neD (u64 hr)) rd_ne (pd_ix (pd_var (pv 13)) pd_int fun _ _ => rfl) (pd_lst (pda_cons pd_int (pda_cons (pd_sub (pd_var (pv 5)) pd_int) pda_nil))) (nomark _)))) (fun _ _ _ _ _ => (pd_var (pv 13)))) pda_nil))) pda_nil)) pd_int (nomark _))))) (pds_one (pds_ret pd_bl)) pds_nil)))))))))))))))
    (pds_one (pds_ret pd_bl)))
end
end K84
end

section
set_option Elab.async false
set_option linter.all false
set_option maxRecDepth 100000
set_option maxHeartbeats 1000000
/-! # PM: plain laws of the mirrors' pieces -/
namespace PM
open PySem PySem.Spec PyProof.Rows PD
/-! ### typed data -/
abbrev eI (is : List Int) : PyData := .list (is.map .int)
abbrev eL (xs : List (List Int)) : PyData := .list (xs.map eI)
/-! ### evaluation of the pieces on a known environment -/
section
variable {ρ ρ' : Rho} {F G : Rho → Option PyData} {L : Rho → Option (List PyData)} {T U : Rho → Option Bool} {B C : SF} {M N : Rho → Option (Ent × Rho)}
def datD : Ent → Option PyData
  | .dat d => some d
  | _ => none
@[simp] theorem datD_dat {d : PyData} : datD (.dat d) = some d := rfl
@[simp] theorem eVar_ev {i : Nat} : eVar i ρ = (ρ[i]?).bind datD := by
  unfold eVar
  split
  · rename_i h; rw [h]; rfl
  · rename_i h
    cases q : ρ[i]? with
    | none => rfl
    | some en => cases en with
      | dat d => exact absurd q (h d)
      | unk => rfl
      | own t ds => rfl
def bD : PyData → Option Bool
  | .bool b => some b
  | _ => none
@[simp] theorem bD_bool {b : Bool} : bD (.bool b) = some b := rfl
@[simp] theorem eChain_ev {E : Rho → Option PyData} {f g : PyData → PyData → Option PyData} : eChain f g F G E ρ = (F ρ).bind fun d => (G ρ).bind fun e => (f d e).bind fun t => (bD t).bind fun b => if b = true then (E ρ).bind fun u => g e u else some (.bool false) := by
  unfold eChain
  refine congrArg _ (funext fun d => congrArg _ (funext fun e => congrArg _ (funext fun t => ?_)))
  cases t with
  | bool b => cases b <;> rfl
  | _ => rfl
@[simp] theorem eC_ev {d : PyData} : eC d ρ = some d := rfl
@[simp] theorem eBin_ev {f : PyData → PyData → Option PyData} : eBin f F G ρ = (F ρ).bind fun d => (G ρ).bind fun e => f d e := rfl
@[simp] theorem eUn_ev {f : PyData → Option PyData} : eUn f F ρ = (F ρ).bind f := rfl
@[simp] theorem eCall_ev {f : List PyData → Option PyData} : eCall f L ρ = (L ρ).bind f := rfl
@[simp] theorem aNil_ev : aNil ρ = some [] := rfl
@[simp] theorem aCons_ev : aCons F L ρ = (F ρ).bind fun d => (L ρ).bind fun ds => some (d :: ds) := rfl
@[simp] theorem eLst_ev : eLst L ρ = (L ρ).bind fun ds => if ds.length ≤ lim then some (.list ds) else none := rfl
@[simp] theorem eTup_ev : eTup L ρ = (L ρ).bind fun ds => if ds.length ≤ lim then some (.tuple ds) else none := rfl
@[simp] theorem bOf_ev : bOf F ρ = (F ρ).bind bD := rfl
@[simp] theorem eFn_ev {n : Nat} {m : List PyData → Option PyData} : eFn n m L ρ = (L ρ).bind fun ds => if ds.length = n then m ds else none := rfl
@[simp] theorem eIsi_ev {t : Ty} : eIsi t F ρ = (F ρ).bind fun d => if noScr d = true then some (.bool (isTy t d)) else none := rfl
@[simp] theorem eIsi2_ev {t u : Ty} : eIsi2 t u F ρ = (F ρ).bind fun d => if noScr d = true then some (.bool (isTy t d || isTy u d)) else none := rfl
@[simp] theorem eIf_ev : eIf T F G ρ = (T ρ).bind fun b => if b = true then F ρ else G ρ := rfl
@[simp] theorem bIf_ev {W : Rho → Option Bool} : bIf T U W ρ = (T ρ).bind fun b => if b = true then U ρ else W ρ := rfl
@[simp] theorem bNot_ev : bNot T ρ = (T ρ).map (!·) := rfl
@[simp] theorem bAnd_ev : bAnd T U ρ = (T ρ).bind fun b => if b = true then U ρ else some false := rfl
@[simp] theorem bOr_ev : bOr T U ρ = (T ρ).bind fun b => if b = true then some true else U ρ := rfl
@[simp] theorem eAnd_ev : eAnd F G ρ = (bOf F ρ).bind fun b => if b = true then (bOf G ρ).map .bool else some (.bool false) := rfl
@[simp] theorem eOr_ev : eOr F G ρ = (bOf F ρ).bind fun b => if b = true then some (.bool true) else (bOf G ρ).map .bool := rfl
@[simp] theorem eNot_ev : eNot F ρ = (bOf F ρ).map fun b => .bool (!b) := rfl
@[simp] theorem eMeth_ev {f : PyData → List PyData → Option PyData} : eMeth f F L ρ = (F ρ).bind fun d => (L ρ).bind fun ds => f d ds := rfl
@[simp] theorem sNext_ev : sNext ρ = some (.next, ρ) := rfl
@[simp] theorem sRet_ev : sRet F ρ = (F ρ).map fun d => (.ret d, ρ) := rfl
@[simp] theorem sIf_ev : sIf T B C ρ = (T ρ).bind fun t => if t = true then B ρ else C ρ := rfl
@[simp] theorem sBrk_ev : sBrk ρ = some (.brk, ρ) := rfl
@[simp] theorem sSet_ev {i : Nat} : sSet i M ρ = (M ρ).map fun q => (.next, q.2.set i q.1) := rfl
@[simp] theorem mD_ev : mD F ρ = (F ρ).map fun d => (.dat d, ρ) := rfl
@[simp] theorem mN_ev {F : Rho → Option Ent} : mN F ρ = (F ρ).map fun en => (en, ρ) := rfl
@[simp] theorem sDrop_ev : sDrop M ρ = (M ρ).map fun q => (.next, q.2) := rfl
theorem seq_next {ρ1 : Rho} (h : B ρ = some (.next, ρ1)) : sSeq B C ρ = C ρ1 := by unfold sSeq; rw [h]; rfl
theorem seq_ret {ρ1 : Rho} {d : PyData} (h : B ρ = some (.ret d, ρ1)) : sSeq B C ρ = some (.ret d, ρ1) := by unfold sSeq; rw [h]; rfl
end
@[simp] theorem dLe_int (i j : Int) : dLe (.int i) (.int j) = some (.bool (decide (i ≤ j))) := rfl
@[simp] theorem dLt_int (i j : Int) : dLt (.int i) (.int j) = some (.bool (decide (i < j))) := rfl
@[simp] theorem dGt_int (i j : Int) : dGt (.int i) (.int j) = some (.bool (decide (j < i))) := rfl
@[simp] theorem dGe_int (i j : Int) : dGe (.int i) (.int j) = some (.bool (decide (j ≤ i))) := rfl
@[simp] theorem dAdd_int (i j : Int) : dAdd (.int i) (.int j) = some (.int (i + j)) := rfl
@[simp] theorem dSub_int (i j : Int) : dSub (.int i) (.int j) = some (.int (i - j)) := rfl
@[simp] theorem dLen_list (xs : List PyData) : dLen [.list xs] = some (.int xs.length) := rfl
@[simp] theorem dLen_tuple (xs : List PyData) : dLen [.tuple xs] = some (.int xs.length) := rfl
@[simp] theorem putAll_nil : PD.putAll [] [] ρ' = some ρ' := rfl
@[simp] theorem putAll_cons {i : Nat} {is : List Nat} {d : PyData} {ds : List PyData} : PD.putAll (i :: is) (d :: ds) ρ' = PD.putAll is ds (ρ'.set i (.dat d)) := rfl
@[simp] theorem tgT_tuple {is : List Nat} {ds : List PyData} : tgT is (.tuple ds) ρ' = PD.putAll is ds ρ' := rfl
@[simp] theorem tgN_ev {i : Nat} {d : PyData} : tgN i d ρ' = some (ρ'.set i (.dat d)) := rfl
@[simp] theorem wipeR_nil : wipeR ρ' [] = ρ' := rfl
@[simp] theorem wipeR_cons {v : Nat} {vs : List Nat} : wipeR ρ' (v :: vs) = (wipeR ρ' vs).set v .unk := rfl
def outD : Out → Option PyData
  | .ret d => some d
  | .next => some .none
  | _ => none
@[simp] theorem outD_ret {d : PyData} : outD (.ret d) = some d := rfl
@[simp] theorem outD_next : outD .next = some .none := rfl
theorem runP_ev {N n : Nat} {F : SF} {ds : List PyData} : runP N n F ds = (F (start0 N ds)).bind fun q => outD q.1 := rfl
theorem runP_of {N n : Nat} {F : SF} {ds : List PyData} {o : Out} {ρ' : Rho} {z : PyData} (h : F (start0 N ds) = some (o, ρ')) (ho : outD o = some z) : runP N n F ds = some z := by rw [runP_ev, h]; exact ho
/-! ### comprehensions over typed lists -/
section
variable {α : Type} {ρ : Rho} {T : PyData → Rho → Option Rho} {C : Rho → Option Bool} {E : Rho → Option PyData}
theorem lcGo_map (e : α → PyData) (c : α → Bool) (f : α → PyData) : ∀ (xs : List α), (∀ x ∈ xs, ∃ ρ1, T (e x) ρ = some ρ1 ∧ C ρ1 = some (c x) ∧ (c x = true → E ρ1 = some (f x))) → lcGo T C E ρ (xs.map e) = some ((xs.filter c).map f)
  | [], _ => rfl
  | x :: xs, h => by
    obtain ⟨ρ1, h1, h2, h3⟩ := h x List.mem_cons_self
    have ih := lcGo_map e c f xs fun y hy => h y (List.mem_cons_of_mem _ hy)
    rw [List.map_cons, lcGo, h1]
    show ((C ρ1).bind _) = _
    rw [h2]
    show (if c x = true then _ else _) = _
    cases hc : c x with
    | true =>
      rw [if_pos rfl, h3 hc, ih, List.filter_cons_of_pos hc]
      rfl
    | false =>
      rw [if_neg Bool.false_ne_true, ih, List.filter_cons_of_neg (by simp [hc])]
theorem lcGo_all (e : α → PyData) (f : α → PyData) (xs : List α) (h : ∀ x ∈ xs, ∃ ρ1, T (e x) ρ = some ρ1 ∧ E ρ1 = some (f x)) : lcGo T bYes E ρ (xs.map e) = some (xs.map f) := by
  have := lcGo_map (C := bYes) (ρ := ρ) (T := T) (E := E) e (fun _ => true) f xs fun x hx => let ⟨ρ1, h1, h2⟩ := h x hx; ⟨ρ1, h1, rfl, fun _ => h2⟩
  rw [this, List.filter_eq_self.mpr fun _ _ => rfl]
theorem lcGo2_map {β : Type} {I1 : Rho → Option (List PyData)} {T1 : PyData → Rho → Option Rho} {C1 : Rho → Option Bool} {vs1 : List Nat} (e : α → PyData) (c : α → Bool) (e1 : β → PyData) (g : α → List β) (c1 : α → β → Bool) (f : α → β → PyData) :
    ∀ (xs : List α), (∀ x ∈ xs, ∃ ρ1, T (e x) ρ = some ρ1 ∧ C ρ1 = some (c x) ∧ (c x = true → I1 ρ1 = some ((g x).map e1) ∧ ∀ y ∈ g x, ∃ ρ2, T1 (e1 y) (wipeR ρ1 vs1) = some ρ2 ∧ C1 ρ2 = some (c1 x y) ∧ (c1 x y = true → E ρ2 = some (f x y)))) →
      lcGo2 T C I1 T1 C1 E vs1 ρ (xs.map e) = some ((xs.filter c).flatMap fun x => ((g x).filter (c1 x)).map (f x))
  | [], _ => rfl
  | x :: xs, h => by
    obtain ⟨ρ1, h1, h2, h3⟩ := h x List.mem_cons_self
    have ih := lcGo2_map e c e1 g c1 f xs fun y hy => h y (List.mem_cons_of_mem _ hy)
    rw [List.map_cons, lcGo2, h1]
    show ((C ρ1).bind _) = _
    rw [h2]
    show (if c x = true then _ else _) = _
    cases hc : c x with
    | true =>
      obtain ⟨h4, h5⟩ := h3 hc
      rw [if_pos rfl, h4]
      show ((lcGo T1 C1 E (wipeR ρ1 vs1) ((g x).map e1)).bind _) = _
      rw [lcGo_map e1 (c1 x) (f x) (g x) h5, ih, List.filter_cons_of_pos hc, List.flatMap_cons]
      rfl
    | false =>
      rw [if_neg Bool.false_ne_true, ih, List.filter_cons_of_neg (by simp [hc])]
theorem eLC_map {I : Rho → Option (List PyData)} {vs : List Nat} (e : α → PyData) (c : α → Bool) (f : α → PyData) (xs : List α) {z : PyData} (hI : I ρ = some (xs.map e)) (h : ∀ x ∈ xs, ∃ ρ1, T (e x) (wipeR ρ vs) = some ρ1 ∧ C ρ1 = some (c x) ∧ (c x = true → E ρ1 = some (f x))) (hz : .list ((xs.filter c).map f) = z := by rfl) : eLC I T C E vs ρ = some z := by
  unfold eLC
  rw [hI]
  show ((lcGo _ _ _ _ _).map _) = _
  rw [lcGo_map e c f xs h, ← hz]
  rfl
theorem eLC_all {I : Rho → Option (List PyData)} {vs : List Nat} (e : α → PyData) (f : α → PyData) (xs : List α) {z : PyData} (hI : I ρ = some (xs.map e)) (h : ∀ x ∈ xs, ∃ ρ1, T (e x) (wipeR ρ vs) = some ρ1 ∧ E ρ1 = some (f x)) (hz : .list (xs.map f) = z := by rfl) : eLC I T bYes E vs ρ = some z := by
  unfold eLC
  rw [hI]
  show ((lcGo _ _ _ _ _).map _) = _
  rw [lcGo_all e f xs h, ← hz]
  rfl
theorem eLC2_map {β : Type} {I I1 : Rho → Option (List PyData)} {T1 : PyData → Rho → Option Rho} {C1 : Rho → Option Bool} {vs vs1 : List Nat} (e : α → PyData) (c : α → Bool) (e1 : β → PyData) (g : α → List β) (c1 : α → β → Bool) (f : α → β → PyData) (xs : List α) {z : PyData} (hI : I ρ = some (xs.map e))
    (h : ∀ x ∈ xs, ∃ ρ1, T (e x) (wipeR ρ vs) = some ρ1 ∧ C ρ1 = some (c x) ∧ (c x = true → I1 ρ1 = some ((g x).map e1) ∧ ∀ y ∈ g x, ∃ ρ2, T1 (e1 y) (wipeR ρ1 vs1) = some ρ2 ∧ C1 ρ2 = some (c1 x y) ∧ (c1 x y = true → E ρ2 = some (f x y))))
    (hl : ((xs.filter c).flatMap fun x => ((g x).filter (c1 x)).map (f x)).length ≤ lim) (hz : .list ((xs.filter c).flatMap fun x => ((g x).filter (c1 x)).map (f x)) = z := by rfl) : eLC2 I T C I1 T1 C1 E vs vs1 ρ = some z := by
  unfold eLC2
  rw [hI]
  show ((lcGo2 _ _ _ _ _ _ _ _ _).bind _) = _
  rw [lcGo2_map e c e1 g c1 f xs h, ← hz]
  show (if _ then _ else _) = _
  rw [if_pos hl]
/-! ### statements, backwards -/
section
variable {F G : Rho → Option PyData} {L : Rho → Option (List PyData)} {U : Rho → Option Bool} {B D : SF} {M : Rho → Option (Ent × Rho)} {ρ1 ρ2 : Rho} {d : PyData} {i : Nat}
theorem runP_ret {N n : Nat} {ds : List PyData} (h : B (start0 N ds) = some (.ret d, ρ1)) : runP N n B ds = some d := runP_of h rfl
theorem runP_next {N n : Nat} {ds : List PyData} (h : B (start0 N ds) = some (.next, ρ1)) : runP N n B ds = some .none := runP_of h rfl
theorem ret_of (h : F ρ = some d) : sRet F ρ = some (.ret d, ρ) := by rw [sRet_ev, h]; rfl
theorem set_of {en : Ent} (h : M ρ = some (en, ρ1)) : sSet i M ρ = some (.next, ρ1.set i en) := by rw [sSet_ev, h]; rfl
theorem setD_of (h : F ρ = some d) : sSet i (mD F) ρ = some (.next, ρ.set i (.dat d)) := by rw [sSet_ev, mD_ev, h]; rfl
theorem setN_of {F : Rho → Option Ent} {en : Ent} (h : F ρ = some en) : sSet i (mN F) ρ = some (.next, ρ.set i en) := by rw [sSet_ev, mN_ev, h]; rfl
theorem dropD_of (h : F ρ = some d) : sDrop (mD F) ρ = some (.next, ρ) := by rw [sDrop_ev, mD_ev, h]; rfl
theorem unp_of {T : PyData → Rho → Option Rho} (h : F ρ = some d) (h2 : T d ρ = some ρ1) : sUnp T F ρ = some (.next, ρ1) := by unfold sUnp; rw [h]; show ((T d ρ).map _) = _; rw [h2]; rfl
theorem seq_of {o : Out} (h : B ρ = some (.next, ρ1)) (h2 : D ρ1 = some (o, ρ2)) : sSeq B D ρ = some (o, ρ2) := (seq_next h).trans h2
theorem if_t {q : Option (Out × Rho)} (h : U ρ = some true) (h2 : B ρ = q) : sIf U B D ρ = q := by rw [sIf_ev, h]; exact h2
theorem if_f {q : Option (Out × Rho)} (h : U ρ = some false) (h2 : D ρ = q) : sIf U B D ρ = q := by rw [sIf_ev, h]; exact h2
theorem eFn_of {n : Nat} {m : List PyData → Option PyData} {ds : List PyData} (h : L ρ = some ds) (h2 : m ds = some d) (hn : ds.length = n := by rfl) : eFn n m L ρ = some d := by rw [eFn_ev, h]; show (if _ then _ else _) = _; rw [if_pos hn, h2]
theorem eCall_of {f : List PyData → Option PyData} {ds : List PyData} (h : L ρ = some ds) (h2 : f ds = some d) : eCall f L ρ = some d := by rw [eCall_ev, h]; exact h2
theorem a0 : aNil ρ = some [] := rfl
theorem a1 {ds : List PyData} (h : F ρ = some d) (h2 : L ρ = some ds) : aCons F L ρ = some (d :: ds) := by rw [aCons_ev, h]; show ((L ρ).bind _) = _; rw [h2]; rfl
theorem v_of (h : ρ[i]? = some (.dat d) := by rfl) : eVar i ρ = some d := by rw [eVar_ev, h]; rfl
theorem bin_of {f : PyData → PyData → Option PyData} {e z : PyData} (h : F ρ = some d) (h2 : G ρ = some e) (h3 : f d e = some z) : eBin f F G ρ = some z := by rw [eBin_ev, h]; show ((G ρ).bind _) = _; rw [h2]; exact h3
theorem un_of {f : PyData → Option PyData} {z : PyData} (h : F ρ = some d) (h3 : f d = some z) : eUn f F ρ = some z := by rw [eUn_ev, h]; exact h3
theorem b_of {b : Bool} (h : F ρ = some (.bool b)) : bOf F ρ = some b := by rw [bOf_ev, h]; rfl
theorem lst_of {ds : List PyData} (h : L ρ = some ds) (hl : ds.length ≤ lim) : eLst L ρ = some (.list ds) := by rw [eLst_ev, h]; show (if _ then _ else _) = _; rw [if_pos hl]
theorem tup_of {ds : List PyData} (h : L ρ = some ds) (hl : ds.length ≤ lim) : eTup L ρ = some (.tuple ds) := by rw [eTup_ev, h]; show (if _ then _ else _) = _; rw [if_pos hl]
/-- the block hands back d -/
def RetQ (B : SF) (ρ : Rho) (d : PyData) : Prop := ∃ ρ', B ρ = some (.ret d, ρ')
/-- the block goes on, behind it I -/
def NextQ (B : SF) (ρ : Rho) (I : Rho → Prop) : Prop := ∃ ρ', B ρ = some (.next, ρ') ∧ I ρ'
theorem runQ {N n : Nat} {ds : List PyData} (h : RetQ B (start0 N ds) d) : runP N n B ds = some d := let ⟨_, h⟩ := h; runP_ret h
theorem runQ_next {N n : Nat} {ds : List PyData} {I : Rho → Prop} (h : NextQ B (start0 N ds) I) : runP N n B ds = some .none := let ⟨_, h, _⟩ := h; runP_next h
theorem retQ (h : F ρ = some d) : RetQ (sRet F) ρ d := ⟨ρ, ret_of h⟩
theorem seqQ (h : B ρ = some (.next, ρ1)) (h2 : RetQ D ρ1 d) : RetQ (sSeq B D) ρ d := let ⟨r, h2⟩ := h2; ⟨r, seq_of h h2⟩
theorem seqQI {I : Rho → Prop} (h : NextQ B ρ I) (h2 : ∀ ρ1, I ρ1 → RetQ D ρ1 d) : RetQ (sSeq B D) ρ d := let ⟨r, h, hi⟩ := h; seqQ h (h2 r hi)
theorem seqQ_ret (h : RetQ B ρ d) : RetQ (sSeq B D) ρ d := let ⟨r, h⟩ := h; ⟨r, seq_ret h⟩
theorem ifQ_t (h : U ρ = some true) (h2 : RetQ B ρ d) : RetQ (sIf U B D) ρ d := let ⟨r, h2⟩ := h2; ⟨r, if_t h h2⟩
theorem ifQ_f (h : U ρ = some false) (h2 : RetQ D ρ d) : RetQ (sIf U B D) ρ d := let ⟨r, h2⟩ := h2; ⟨r, if_f h h2⟩
theorem nextQ {I : Rho → Prop} (h : B ρ = some (.next, ρ1)) (hi : I ρ1) : NextQ B ρ I := ⟨_, h, hi⟩
theorem seqN {I : Rho → Prop} (h : B ρ = some (.next, ρ1)) (h2 : NextQ D ρ1 I) : NextQ (sSeq B D) ρ I := let ⟨r, h2, hi⟩ := h2; ⟨r, seq_of h h2, hi⟩
theorem seqNI {I J : Rho → Prop} (h : NextQ B ρ J) (h2 : ∀ ρ1, J ρ1 → NextQ D ρ1 I) : NextQ (sSeq B D) ρ I := let ⟨r, h, hj⟩ := h; seqN h (h2 r hj)
theorem ifN_t {I : Rho → Prop} (h : U ρ = some true) (h2 : NextQ B ρ I) : NextQ (sIf U B D) ρ I := let ⟨r, h2, hi⟩ := h2; ⟨r, if_t h h2, hi⟩
theorem ifN_f {I : Rho → Prop} (h : U ρ = some false) (h2 : NextQ D ρ I) : NextQ (sIf U B D) ρ I := let ⟨r, h2, hi⟩ := h2; ⟨r, if_f h h2, hi⟩
theorem ixN_nat {n k : Nat} (h : k < n) : L2.ixN n (k : Int) = some k := by
  unfold L2.ixN
  simp
  omega
theorem put_of {Kf : Rho → Option PyData} {t : Bool} {ds : List PyData} {j : Nat} {k : Int} (h : F ρ = some d) (ho : ρ[i]? = some (.own t ds)) (hk : Kf ρ = some (.int k)) (hj : L2.ixN ds.length k = some j) : sPut i Kf (mD F) ρ = some (.next, ρ.set i (.own t (ds.set j d))) := by
  unfold sPut
  rw [mD_ev, h]
  show (match Ent.dat d, ρ[i]? with | .dat d, some (.own t ds) => _ | _, _ => _) = _
  rw [ho]
  show ((Kf ρ).bind _) = _
  rw [hk]
  show ((L2.ixN ds.length k).map _) = _
  rw [hj]
  rfl
theorem retOwnQ {t : Bool} {ds : List PyData} (ho : ρ[i]? = some (.own t ds)) : RetQ (sRetOwn i) ρ (.list ds) := ⟨_, by unfold sRetOwn; rw [ho]⟩
theorem cut_take {β : Type} (xs : List β) (n : Nat) : PD.cutD xs none (some (n : Int)) = xs.take n := by
  have h1 : HT.sIx xs.length 0 none = 0 := rfl
  have h2 : HT.sIx xs.length xs.length (some (n : Int)) = min n xs.length := HT.sIx_nat _ _ _
  unfold PD.cutD
  rw [h1, h2, List.drop_zero, Nat.sub_zero]
  by_cases h : n ≤ xs.length
  · rw [Nat.min_eq_left h]
  · rw [Nat.min_eq_right (by omega), List.take_length, List.take_of_length_le (by omega)]
theorem cut_drop {β : Type} (xs : List β) (n : Nat) : PD.cutD xs (some (n : Int)) none = xs.drop n := by
  have h1 : HT.sIx xs.length xs.length none = xs.length := rfl
  have h2 : HT.sIx xs.length 0 (some (n : Int)) = min n xs.length := HT.sIx_nat _ _ _
  unfold PD.cutD
  rw [h1, h2]
  by_cases h : n ≤ xs.length
  · rw [Nat.min_eq_left h, List.take_of_length_le (by simp)]
  · rw [Nat.min_eq_right (by omega), List.drop_length, List.drop_of_length_le (by omega), List.take_nil]
theorem iLst_of {ds : List PyData} (h : F ρ = some (.list ds)) : iLst F ρ = some ds := by unfold iLst; rw [h]; rfl
theorem mI_of {I : Rho → Option (List PyData)} {ds : List PyData} (h : I ρ = some ds) : mI I ρ = some (ds, ρ) := by unfold mI; rw [h]; rfl
theorem for_of {I : Rho → Option (List PyData × Rho)} {T : PyData → Rho → Option Rho} {ds : List PyData} {q : Option (Out × Rho)} (h : I ρ = some (ds, ρ1)) (h2 : forGo T B ds ρ1 = q) : sFor I T B ρ = q := by unfold sFor; rw [h]; exact h2
end
/-! ### loops -/
theorem forGo_inv {B : SF} (e : α → PyData) (I : List α → Rho → Prop) : ∀ (xs done : List α) (ρ : Rho), I done ρ → (∀ d1 x d2 ρ, done ++ xs = d1 ++ x :: d2 → done.length ≤ d1.length → I d1 ρ → ∃ ρ1 ρ2, T (e x) ρ = some ρ1 ∧ (B ρ1 = some (.next, ρ2) ∨ B ρ1 = some (.cont, ρ2)) ∧ I (d1 ++ [x]) ρ2) →
    ∃ ρ', forGo T B (xs.map e) ρ = some (.next, ρ') ∧ I (done ++ xs) ρ'
  | [], done, ρ, h0, _ => ⟨ρ, rfl, by rw [List.append_nil]; exact h0⟩
  | x :: xs, done, ρ, h0, hs => by
    obtain ⟨ρ1, ρ2, h1, h2, h3⟩ := hs done x xs ρ rfl (Nat.le_refl _) h0
    obtain ⟨ρ', h4, h5⟩ := forGo_inv (B := B) e I xs (done ++ [x]) ρ2 h3 fun d1 y d2 r e1 e2 => hs d1 y d2 r (by rw [← e1]; simp) (by simp at e2; omega)
    refine ⟨ρ', ?_, by simpa using h5⟩
    rw [List.map_cons, forGo, h1]
    show ((B ρ1).bind _) = _
    rcases h2 with h2 | h2 <;> (rw [h2]; exact h4)
end
theorem while_inv {Tt : Rho → Option Bool} {B : SF} {P : Out → Rho → Prop} (I : Nat → Rho → Prop) (hs : ∀ m ρ, I m ρ → Tt ρ = some true ∧ ((∃ ρ' m', m' < m ∧ (B ρ = some (.next, ρ') ∨ B ρ = some (.cont, ρ')) ∧ I m' ρ') ∨ (∃ ρ', B ρ = some (.brk, ρ') ∧ P .next ρ') ∨ ∃ ρ' d, B ρ = some (.ret d, ρ') ∧ P (.ret d) ρ')) :
    ∀ (n m : Nat) (ρ : Rho), m < n → I m ρ → ∃ o ρ', sWhile Tt B n ρ = some (o, ρ') ∧ P o ρ'
  | 0, m, ρ, h, _ => absurd h (Nat.not_lt_zero m)
  | n + 1, m, ρ, h, hI => by
    obtain ⟨h1, h2⟩ := hs m ρ hI
    unfold sWhile
    rw [h1]
    simp only [Option.bind_some, if_true]
    rcases h2 with ⟨ρ', m', hm, h2, h3⟩ | ⟨ρ', h2, h3⟩ | ⟨ρ', d, h2, h3⟩
    · obtain ⟨o, ρ2, h4, h5⟩ := while_inv I hs n m' ρ' (by omega) h3
      refine ⟨o, ρ2, ?_, h5⟩
      rcases h2 with h2 | h2 <;> (rw [h2]; exact h4)
    · exact ⟨.next, ρ', by rw [h2] <;> rfl, h3⟩
    · exact ⟨.ret d, ρ', by rw [h2] <;> rfl, h3⟩
/-- a loop that goes through -/
theorem forN {α : Type} {T : PyData → Rho → Option Rho} {B : SF} {Is : Rho → Option (List PyData × Rho)} {ρ ρ1 : Rho} {J : Rho → Prop} (e : α → PyData) (xs : List α) (I : List α → Rho → Prop) (hs : Is ρ = some (xs.map e, ρ1)) (h0 : I [] ρ1)
    (h : ∀ d1 x d2 ρ, xs = d1 ++ x :: d2 → I d1 ρ → ∃ ρ2, T (e x) ρ = some ρ2 ∧ NextQ B ρ2 (I (d1 ++ [x]))) (hJ : ∀ ρ, I xs ρ → J ρ) : NextQ (sFor Is T B) ρ J := by
  obtain ⟨ρ', h1, h2⟩ := forGo_inv (B := B) (T := T) e I xs [] ρ1 h0 fun d1 x d2 r e1 _ hi => by
    obtain ⟨r1, h1, r2, h2, h3⟩ := h d1 x d2 r e1 hi
    exact ⟨r1, r2, h1, .inl h2, h3⟩
  exact ⟨ρ', for_of hs h1, hJ _ h2⟩
/-! ### truth of data -/
theorem boolsOf_map (bs : List Bool) : boolsOf (bs.map PyData.bool) = some bs := by
  induction bs with
  | nil => rfl
  | cons b bs ih => rw [List.map_cons, boolsOf, ih]; rfl
theorem dAll_map {α : Type} (f : α → Bool) (xs : List α) : dAll [.list (xs.map fun x => .bool (f x))] = some (.bool (xs.all f)) := by
  have : xs.map (fun x => PyData.bool (f x)) = (xs.map f).map PyData.bool := by rw [List.map_map]; rfl
  rw [this]
  show (boolsOf _).map _ = _
  rw [boolsOf_map]
  simp [List.all_map]
theorem dAny_map {α : Type} (f : α → Bool) (xs : List α) : dAny [.list (xs.map fun x => .bool (f x))] = some (.bool (xs.any f)) := by
  have : xs.map (fun x => PyData.bool (f x)) = (xs.map f).map PyData.bool := by rw [List.map_map]; rfl
  rw [this]
  show (boolsOf _).map _ = _
  rw [boolsOf_map]
  simp [List.any_map]
theorem eqvAll_map {α : Type} [DecidableEq α] (e : α → PyData) (h : ∀ a b, PyData.eqv (e a) (e b) = decide (a = b)) : ∀ xs ys : List α, PyData.eqvAll (xs.map e) (ys.map e) = decide (xs = ys)
  | [], [] => by simp [PyData.eqvAll]
  | x :: xs, [] => by simp [PyData.eqvAll]
  | [], y :: ys => by simp [PyData.eqvAll]
  | x :: xs, y :: ys => by
    rw [List.map_cons, List.map_cons, PyData.eqvAll, h, eqvAll_map e h xs ys]
    simp
theorem eqv_int (a b : Int) : PyData.eqv (.int a) (.int b) = decide (a = b) := by
  rw [PyData.eqv]
  by_cases h : a = b <;> simp [h]
theorem eqv_eI (a b : List Int) : PyData.eqv (eI a) (eI b) = decide (a = b) := by
  rw [PyData.eqv]
  exact eqvAll_map _ eqv_int a b
theorem eqv_eL (a b : List (List Int)) : PyData.eqv (eL a) (eL b) = decide (a = b) := by
  rw [PyData.eqv]
  exact eqvAll_map _ eqv_eI a b
/-! ### data of small depth -/
def Sh (k : Nat) (d : PyData) : Prop := d.canLay0 = true ∧ d.depth ≤ k
theorem Sh.shaped {k : Nat} {d : PyData} (h : Sh k d) (hk : k ≤ 64) : SeqAt.shaped d = true := by
  unfold SeqAt.shaped
  rw [h.1]
  simpa using Nat.le_trans h.2 hk
theorem sh_int (i : Int) : Sh 0 (.int i) := ⟨by simp [PyData.canLay0], by simp [PyData.depth]⟩
theorem sh_non : Sh 0 .none := ⟨by simp [PyData.canLay0], by simp [PyData.depth]⟩
theorem sh_bool (i : Bool) : Sh 0 (.bool i) := ⟨by simp [PyData.canLay0], by simp [PyData.depth]⟩
theorem sh_all {k : Nat} : ∀ {ds : List PyData}, (∀ d ∈ ds, Sh k d) → PyData.canLayAll0 ds = true ∧ PyData.depthAll ds ≤ k
  | [], _ => ⟨by simp [PyData.canLayAll0], by simp [PyData.depthAll]⟩
  | d :: ds, h => by
    obtain ⟨h1, h2⟩ := h d List.mem_cons_self
    obtain ⟨h3, h4⟩ := sh_all (ds := ds) fun x hx => h x (List.mem_cons_of_mem _ hx)
    exact ⟨by simp [PyData.canLayAll0, h1, h3], by simp [PyData.depthAll]; omega⟩
theorem sh_list {k : Nat} {ds : List PyData} (h : ∀ d ∈ ds, Sh k d) : Sh (k + 1) (.list ds) := by
  obtain ⟨h1, h2⟩ := sh_all h
  exact ⟨by simp [PyData.canLay0, h1], by simp [PyData.depth]; omega⟩
theorem sh_tuple {k : Nat} {ds : List PyData} (h : ∀ d ∈ ds, Sh k d) : Sh (k + 1) (.tuple ds) := by
  obtain ⟨h1, h2⟩ := sh_all h
  exact ⟨by simp [PyData.canLay0, h1], by simp [PyData.depth]; omega⟩
theorem Sh.mono {j k : Nat} {d : PyData} (h : Sh j d) (hk : j ≤ k) : Sh k d := ⟨h.1, Nat.le_trans h.2 hk⟩
theorem sh_eI (is : List Int) : Sh 1 (eI is) := sh_list fun d hd => by
  obtain ⟨i, _, rfl⟩ := List.mem_map.mp hd
  exact sh_int i
theorem sh_eL (xs : List (List Int)) : Sh 2 (eL xs) := sh_list fun d hd => by
  obtain ⟨i, _, rfl⟩ := List.mem_map.mp hd
  exact sh_eI i
theorem dEq_sh {j k : Nat} {d e : PyData} (h : Sh j d) (h' : Sh k e) (hj : j ≤ 64 := by decide) (hk : k ≤ 64 := by decide) : dEq d e = some (.bool (PyData.eqv d e)) := by unfold dEq; rw [if_pos ⟨h.shaped hj, h'.shaped hk⟩]
theorem dNe_sh {j k : Nat} {d e : PyData} (h : Sh j d) (h' : Sh k e) (hj : j ≤ 64 := by decide) (hk : k ≤ 64 := by decide) : dNe d e = some (.bool (!PyData.eqv d e)) := by unfold dNe; rw [if_pos ⟨h.shaped hj, h'.shaped hk⟩]
@[simp] theorem dEq_int (i j : Int) : dEq (.int i) (.int j) = some (.bool (decide (i = j))) := by rw [dEq_sh (sh_int i) (sh_int j), eqv_int]
@[simp] theorem dNe_int (i j : Int) : dNe (.int i) (.int j) = some (.bool (!decide (i = j))) := by rw [dNe_sh (sh_int i) (sh_int j), eqv_int]
theorem dEq_eI (a b : List Int) : dEq (eI a) (eI b) = some (.bool (decide (a = b))) := by rw [dEq_sh (sh_eI a) (sh_eI b), eqv_eI]
theorem dNe_eI (a b : List Int) : dNe (eI a) (eI b) = some (.bool (!decide (a = b))) := by rw [dNe_sh (sh_eI a) (sh_eI b), eqv_eI]
theorem dEq_eL (a b : List (List Int)) : dEq (eL a) (eL b) = some (.bool (decide (a = b))) := by rw [dEq_sh (sh_eL a) (sh_eL b), eqv_eL]
theorem dNe_eL (a b : List (List Int)) : dNe (eL a) (eL b) = some (.bool (!decide (a = b))) := by rw [dNe_sh (sh_eL a) (sh_eL b), eqv_eL]
theorem any_eqv {α : Type} [DecidableEq α] (e : α → PyData) (h : ∀ a b, PyData.eqv (e a) (e b) = decide (a = b)) (x : α) (xs : List α) : ((xs.map e).any fun z => PyData.eqv z (e x)) = decide (x ∈ xs) := by
  rw [List.any_map]
  by_cases hx : x ∈ xs
  · rw [decide_eq_true hx, List.any_eq_true]
    exact ⟨x, hx, by simp [h]⟩
  · rw [decide_eq_false hx, List.any_eq_false]
    intro y hy
    simp only [Function.comp, h, decide_eq_true_eq]
    exact fun z => hx (z ▸ hy)
theorem dIn_int (neg : Bool) (i : Int) (is : List Int) : dIn neg (.int i) (eI is) = some (.bool (if neg then !decide (i ∈ is) else decide (i ∈ is))) := by
  show (if _ then _ else _) = _
  rw [if_pos ⟨(sh_int i).shaped (by decide), (sh_eI is).shaped (by decide)⟩, any_eqv PyData.int eqv_int i is]
theorem dIn_eI (neg : Bool) (i : List Int) (is : List (List Int)) : dIn neg (eI i) (eL is) = some (.bool (if neg then !decide (i ∈ is) else decide (i ∈ is))) := by
  show (if _ then _ else _) = _
  rw [if_pos ⟨(sh_eI i).shaped (by decide), (sh_eL is).shaped (by decide)⟩, any_eqv eI eqv_eI i is]
  congr 2
  split <;> simp
/-! ### sorted -/
theorem alike_ints : ∀ a b : List Int, PySem.W.alikeAll (a.map .int) (b.map .int) = true
  | [], _ => by simp [PySem.W.alikeAll]
  | _ :: _, [] => by simp [PySem.W.alikeAll]
  | x :: a, y :: b => by simp [PySem.W.alikeAll, PySem.W.alike, alike_ints a b]
theorem alike_eI (a b : List Int) : PySem.W.alike (eI a) (eI b) = true := by rw [PySem.W.alike]; exact alike_ints a b
def sortL (xs : List (List Int)) : List (List Int) := xs.mergeSort fun a b => decide (a ≤ b)
theorem sortD_eL (xs : List (List Int)) : sortD (xs.map eI) = (sortL xs).map eI := by
  unfold sortD sortL
  refine (List.map_mergeSort fun a _ b _ => ?_).symm
  have := congrFun (congrFun (PySem.W.dataLe_rows (fun x : List Int => x)) a) b
  exact this.symm
theorem dSorted_eL (xs : List (List Int)) : dSorted [eL xs] = some (eL (sortL xs)) := by
  show (if _ then _ else _) = _
  rw [if_pos, sortD_eL]
  refine ⟨?_, .inl ?_, ?_⟩
  · unfold alikes
    rw [List.all_map, List.all_eq_true]
    intro x _
    simp only [Function.comp]
    rw [List.all_map, List.all_eq_true]
    intro y _
    exact alike_eI x y
  · rw [List.all_map, List.all_eq_true]
    intro x _
    rfl
  · rw [List.all_map, List.all_eq_true]
    intro x _
    exact (sh_eI x).shaped (by decide)
theorem sortL_perm (xs : List (List Int)) : (sortL xs).Perm xs := List.mergeSort_perm _ _
theorem sortL_mem {xs : List (List Int)} {x : List Int} : x ∈ sortL xs ↔ x ∈ xs := (sortL_perm xs).mem_iff
theorem sortL_nodup {xs : List (List Int)} (h : xs.Nodup) : (sortL xs).Nodup := (sortL_perm xs).symm.nodup h
theorem sortL_len (xs : List (List Int)) : (sortL xs).length = xs.length := (sortL_perm xs).length_eq
/-! ### sorted, by insertion -/
def ins {α : Type} (le : α → α → Bool) (x : α) : List α → List α
  | [] => [x]
  | y :: ys => if le x y = true then x :: y :: ys else y :: ins le x ys
def isrt {α : Type} (le : α → α → Bool) (xs : List α) : List α := xs.foldr (ins le) []
theorem ins_perm {α : Type} (le : α → α → Bool) (x : α) : ∀ ys, (ins le x ys).Perm (x :: ys)
  | [] => List.Perm.refl _
  | y :: ys => by
    unfold ins
    split
    · exact List.Perm.refl _
    · exact ((ins_perm le x ys).cons y).trans (List.Perm.swap x y ys)
theorem isrt_perm {α : Type} (le : α → α → Bool) : ∀ xs : List α, (isrt le xs).Perm xs
  | [] => List.Perm.refl _
  | x :: xs => (ins_perm le x _).trans ((isrt_perm le xs).cons x)
theorem ins_pw {α : Type} {le : α → α → Bool} (tr : ∀ a b c, le a b = true → le b c = true → le a c = true) (to : ∀ a b, (le a b || le b a) = true) (x : α) : ∀ ys, ys.Pairwise (fun a b => le a b = true) → (ins le x ys).Pairwise (fun a b => le a b = true)
  | [], _ => List.pairwise_singleton _ _
  | y :: ys, h => by
    rw [List.pairwise_cons] at h
    unfold ins
    split
    · rename_i hxy
      refine List.pairwise_cons.mpr ⟨fun z hz => ?_, List.pairwise_cons.mpr h⟩
      rcases List.mem_cons.mp hz with rfl | hz
      · exact hxy
      · exact tr _ _ _ hxy (h.1 z hz)
    · rename_i hxy
      have hyx : le y x = true := by
        have := to x y
        cases e : le x y
        · rw [e] at this; simpa using this
        · exact absurd e hxy
      refine List.pairwise_cons.mpr ⟨fun z hz => ?_, ins_pw tr to x ys h.2⟩
      rcases List.mem_cons.mp ((ins_perm le x ys).mem_iff.mp hz) with rfl | hz
      · exact hyx
      · exact h.1 z hz
theorem isrt_pw {α : Type} {le : α → α → Bool} (tr : ∀ a b c, le a b = true → le b c = true → le a c = true) (to : ∀ a b, (le a b || le b a) = true) : ∀ xs : List α, (isrt le xs).Pairwise (fun a b => le a b = true)
  | [] => List.Pairwise.nil
  | x :: xs => ins_pw tr to x _ (isrt_pw tr to xs)
theorem merge_isrt {α : Type} {le : α → α → Bool} (tr : ∀ a b c, le a b = true → le b c = true → le a c = true) (to : ∀ a b, (le a b || le b a) = true) (an : ∀ a b, le a b = true → le b a = true → a = b) (xs : List α) : xs.mergeSort le = isrt le xs :=
  List.Perm.eq_of_pairwise (fun a b _ _ => an a b) (List.pairwise_mergeSort tr to xs) (isrt_pw tr to xs) ((List.mergeSort_perm xs le).trans (isrt_perm le xs).symm)
def leL (a b : List Int) : Bool := decide (a ≤ b)
theorem leL_tr (a b c : List Int) (h : leL a b = true) (h' : leL b c = true) : leL a c = true := decide_eq_true (List.le_trans (of_decide_eq_true h) (of_decide_eq_true h'))
theorem leL_to (a b : List Int) : (leL a b || leL b a) = true := by
  rcases List.le_total a b with h | h
  · unfold leL; rw [decide_eq_true h]; rfl
  · unfold leL; rw [decide_eq_true h]; exact Bool.or_true _
theorem leL_an (a b : List Int) (h : leL a b = true) (h' : leL b a = true) : a = b := List.le_antisymm (of_decide_eq_true h) (of_decide_eq_true h')
theorem sortL_isrt (xs : List (List Int)) : sortL xs = isrt leL xs := merge_isrt leL_tr leL_to leL_an xs
/-- by length, then by letters -/
def leN (a b : List Int) : Bool := if a.length = b.length then leL a b else decide (a.length < b.length)
theorem leN_tr (a b c : List Int) (h : leN a b = true) (h' : leN b c = true) : leN a c = true := by
  unfold leN at h h' ⊢
  split at h
  · rename_i e
    split at h'
    · rename_i e'
      rw [if_pos (e.trans e')]
      exact leL_tr a b c h h'
    · rename_i e'
      rw [if_neg (by omega)]
      simp only [decide_eq_true_eq] at h' ⊢
      omega
  · rename_i e
    split at h'
    · rename_i e'
      rw [if_neg (by omega)]
      simp only [decide_eq_true_eq] at h ⊢
      omega
    · simp only [decide_eq_true_eq] at h h'
      rw [if_neg (by omega)]
      simp only [decide_eq_true_eq]
      omega
theorem leN_to (a b : List Int) : (leN a b || leN b a) = true := by
  unfold leN
  by_cases e : a.length = b.length
  · rw [if_pos e, if_pos e.symm]
    exact leL_to a b
  · rw [if_neg e, if_neg (Ne.symm e)]
    simp only [Bool.or_eq_true, decide_eq_true_eq]
    omega
theorem leN_an (a b : List Int) (h : leN a b = true) (h' : leN b a = true) : a = b := by
  unfold leN at h h'
  by_cases e : a.length = b.length
  · rw [if_pos e] at h
    rw [if_pos e.symm] at h'
    exact leL_an a b h h'
  · rw [if_neg e] at h
    rw [if_neg (Ne.symm e)] at h'
    simp only [decide_eq_true_eq] at h h'
    omega
abbrev eN (l : List Int) : PyData := .tuple [.int l.length, eI l]
theorem dataLe_N (a b : List Int) : PySem.W.dataLe false (fun x : PyData => x) (eN a) (eN b) = leN a b := by
  show (!PySem.W.dataLt (eN b) (eN a)) = _
  rw [PySem.W.dataLt_pair (by simp [PySem.W.alike]) (alike_eI _ _), PySem.W.dataLt_int, eqv_int, eqv_eI]
  unfold leN
  by_cases e : a.length = b.length
  · rw [if_pos (by simp [e]), if_pos e]
    by_cases e2 : b = a
    · subst e2
      rw [if_pos (by simp)]
      unfold leL
      rw [decide_eq_true (List.le_refl b)]
      rfl
    · rw [if_neg (by simpa using e2)]
      have := congrFun (congrFun (PySem.W.dataLe_rows (fun x : List Int => x)) a) b
      have h2 : (!PySem.W.dataLt (eI b) (eI a)) = decide (a ≤ b) := this
      exact h2
  · rw [if_neg (by simp; omega), if_neg e]
    rw [← decide_not]
    congr 1
    simp
    omega
theorem sortD_N (xs : List (List Int)) : sortD (xs.map eN) = (isrt leN xs).map eN := by
  rw [← merge_isrt leN_tr leN_to leN_an]
  unfold sortD
  exact (List.map_mergeSort fun a _ b _ => (dataLe_N a b).symm).symm
theorem sh_eN (l : List Int) : Sh 2 (eN l) := sh_tuple fun d hd => by
  simp only [List.mem_cons, List.not_mem_nil, or_false] at hd
  rcases hd with rfl | rfl
  · exact (sh_int _).mono (by decide)
  · exact sh_eI l
theorem dSorted_N (xs : List (List Int)) : dSorted [.list (xs.map eN)] = some (.list ((isrt leN xs).map eN)) := by
  show (if _ then _ else _) = _
  rw [if_pos, sortD_N]
  refine ⟨?_, .inr ?_, ?_⟩
  · unfold alikes
    rw [List.all_map, List.all_eq_true]
    intro x _
    simp only [Function.comp]
    rw [List.all_map, List.all_eq_true]
    intro y _
    simp [PySem.W.alike, PySem.W.alikeAll, alike_ints]
  · rw [List.all_map, List.all_eq_true]
    intro x _
    rfl
  · rw [List.all_map, List.all_eq_true]
    intro x _
    exact (sh_eN x).shaped (by decide)
/-! ### a loop that hands back the first find -/
theorem forGo_find {α : Type} {T : PyData → Rho → Option Rho} {B : SF} (e : α → PyData) (g : α → Option PyData) (I : Rho → Prop) : ∀ (xs : List α) (ρ : Rho), I ρ → (∀ x ∈ xs, ∀ ρ, I ρ → ∃ ρ1, T (e x) ρ = some ρ1 ∧ (g x = none → ∃ ρ2, B ρ1 = some (.next, ρ2) ∧ I ρ2) ∧ ∀ d, g x = some d → ∃ ρ2, B ρ1 = some (.ret d, ρ2)) →
    (xs.findSome? g = none → ∃ ρ', forGo T B (xs.map e) ρ = some (.next, ρ') ∧ I ρ') ∧ ∀ d, xs.findSome? g = some d → ∃ ρ', forGo T B (xs.map e) ρ = some (.ret d, ρ')
  | [], ρ, h0, _ => ⟨fun _ => ⟨ρ, rfl, h0⟩, fun d hd => by simp at hd⟩
  | x :: xs, ρ, h0, h => by
    obtain ⟨ρ1, h1, h2, h3⟩ := h x List.mem_cons_self ρ h0
    rw [List.map_cons, forGo, h1]
    cases hg : g x with
    | none =>
      obtain ⟨ρ2, h4, h5⟩ := h2 hg
      obtain ⟨i1, i2⟩ := forGo_find e g I xs ρ2 h5 fun y hy => h y (List.mem_cons_of_mem _ hy)
      rw [List.findSome?_cons_of_isNone (by simp [hg])]
      simp only [Option.bind_some]
      rw [h4]
      exact ⟨i1, i2⟩
    | some d =>
      obtain ⟨ρ2, h4⟩ := h3 d hg
      rw [List.findSome?_cons_of_isSome (by simp [hg]), hg]
      simp only [Option.bind_some]
      rw [h4]
      exact ⟨(fun z => by cases z), fun d' hd => (by cases hd; exact ⟨ρ2, rfl⟩)⟩
end PM
end

section
set_option Elab.async false
set_option linter.all false
set_option maxRecDepth 100000
set_option maxHeartbeats 1000000
namespace K84
open PySem PySem.Spec PyProof.Rows PD PM
theorem is_whole_int (i : Int) : m_is_whole [.int i] = some (.bool true) := by
  simp [m_is_whole, runP, b_is_whole_, start0, isTy, noScr]
theorem is_many_int (i : Int) : m_is_many [.int i] = some (.bool (decide (1 ≤ i ∧ i ≤ 5))) := by
  simp [m_is_many, runP, b_is_many_, start0, is_whole_int]
  split <;> simp_all <;> omega
/-! ### typed -/
abbrev Part := List Int × List (List Int)
def eP (p : Part) : PyData := .tuple [eI p.1, eL p.2]
def eS (ps : List Part) : PyData := .list (ps.map eP)
/-- the letters at the things that others have -/
def cl (lot letters others : List Int) : List Int := ((lot.zip letters).filter fun p => decide (p.1 ∈ others)).map (·.2)
theorem zipD_map (xs ys : List Int) : zipD (xs.map PyData.int) (ys.map PyData.int) = (xs.zip ys).map fun p => .tuple [.int p.1, .int p.2] := by
  unfold zipD
  rw [List.zip_map]
  rw [List.map_map]
  rfl
theorem common_letters_ev (lot letters others : List Int) (h : lot.length = letters.length) : m_common_letters [eI lot, eI letters, eI others] = some (eI (cl lot letters others)) := by
  refine runQ (retQ ?_)
  refine eLC_map (fun p : Int × Int => .tuple [.int p.1, .int p.2]) (fun p => decide (p.1 ∈ others)) (fun p => .int p.2) (lot.zip letters) ?_ (fun x hx => ⟨_, rfl, ?_, fun _ => ?_⟩) (hz := ?_)
  · simp [iZipS, start0, h, zipD_map]
  · simp [start0, dIn_int]
  · simp [start0]
  · simp [cl, Function.comp_def]
/-! ### stays -/
/-- the rows of p that go with one of o's -/
def keepsW (p o : Part) (l : List Int) : Bool := decide (cl p.1 l o.1 ∈ o.2.map fun m => cl o.1 m p.1)
def stayW (p o : Part) : Part := (p.1, p.2.filter (keepsW p o))
/-- rows are as long as their lot -/
def Fit (p : Part) : Prop := ∀ l ∈ p.2, p.1.length = l.length
theorem stays_ev (p o : Part) (hp : Fit p) (ho : Fit o) : m_stays [eP p, eP o] = some (eL (stayW p o).2) := by
  refine runQ (seqQ (unp_of (v_of) rfl) ?_)
  refine seqQ (setD_of (d := eL (o.2.map fun m => cl o.1 m p.1)) ?_) (retQ ?_)
  · refine eLC_all eI (fun m => eI (cl o.1 m p.1)) o.2 ?_ (fun x hx => ⟨_, rfl, ?_⟩) (hz := ?_)
    · simp [iLst, start0, eP, dIx, L2.atI, L2.ixN]
    · simp [start0, eP, dIx, L2.atI, L2.ixN, common_letters_ev _ _ _ (ho x hx)]
    · simp [eL]
  · refine eLC_map eI (keepsW p o) eI p.2 ?_ (fun x hx => ⟨_, rfl, ?_, fun _ => ?_⟩) rfl
    · simp [iLst, start0, eP, dIx, L2.atI, L2.ixN]
    · simp [start0, eP, dIx, L2.atI, L2.ixN, common_letters_ev _ _ _ (hp x hx), dIn_eI, keepsW]
    · simp [start0, eP]
end K84
end

section
set_option Elab.async false
set_option linter.all false
set_option maxRecDepth 100000
set_option maxHeartbeats 1000000
namespace K84
open PySem PySem.Spec PyProof.Rows PD PM
/-! ### evened_by, typed -/
def passGo : List Part → List Part → List Part
  | done, [] => done
  | done, p :: rest => passGo (done ++ [(done ++ rest).foldl stayW p]) rest
def lens (ps : List Part) : List Int := ps.map fun p => (p.2.length : Int)
theorem stayW_lot (p o : Part) : (stayW p o).1 = p.1 := rfl
theorem stays_lot (os : List Part) : ∀ p : Part, (os.foldl stayW p).1 = p.1 := by
  induction os with
  | nil => intro p; rfl
  | cons o os ih => intro p; rw [List.foldl_cons, ih]; rfl
theorem stays_sub (os : List Part) : ∀ p : Part, List.Sublist (os.foldl stayW p).2 p.2 := by
  induction os with
  | nil => intro p; exact List.Sublist.refl _
  | cons o os ih => intro p; rw [List.foldl_cons]; exact (ih _).trans List.filter_sublist
theorem fit_sub {p : Part} {rows : List (List Int)} (h : Fit p) (s : ∀ l ∈ rows, l ∈ p.2) : Fit (p.1, rows) := fun l hl => h l (s l hl)
theorem fit_stays {p : Part} (os : List Part) (h : Fit p) : Fit (os.foldl stayW p) := fun l hl => by
  rw [stays_lot]
  exact h l ((stays_sub os p).subset hl)
/-- one row after another: sublists, the lots as they were -/
structure Under (qs ps : List Part) : Prop where
  len : qs.length = ps.length
  at_ : ∀ (i : Nat) (q p : Part), qs[i]? = some q → ps[i]? = some p → q.1 = p.1 ∧ List.Sublist q.2 p.2
theorem Under.refl (ps : List Part) : Under ps ps := ⟨rfl, fun i q p h1 h2 => by rw [h1] at h2; cases h2; exact ⟨rfl, List.Sublist.refl _⟩⟩
theorem Under.trans {a b c : List Part} (h : Under a b) (h' : Under b c) : Under a c := ⟨h.len.trans h'.len, fun i q p h1 h2 => by
  have hi : i < b.length := by rw [← h.len]; exact getElem_len h1
  obtain ⟨e1, s1⟩ := h.at_ i q b[i] h1 (List.getElem?_eq_getElem hi)
  obtain ⟨e2, s2⟩ := h'.at_ i b[i] p (List.getElem?_eq_getElem hi) h2
  exact ⟨e1.trans e2, s1.trans s2⟩⟩
theorem under_step (done rest : List Part) (p q : Part) (h1 : q.1 = p.1) (h2 : List.Sublist q.2 p.2) : Under (done ++ q :: rest) (done ++ p :: rest) := ⟨by simp, fun i x y e1 e2 => by
  by_cases hi : i < done.length
  · rw [List.getElem?_append_left hi] at e1 e2
    rw [e1] at e2; cases e2
    exact ⟨rfl, List.Sublist.refl _⟩
  · rw [List.getElem?_append_right (by omega)] at e1 e2
    cases k : i - done.length with
    | zero => rw [k] at e1 e2; simp at e1 e2; subst e1 e2; exact ⟨h1, h2⟩
    | succ k' => rw [k] at e1 e2; simp at e1 e2; rw [e1] at e2; cases e2; exact ⟨rfl, List.Sublist.refl _⟩⟩
theorem pass_under : ∀ (rest done : List Part), Under (passGo done rest) (done ++ rest)
  | [], done => by rw [passGo, List.append_nil]; exact Under.refl _
  | p :: rest, done => by
    rw [passGo]
    have h := pass_under rest (done ++ [(done ++ rest).foldl stayW p])
    rw [List.append_assoc] at h
    exact h.trans (under_step done rest p _ (stays_lot _ _) (stays_sub _ _))
/-- each row is kept by each other part -/
def Cons (ps : List Part) : Prop := ∀ (a : List Part) (p : Part) (b : List Part), ps = a ++ p :: b → ∀ o ∈ a ++ b, ∀ l ∈ p.2, keepsW p o l = true
theorem stays_all {os : List Part} : ∀ {p : Part}, (os.foldl stayW p).2.length = p.2.length → os.foldl stayW p = p ∧ ∀ o ∈ os, ∀ l ∈ p.2, keepsW p o l = true := by
  induction os with
  | nil => intro p _; exact ⟨rfl, fun o ho => by cases ho⟩
  | cons o os ih =>
    intro p h
    rw [List.foldl_cons] at h ⊢
    have s1 := stays_sub os (stayW p o)
    have s2 : List.Sublist (stayW p o).2 p.2 := List.filter_sublist
    have l1 := s1.length_le
    have l2 := s2.length_le
    have e : stayW p o = p := by
      have := s2.eq_of_length (by omega)
      exact Prod.ext rfl this
    rw [e] at h ⊢
    obtain ⟨i1, i2⟩ := ih h
    refine ⟨i1, fun o' ho' l hl => ?_⟩
    rcases List.mem_cons.mp ho' with rfl | ho'
    · have : p.2.filter (keepsW p o') = p.2 := by
        have := congrArg Prod.snd e
        exact this
      exact List.filter_eq_self.mp this l hl
    · exact i2 o' ho' l hl
theorem stays_cons {os : List Part} : ∀ {p : Part}, (∀ o ∈ os, ∀ l ∈ p.2, keepsW p o l = true) → os.foldl stayW p = p := by
  induction os with
  | nil => intro p _; rfl
  | cons o os ih =>
    intro p h
    have e : stayW p o = p := Prod.ext rfl (List.filter_eq_self.mpr fun l hl => h o List.mem_cons_self l hl)
    rw [List.foldl_cons, e]
    exact ih fun o' ho' => h o' (List.mem_cons_of_mem _ ho')
/-- as many rows as before: nothing has changed, all go with one another -/
theorem pass_same : ∀ (rest done : List Part), lens (passGo done rest) = lens (done ++ rest) → passGo done rest = done ++ rest ∧ ∀ (a : List Part) (p : Part) (b : List Part), rest = a ++ p :: b → ∀ o ∈ done ++ a ++ b, ∀ l ∈ p.2, keepsW p o l = true
  | [], done, _ => ⟨by rw [passGo, List.append_nil], fun a p b e => by simp at e⟩
  | p :: rest, done, h => by
    rw [passGo] at h ⊢
    have u := pass_under rest (done ++ [(done ++ rest).foldl stayW p])
    have e : (done ++ [(done ++ rest).foldl stayW p] ++ rest) = done ++ ((done ++ rest).foldl stayW p) :: rest := by simp
    rw [e] at u
    -- the place of p
    obtain ⟨z, ip⟩ : ∃ z, (passGo (done ++ [(done ++ rest).foldl stayW p]) rest)[done.length]? = some z := by
      have : done.length < (passGo (done ++ [(done ++ rest).foldl stayW p]) rest).length := by rw [u.len]; simp
      exact ⟨_, List.getElem?_eq_getElem this⟩
    obtain ⟨_, s⟩ := u.at_ done.length z ((done ++ rest).foldl stayW p) ip (by simp [-List.foldl_append])
    have le1 := s.length_le
    have le2 := (stays_sub (done ++ rest) p).length_le
    have hlen := congrArg (fun l : List Int => l[done.length]?) h
    simp only [lens, List.getElem?_map] at hlen
    rw [ip] at hlen
    have hlen2 : z.2.length = p.2.length := by
      simp at hlen
      omega
    have eq1 : ((done ++ rest).foldl stayW p).2.length = p.2.length := by omega
    obtain ⟨e1, e2⟩ := stays_all eq1
    rw [e1] at h ⊢
    obtain ⟨i1, i2⟩ := pass_same rest (done ++ [p]) (by rw [h]; simp)
    refine ⟨by rw [i1]; simp, fun a q b hab o ho l hl => ?_⟩
    cases a with
    | nil =>
      simp at hab
      obtain ⟨rfl, rfl⟩ := hab
      exact e2 o (by simpa using ho) l hl
    | cons a0 a =>
      simp at hab
      obtain ⟨rfl, rfl⟩ := hab
      exact i2 a q b rfl o (by simpa using ho) l hl
theorem pass_same' {ps : List Part} (h : lens (passGo [] ps) = lens ps) : passGo [] ps = ps ∧ Cons ps := by
  obtain ⟨h1, h2⟩ := pass_same ps [] (by simpa using h)
  exact ⟨by simpa using h1, fun a p b e o ho l hl => h2 a p b e o (by simpa using ho) l hl⟩
theorem pass_cons : ∀ (rest done : List Part), (∀ (a : List Part) (p : Part) (b : List Part), rest = a ++ p :: b → ∀ o ∈ done ++ a ++ b, ∀ l ∈ p.2, keepsW p o l = true) → passGo done rest = done ++ rest
  | [], done, _ => by rw [passGo, List.append_nil]
  | p :: rest, done, h => by
    rw [passGo, stays_cons fun o ho l hl => h [] p rest rfl o (by simpa using ho) l hl, pass_cons rest (done ++ [p]) fun a q b e o ho l hl => h (p :: a) q b (by rw [e]; rfl) o (by simpa using ho) l hl]
    simp
theorem pass_cons' {ps : List Part} (h : Cons ps) : passGo [] ps = ps := pass_cons ps [] fun a p b e o ho l hl => h a p b e o (by simpa using ho) l hl
/-! a family of rows that go with one another stays -/
def Sup (lots : List (List Int)) (G : Nat → List Int → Prop) : Prop := ∀ (i j : Nat) (li lj : List Int), i ≠ j → lots[i]? = some li → lots[j]? = some lj → ∀ l, G i l → ∃ m, G j m ∧ cl li l lj = cl lj m li
def In (G : Nat → List Int → Prop) (ps : List Part) : Prop := ∀ (i : Nat) (p : Part), ps[i]? = some p → ∀ l, G i l → l ∈ p.2
theorem mem_stays {os : List Part} : ∀ {p : Part} {l : List Int}, l ∈ p.2 → (∀ o ∈ os, ∀ q : Part, q.1 = p.1 → keepsW q o l = true) → l ∈ (os.foldl stayW p).2 := by
  induction os with
  | nil => intro p l h _; exact h
  | cons o os ih =>
    intro p l h hk
    rw [List.foldl_cons]
    exact ih (List.mem_filter.mpr ⟨h, hk o List.mem_cons_self p rfl⟩) fun o' ho' q hq => hk o' (List.mem_cons_of_mem _ ho') q hq
theorem pass_in {lots : List (List Int)} {G : Nat → List Int → Prop} (hs : Sup lots G) : ∀ (rest done : List Part), (done ++ rest).map (·.1) = lots → In G (done ++ rest) → In G (passGo done rest)
  | [], done, _, h => by rw [passGo]; rwa [List.append_nil] at h
  | p :: rest, done, hl, h => by
    rw [passGo]
    have lotAt : ∀ (i : Nat) (q : Part), (done ++ p :: rest)[i]? = some q → lots[i]? = some q.1 := fun i q e => by rw [← hl, List.getElem?_map, e]; rfl
    have hp : (done ++ p :: rest)[done.length]? = some p := by simp
    refine pass_in hs rest _ (by rw [← hl]; simp [stays_lot, -List.foldl_append]) fun i q e l hG => ?_
    rw [List.append_assoc] at e
    by_cases hi : i < done.length
    · rw [List.getElem?_append_left hi] at e
      exact h i q (by rw [List.getElem?_append_left hi]; exact e) l hG
    · rw [List.getElem?_append_right (by omega)] at e
      cases k : i - done.length with
      | zero =>
        rw [k] at e
        simp [-List.foldl_append] at e
        subst e
        have ei : i = done.length := by omega
        subst ei
        refine mem_stays (h _ p hp l hG) fun o ho q hq => ?_
        -- the place of o
        obtain ⟨j, hj, ej⟩ : ∃ j, j ≠ done.length ∧ (done ++ p :: rest)[j]? = some o := by
          rcases List.mem_append.mp ho with ho | ho
          · obtain ⟨j, hj⟩ := List.getElem?_of_mem ho
            have := getElem_len hj
            exact ⟨j, by omega, by rw [List.getElem?_append_left this]; exact hj⟩
          · obtain ⟨j, hj⟩ := List.getElem?_of_mem ho
            refine ⟨done.length + 1 + j, by omega, ?_⟩
            rw [List.getElem?_append_right (by omega)]
            have : done.length + 1 + j - done.length = j + 1 := by omega
            rw [this]
            simpa using hj
        obtain ⟨m, hm, em⟩ := hs done.length j p.1 o.1 (Ne.symm hj) (lotAt _ _ hp) (lotAt _ _ ej) l hG
        unfold keepsW
        rw [hq, decide_eq_true_eq, List.mem_map]
        exact ⟨m, h j o ej m hm, em.symm⟩
      | succ k' =>
        rw [k] at e
        simp [-List.foldl_append] at e
        refine h i q ?_ l hG
        rw [List.getElem?_append_right (by omega), k]
        simpa using e
/-! ### evened_by: the mirror -/
def tot (ps : List Part) : Nat := (ps.map fun p => p.2.length).sum
def FitAll (ps : List Part) : Prop := ∀ p ∈ ps, Fit p
theorem enumD_parts (ps : List Part) : enumD (ps.map eP) = ps.zipIdx.map fun q => .tuple [.int (q.2 : Nat), eP q.1] := by
  unfold enumD
  rw [List.zipIdx_map, List.map_map]
  rfl
theorem zipIdx_at {α : Type} {xs : List α} {d1 d2 : List (α × Nat)} {x : α × Nat} (h : xs.zipIdx = d1 ++ x :: d2) : x.2 = d1.length ∧ xs[d1.length]? = some x.1 := by
  have e : xs.zipIdx[d1.length]? = some x := by rw [h]; simp
  rw [List.getElem?_zipIdx] at e
  obtain ⟨y, h1, h2⟩ := Option.map_eq_some_iff.mp e
  rw [← h2]
  simp [h1]
theorem fit_under {qs ps : List Part} (u : Under qs ps) (h : FitAll ps) : FitAll qs := fun q hq => by
  obtain ⟨i, hi⟩ := List.getElem?_of_mem hq
  have hi2 : i < ps.length := by rw [← u.len]; exact getElem_len hi
  obtain ⟨e1, s1⟩ := u.at_ i q ps[i] hi (List.getElem?_eq_getElem hi2)
  intro l hl
  rw [e1]
  exact h ps[i] (List.getElem_mem hi2) l (s1.subset hl)
theorem under_tot : ∀ {qs ps : List Part}, Under qs ps → tot qs ≤ tot ps
  | [], [], _ => Nat.le_refl _
  | [], p :: ps, h => by have := h.len; simp at this
  | q :: qs, [], h => by have := h.len; simp at this
  | q :: qs, p :: ps, h => by
    have h0 := (h.at_ 0 q p rfl rfl).2.length_le
    have ih := under_tot (qs := qs) (ps := ps) ⟨by have := h.len; simpa using this, fun i a b e1 e2 => h.at_ (i + 1) a b (by simpa using e1) (by simpa using e2)⟩
    simp [tot] at ih ⊢
    omega
theorem under_lens : ∀ {qs ps : List Part}, Under qs ps → tot qs = tot ps → lens qs = lens ps
  | [], [], _, _ => rfl
  | [], p :: ps, h, _ => by have := h.len; simp at this
  | q :: qs, [], h, _ => by have := h.len; simp at this
  | q :: qs, p :: ps, h, ht => by
    have h0 := (h.at_ 0 q p rfl rfl).2.length_le
    have u : Under qs ps := ⟨by have := h.len; simpa using this, fun i a b e1 e2 => h.at_ (i + 1) a b (by simpa using e1) (by simpa using e2)⟩
    have t1 := under_tot u
    have : tot qs = tot ps ∧ q.2.length = p.2.length := by
      simp [tot] at ht t1 ⊢
      omega
    have ih := under_lens u this.1
    simp [lens] at ih ⊢
    exact ⟨by omega, ih⟩
theorem inner_ev (P : PyData) (cur : List Part) (L : PyData) (at_ : Nat) (p : Part) (a6 a7 a8 a9 : Ent) (hat : at_ < cur.length) (hl : cur.length ≤ lim) (hp : Fit p) (hf : FitAll cur) :
    NextQ (sFor (mI (iLst (eBin dAdd (eOwnCut 1 oN (oS (eVar 3))) (eOwnCut 1 (oS (eBin dAdd (eVar 3) (eC (.int 1)))) oN)))) (tgN 6) (sSet 5 (mD (eFn 2 m_stays (aCons (eTup (aCons (eBin dIx (eVar 4) (eC (.int 0))) (aCons (eVar 5) aNil))) (aCons (eVar 6) aNil))))))
      [.dat P, .own false (cur.map eP), .dat L, .dat (.int at_), .dat (eP p), .dat (eL p.2), a6, a7, a8, a9]
      fun ρ => ∃ b6, ρ = [.dat P, .own false (cur.map eP), .dat L, .dat (.int at_), .dat (eP p), .dat (eL (((cur.take at_ ++ cur.drop (at_ + 1))).foldl stayW p).2), b6, a7, a8, a9] := by
  have e1 : ((at_ : Int) + 1) = ((at_ + 1 : Nat) : Int) := by omega
  refine forN eP (cur.take at_ ++ cur.drop (at_ + 1)) (fun d1 ρ => ∃ b6, ρ = [.dat P, .own false (cur.map eP), .dat L, .dat (.int at_), .dat (eP p), .dat (eL (d1.foldl stayW p).2), b6, a7, a8, a9]) (ρ1 := [.dat P, .own false (cur.map eP), .dat L, .dat (.int at_), .dat (eP p), .dat (eL p.2), a6, a7, a8, a9]) ?_ ⟨a6, rfl⟩ ?_ (fun ρ h => h)
  · refine mI_of (iLst_of ?_)
    simp [eOwnCut, oN, oS, ownAt, e1, cut_take, cut_drop, -Int.natCast_add]
    unfold dAdd
    simp
    omega
  · rintro d1 o d2 ρ hd ⟨b6, rfl⟩
    refine ⟨_, rfl, nextQ (setD_of (d := eL ((d1 ++ [o]).foldl stayW p).2) ?_) ⟨_, by simp; rfl⟩⟩
    have ho : o ∈ cur := by
      have : o ∈ cur.take at_ ++ cur.drop (at_ + 1) := by rw [hd]; simp
      rcases List.mem_append.mp this with h | h
      · exact List.mem_of_mem_take h
      · exact List.mem_of_mem_drop h
    have fs := stays_ev (d1.foldl stayW p) o (fit_stays d1 hp) (hf o ho)
    have l2 : (2 : Nat) ≤ lim := by decide
    have ep : eP (d1.foldl stayW p) = .tuple [eI p.1, eL (d1.foldl stayW p).2] := by unfold eP; rw [stays_lot]
    rw [ep] at fs
    simp [eP, dIx, L2.atI, L2.ixN, l2] at fs ⊢
    rw [fs]
theorem pass_len (done rest : List Part) : (passGo done rest).length = done.length + rest.length := by rw [(pass_under rest done).len, List.length_append]
theorem lens_ev (P : PyData) (cur : List Part) (a2 a3 a4 a5 a6 a7 a8 a9 : Ent) : eLC (iOwn 1) (tgT [9, 5]) bYes (eCall dLen (aCons (eVar 5) aNil)) [9, 5] [.dat P, .own false (cur.map eP), a2, a3, a4, a5, a6, a7, a8, a9] = some (eI (lens cur)) := by
  refine eLC_all eP (fun p => .int p.2.length) cur rfl (fun x hx => ⟨_, rfl, ?_⟩) (hz := ?_)
  · simp [eCall]
  · simp [lens]
theorem evened_by_ev (ps : List Part) (hl : ps.length ≤ lim) (hf : FitAll ps) (ht : tot ps < 90000) : ∃ res, m_evened_by [eS ps] = some (eS res) ∧ Under res ps ∧ Cons res ∧ (Cons ps → res = ps) ∧ ∀ lots G, lots = ps.map (·.1) → Sup lots G → In G ps → In G res := by
  have l2 : (2 : Nat) ≤ lim := by decide
  have key : ∃ o ρ', sWhile (bOf (eC (.bool true))) (sSeq
      (sSet 2 (mD (eLC (iOwn 1) (tgT [9, 5]) bYes (eCall dLen (aCons (eVar 5) aNil)) [9, 5])))
      (sSeq
      (sFor (mI (iEnumD (ePeek 1))) (tgT [3, 4]) (sSeq
      (sSet 5 (mD (eBin dIx (eVar 4) (eC (.int 1)))))
      (sSeq
      (sFor (mI (iLst (eBin dAdd (eOwnCut 1 oN (oS (eVar 3))) (eOwnCut 1 (oS (eBin dAdd (eVar 3) (eC (.int 1)))) oN)))) (tgN 6) (sSet 5 (mD (eFn 2 m_stays (aCons (eTup (aCons (eBin dIx (eVar 4) (eC (.int 0))) (aCons (eVar 5) aNil))) (aCons (eVar 6) aNil))))))
      (sPut 1 (eVar 3) (mD (eTup (aCons (eBin dIx (eVar 4) (eC (.int 0))) (aCons (eVar 5) aNil))))))))
      (sIf (bOf (eBin dEq (eLC (iOwn 1) (tgT [9, 5]) bYes (eCall dLen (aCons (eVar 5) aNil)) [9, 5]) (eVar 2))) (sRetOwn 1) sNext))) 100000 [.dat (eS ps), .own false (ps.map eP), .unk, .unk, .unk, .unk, .unk, .unk, .unk, .unk] = some (o, ρ') ∧
      ∃ res, o = .ret (eS res) ∧ Under res ps ∧ Cons res ∧ (Cons ps → res = ps) ∧ ∀ lots G, lots = ps.map (·.1) → Sup lots G → In G ps → In G res := by
    refine while_inv (P := fun o _ => ∃ res, o = .ret (eS res) ∧ Under res ps ∧ Cons res ∧ (Cons ps → res = ps) ∧ ∀ lots G, lots = ps.map (·.1) → Sup lots G → In G ps → In G res)
      (fun m ρ => ∃ cur a2 a3 a4 a5 a6 a7 a8 a9, ρ = [.dat (eS ps), .own false (cur.map eP), a2, a3, a4, a5, a6, a7, a8, a9] ∧ m = tot cur ∧ Under cur ps ∧ (Cons ps → cur = ps) ∧ ∀ lots G, lots = ps.map (·.1) → Sup lots G → In G ps → In G cur) ?_ 100000 (tot ps) _ (by omega)
      ⟨ps, .unk, .unk, .unk, .unk, .unk, .unk, .unk, .unk, rfl, rfl, Under.refl ps, fun _ => rfl, fun _ _ _ _ h => h⟩
    rintro m ρ ⟨cur, a2, a3, a4, a5, a6, a7, a8, a9, rfl, rfl, u, hc, hG⟩
    refine ⟨rfl, ?_⟩
    have hcl : cur.length ≤ lim := by rw [u.len]; exact hl
    have fc : FitAll cur := fit_under u hf
    -- one pass
    have loop : NextQ (sFor (mI (iEnumD (ePeek 1))) (tgT [3, 4]) (sSeq
      (sSet 5 (mD (eBin dIx (eVar 4) (eC (.int 1)))))
      (sSeq
      (sFor (mI (iLst (eBin dAdd (eOwnCut 1 oN (oS (eVar 3))) (eOwnCut 1 (oS (eBin dAdd (eVar 3) (eC (.int 1)))) oN)))) (tgN 6) (sSet 5 (mD (eFn 2 m_stays (aCons (eTup (aCons (eBin dIx (eVar 4) (eC (.int 0))) (aCons (eVar 5) aNil))) (aCons (eVar 6) aNil))))))
      (sPut 1 (eVar 3) (mD (eTup (aCons (eBin dIx (eVar 4) (eC (.int 0))) (aCons (eVar 5) aNil)))))))) [.dat (eS ps), .own false (cur.map eP), .dat (eI (lens cur)), a3, a4, a5, a6, a7, a8, a9]
      (fun ρ => ∃ b3 b4 b5 b6, ρ = [.dat (eS ps), .own false ((passGo [] cur).map eP), .dat (eI (lens cur)), b3, b4, b5, b6, a7, a8, a9]) := by
      refine forN (fun q : Part × Nat => .tuple [.int (q.2 : Nat), eP q.1]) cur.zipIdx (fun d1 ρ => ∃ done b3 b4 b5 b6, done.length = d1.length ∧ passGo done (cur.drop d1.length) = passGo [] cur ∧ FitAll done ∧ ρ = [.dat (eS ps), .own false ((done ++ cur.drop d1.length).map eP), .dat (eI (lens cur)), b3, b4, b5, b6, a7, a8, a9])
        (ρ1 := [.dat (eS ps), .own false (cur.map eP), .dat (eI (lens cur)), a3, a4, a5, a6, a7, a8, a9]) ?_ ⟨[], a3, a4, a5, a6, rfl, rfl, (fun p hp => nomatch hp), rfl⟩ ?_ ?_
      · refine mI_of ?_
        rw [← enumD_parts]
        rfl
      · rintro d1 x d2 ρ hd ⟨done, b3, b4, b5, b6, hlen, hpass, hfd, rfl⟩
        obtain ⟨x2, hx⟩ := zipIdx_at hd
        have dr := drop_get hx
        refine ⟨_, rfl, ?_⟩
        have hlt : d1.length < cur.length := getElem_len hx
        have hxm : x.1 ∈ cur := List.mem_of_getElem? hx
        have hcl2 : (done ++ cur.drop d1.length).length ≤ lim := by simp; omega
        have fit2 : FitAll (done ++ cur.drop d1.length) := fun q hq => by
          rcases List.mem_append.mp hq with h | h
          · exact hfd q h
          · exact fc q (List.mem_of_mem_drop h)
        have inn := inner_ev (eS ps) (done ++ cur.drop d1.length) (eI (lens cur)) d1.length x.1 b6 a7 a8 a9 (by simp; omega) hcl2 (fc x.1 hxm) fit2
        have split : (done ++ cur.drop d1.length).take d1.length ++ (done ++ cur.drop d1.length).drop (d1.length + 1) = done ++ cur.drop (d1.length + 1) := by
          rw [← hlen, List.take_left, hlen, dr]
          rw [List.drop_append, List.drop_of_length_le (by omega)]
          have : d1.length + 1 - done.length = 1 := by omega
          rw [this]
          rfl
        rw [split] at inn
        refine seqN (setD_of (d := eL x.1.2) (by simp [x2, eP, dIx, L2.atI, L2.ixN])) ?_
        simp only [x2]
        refine seqNI inn ?_
        rintro ρ2 ⟨c6, rfl⟩
        refine nextQ (put_of (d := eP ((done ++ cur.drop (d1.length + 1)).foldl stayW x.1)) (t := false) (ds := (done ++ cur.drop d1.length).map eP) (k := (d1.length : Nat)) (j := d1.length) ?_ rfl rfl (ixN_nat (by simp; omega))) ?_
        · have ep : eP ((done ++ cur.drop (d1.length + 1)).foldl stayW x.1) = .tuple [eI x.1.1, eL ((done ++ cur.drop (d1.length + 1)).foldl stayW x.1).2] := by unfold eP; rw [stays_lot]
          rw [ep]
          simp [eP, dIx, L2.atI, L2.ixN, l2, -List.foldl_append]
        · refine ⟨done ++ [(done ++ cur.drop (d1.length + 1)).foldl stayW x.1], .dat (.int (d1.length : Nat)), .dat (eP x.1), .dat (eL ((done ++ cur.drop (d1.length + 1)).foldl stayW x.1).2), c6, by simp [hlen], ?_, ?_, ?_⟩
          · rw [← hpass, dr, List.length_append]
            rfl
          · intro q hq
            rcases List.mem_append.mp hq with h | h
            · exact hfd q h
            · rw [List.mem_singleton.mp h]
              exact fit_stays _ (fc x.1 hxm)
          · rw [List.length_append, dr, ← hlen]
            simp [-List.foldl_append]
      · rintro ρ ⟨done, b3, b4, b5, b6, hlen, hpass, _, rfl⟩
        refine ⟨b3, b4, b5, b6, ?_⟩
        have e0 : cur.drop cur.zipIdx.length = [] := by rw [List.length_zipIdx, List.drop_length]
        rw [e0] at hpass ⊢
        rw [passGo] at hpass
        rw [← hpass, List.append_nil]
    obtain ⟨ρ1, hr, b3, b4, b5, b6, rfl⟩ := loop
    have un : Under (passGo [] cur) cur := pass_under cur []
    have first : sSet 2 (mD (eLC (iOwn 1) (tgT [9, 5]) bYes (eCall dLen (aCons (eVar 5) aNil)) [9, 5])) [.dat (eS ps), .own false (cur.map eP), a2, a3, a4, a5, a6, a7, a8, a9] = some (.next, [.dat (eS ps), .own false (cur.map eP), .dat (eI (lens cur)), a3, a4, a5, a6, a7, a8, a9]) := setD_of (lens_ev _ _ _ _ _ _ _ _ _ _)
    have test : bOf (eBin dEq (eLC (iOwn 1) (tgT [9, 5]) bYes (eCall dLen (aCons (eVar 5) aNil)) [9, 5]) (eVar 2)) [.dat (eS ps), .own false ((passGo [] cur).map eP), .dat (eI (lens cur)), b3, b4, b5, b6, a7, a8, a9] = some (decide (lens (passGo [] cur) = lens cur)) := b_of (bin_of (lens_ev _ _ _ _ _ _ _ _ _ _) v_of (dEq_eI _ _))
    by_cases hsame : lens (passGo [] cur) = lens cur
    · obtain ⟨p1, p2⟩ := pass_same' hsame
      have ro : sRetOwn 1 [.dat (eS ps), .own false ((passGo [] cur).map eP), .dat (eI (lens cur)), b3, b4, b5, b6, a7, a8, a9] = some (.ret (eS (passGo [] cur)), [.dat (eS ps), .dat (eS (passGo [] cur)), .dat (eI (lens cur)), b3, b4, b5, b6, a7, a8, a9]) := rfl
      exact .inr (.inr ⟨_, _, seq_of first (seq_of hr (if_t (test.trans (by rw [decide_eq_true hsame])) ro)), cur, by rw [p1], u, p2, hc, hG⟩)
    · refine .inl ⟨_, tot (passGo [] cur), ?_, .inl (seq_of first (seq_of hr (if_f (test.trans (by rw [decide_eq_false hsame])) rfl))), passGo [] cur, _, _, _, _, _, _, _, _, rfl, rfl, un.trans u, fun hcp => ?_, fun lots G e1 e2 e3 => ?_⟩
      · have h1 := under_tot un
        have h2 : tot (passGo [] cur) ≠ tot cur := fun z => hsame (under_lens un z)
        omega
      · have e1 := hc hcp
        rw [e1, pass_cons' hcp]
      · refine pass_in e2 cur [] ?_ (hG lots G e1 e2 e3)
        rw [List.nil_append, e1]
        apply List.ext_getElem?
        intro i
        rw [List.getElem?_map, List.getElem?_map]
        cases q : cur[i]? with
        | none =>
          have : ps[i]? = none := by
            rw [List.getElem?_eq_none_iff] at q ⊢
            rw [← u.len]; exact q
          rw [this]
        | some c =>
          have hi : i < ps.length := by rw [← u.len]; exact getElem_len q
          rw [List.getElem?_eq_getElem hi]
          exact congrArg some (u.at_ i c ps[i] q (List.getElem?_eq_getElem hi)).1
  obtain ⟨o, ρ', hw, res, rfl, h1, h2, h3, h4⟩ := key
  refine ⟨res, ?_, h1, h2, h3, h4⟩
  refine runQ (seqQ (setN_of (en := .own false (ps.map eP)) ?_) ⟨ρ', hw⟩)
  unfold nOwn
  rw [eLC_all eP eP ps rfl (fun x hx => ⟨_, rfl, ?_⟩) rfl]
  · rfl
  · rw [eTup_ev, aCons_ev, aCons_ev]
    have e2 : eLC (iLst (eVar 5)) (tgN 8) bYes (eCall dList (aCons (eVar 8) aNil)) [8] ((((wipeR (start0 N_evened_by.length [eS ps]) [7, 5]).set 7 (.dat (eI x.1))).set 5 (.dat (eL x.2)))) = some (eL x.2) := by
      refine eLC_all eI eI x.2 rfl (fun y hy => ⟨_, rfl, ?_⟩) rfl
      simp [start0, dList, eCall]
    simp [start0, dList, eCall, l2] at e2 ⊢
    rw [e2]
    rfl
end K84
end

section
set_option Elab.async false
set_option linter.all false
set_option maxRecDepth 100000
set_option maxHeartbeats 1000000
namespace K84
open PySem PySem.Spec PyProof.Rows PD PM
/-! ### put_in -/
abbrev Row := List (Option Int)
def eo : Option Int → PyData
  | none => .none
  | some i => .int i
abbrev eO (r : Row) : PyData := .list (r.map eo)
def putGo : Row → List (Int × Int) → Option Row
  | r, [] => some r
  | r, (t, x) :: rest => match r[t.toNat]? with
    | some (some y) => if y = x then putGo (r.set t.toNat (some x)) rest else none
    | _ => putGo (r.set t.toNat (some x)) rest
theorem eo_set (r : Row) (j : Nat) (x : Int) : (r.map eo).set j (.int x) = (r.set j (some x)).map eo := by
  rw [List.map_set]
  rfl
theorem atI_in {α : Type} {xs : List α} {t : Int} {x : α} (h0 : 0 ≤ t) (h : xs[t.toNat]? = some x) : L2.atI xs t = some x := by
  have hl := getElem_len h
  unfold L2.atI L2.ixN
  rw [if_pos h0, if_pos (by omega)]
  exact h
theorem ixN_in {n : Nat} {t : Int} (h0 : 0 ≤ t) (h : t < n) : L2.ixN n t = some t.toNat := by
  unfold L2.ixN
  rw [if_pos h0, if_pos h]
theorem eOwnIx_of {i : Nat} {F : Rho → Option PyData} {ρ : Rho} {t : Bool} {ds : List PyData} {k : Int} {d : PyData} (hF : F ρ = some (.int k)) (ho : ρ[i]? = some (.own t ds)) (hk : L2.atI ds k = some d) : eOwnIx i F ρ = some d := by
  unfold eOwnIx
  rw [hF]
  show ((ownAt i ρ).bind fun ds => L2.atI ds k) = _
  unfold ownAt
  rw [ho]
  exact hk
theorem sh_eo (x : Option Int) : Sh 0 (eo x) := by cases x; exact sh_non; exact sh_int _
def clash : Option Int → Int → Bool
  | none, _ => false
  | some y, x => !decide (y = x)
/-- the loop of put_in, from any place -/
theorem put_loop (row : Row) (lot letters : List Int) : ∀ (zs : List (Int × Int)) (r : Row) (a4 a5 : Ent), (∀ z ∈ zs, 0 ≤ z.1 ∧ z.1 < r.length) →
    match putGo r zs with
    | some r' => ∃ b4 b5, forGo (tgT [4, 5]) (sSeq
        (sIf (bAnd (bOf (eBin dNotN (eOwnIx 3 (eVar 4)) (eC .none))) (bOf (eBin dNe (eOwnIx 3 (eVar 4)) (eVar 5)))) (sRet (eC .none)) sNext)
        (sPut 3 (eVar 4) (mD (eVar 5)))) (zs.map fun z => .tuple [.int z.1, .int z.2]) [.dat (eO row), .dat (eI lot), .dat (eI letters), .own false (r.map eo), a4, a5] = some (.next, [.dat (eO row), .dat (eI lot), .dat (eI letters), .own false (r'.map eo), b4, b5])
    | none => ∃ ρ', forGo (tgT [4, 5]) (sSeq
        (sIf (bAnd (bOf (eBin dNotN (eOwnIx 3 (eVar 4)) (eC .none))) (bOf (eBin dNe (eOwnIx 3 (eVar 4)) (eVar 5)))) (sRet (eC .none)) sNext)
        (sPut 3 (eVar 4) (mD (eVar 5)))) (zs.map fun z => .tuple [.int z.1, .int z.2]) [.dat (eO row), .dat (eI lot), .dat (eI letters), .own false (r.map eo), a4, a5] = some (.ret .none, ρ')
  | [], r, a4, a5, _ => ⟨a4, a5, rfl⟩
  | (t, x) :: zs, r, a4, a5, h => by
    obtain ⟨h0, h1⟩ := h (t, x) List.mem_cons_self
    simp only at h0 h1
    have hlt : t.toNat < r.length := by omega
    obtain ⟨y, hy⟩ : ∃ y, r[t.toNat]? = some y := ⟨_, List.getElem?_eq_getElem hlt⟩
    have hat : L2.atI (r.map eo) t = some (eo y) := atI_in h0 (by rw [List.getElem?_map, hy]; rfl)
    have own : eOwnIx 3 (eVar 4) [.dat (eO row), .dat (eI lot), .dat (eI letters), .own false (r.map eo), .dat (.int t), .dat (.int x)] = some (eo y) := eOwnIx_of v_of rfl hat
    have test : bAnd (bOf (eBin dNotN (eOwnIx 3 (eVar 4)) (eC .none))) (bOf (eBin dNe (eOwnIx 3 (eVar 4)) (eVar 5))) [.dat (eO row), .dat (eI lot), .dat (eI letters), .own false (r.map eo), .dat (.int t), .dat (.int x)] = some (clash y x) := by
      rw [bAnd_ev, bOf_ev, bOf_ev, eBin_ev, eBin_ev, own]
      cases y with
      | none => rfl
      | some y => simp [eo, dNotN, isNoneD, clash]
    have put : sPut 3 (eVar 4) (mD (eVar 5)) [.dat (eO row), .dat (eI lot), .dat (eI letters), .own false (r.map eo), .dat (.int t), .dat (.int x)] = some (.next, [.dat (eO row), .dat (eI lot), .dat (eI letters), .own false ((r.set t.toNat (some x)).map eo), .dat (.int t), .dat (.int x)]) := by
      refine (put_of (d := .int x) (t := false) (ds := r.map eo) (k := t) (j := t.toNat) v_of rfl v_of (ixN_in h0 (by rw [List.length_map]; exact h1))).trans ?_
      rw [eo_set]
      rfl
    have ih := put_loop row lot letters zs (r.set t.toNat (some x)) (.dat (.int t)) (.dat (.int x)) fun z hz => by
      rw [List.length_set]
      exact h z (List.mem_cons_of_mem _ hz)
    have go : ∀ (B : SF) ρ1 o ρ2, B ρ1 = some (o, ρ2) → tgT [4, 5] (.tuple [.int t, .int x]) [.dat (eO row), .dat (eI lot), .dat (eI letters), .own false (r.map eo), a4, a5] = some ρ1 → forGo (tgT [4, 5]) B (((t, x) :: zs).map fun z => .tuple [.int z.1, .int z.2]) [.dat (eO row), .dat (eI lot), .dat (eI letters), .own false (r.map eo), a4, a5] = match o with
        | .next => forGo (tgT [4, 5]) B (zs.map fun z => .tuple [.int z.1, .int z.2]) ρ2
        | .cont => forGo (tgT [4, 5]) B (zs.map fun z => .tuple [.int z.1, .int z.2]) ρ2
        | .brk => some (.next, ρ2)
        | .ret d => some (.ret d, ρ2) := fun B ρ1 o ρ2 e1 e2 => by
      rw [List.map_cons, forGo, e2]
      show ((B ρ1).bind _) = _
      rw [e1]
      cases o <;> rfl
    unfold putGo
    rw [hy]
    cases y with
    | none =>
      have step := seq_of (if_f (B := sRet (eC .none)) (D := sNext) test rfl) put
      simp only
      split at ih
      · rename_i r' e
        obtain ⟨b4, b5, ih⟩ := ih
        exact ⟨b4, b5, (go _ _ _ _ step rfl).trans ih⟩
      · rename_i e
        obtain ⟨ρ', ih⟩ := ih
        exact ⟨ρ', (go _ _ _ _ step rfl).trans ih⟩
    | some y =>
      by_cases hyx : y = x
      · have ct : clash (some y) x = false := by simp [clash, hyx]
        rw [ct] at test
        have step := seq_of (if_f (B := sRet (eC .none)) (D := sNext) test rfl) put
        simp only
        rw [if_pos hyx]
        split at ih
        · rename_i r' e
          obtain ⟨b4, b5, ih⟩ := ih
          exact ⟨b4, b5, (go _ _ _ _ step rfl).trans ih⟩
        · rename_i e
          obtain ⟨ρ', ih⟩ := ih
          exact ⟨ρ', (go _ _ _ _ step rfl).trans ih⟩
      · have ct : clash (some y) x = true := by simp [clash, hyx]
        rw [ct] at test
        have step := seq_ret (C := sPut 3 (eVar 4) (mD (eVar 5))) (if_t (D := sNext) test (ret_of (F := eC .none) rfl))
        simp only
        rw [if_neg hyx]
        exact ⟨_, go _ _ _ _ step rfl⟩
def eR? : Option Row → PyData
  | some r => eO r
  | none => .none
theorem put_in_ev (row : Row) (lot letters : List Int) (hl : lot.length = letters.length) (hr : ∀ t ∈ lot, 0 ≤ t ∧ t < row.length) : m_put_in [eO row, eI lot, eI letters] = some (eR? (putGo row (lot.zip letters))) := by
  have lp := put_loop row lot letters (lot.zip letters) row .unk .unk fun z hz => hr z.1 (List.of_mem_zip hz).1
  have first : sSet 3 (mN (nOwn (eCall dList (aCons (eVar 0) aNil)))) (start0 N_put_in.length [eO row, eI lot, eI letters]) = some (.next, [.dat (eO row), .dat (eI lot), .dat (eI letters), .own false (row.map eo), .unk, .unk]) := rfl
  have src : mI (iZipS (eVar 1) (eVar 2)) [.dat (eO row), .dat (eI lot), .dat (eI letters), .own false (row.map eo), .unk, .unk] = some ((lot.zip letters).map fun z => .tuple [.int z.1, .int z.2], [.dat (eO row), .dat (eI lot), .dat (eI letters), .own false (row.map eo), .unk, .unk]) := by
    refine mI_of ?_
    simp [iZipS, hl, zipD_map]
  split at lp
  · rename_i r' e
    obtain ⟨b4, b5, lp⟩ := lp
    rw [e]
    exact runQ (seqQ first (seqQ (for_of src lp) (retOwnQ (t := false) rfl)))
  · rename_i e
    obtain ⟨ρ', lp⟩ := lp
    rw [e]
    exact runQ (seqQ first (seqQ_ret ⟨_, for_of src lp⟩))
end K84
end

section
set_option Elab.async false
set_option linter.all false
set_option maxRecDepth 100000
set_option maxHeartbeats 1000000
namespace K84
open PySem PySem.Spec PyProof.Rows PD PM
/-! ### joined rows, typed -/
theorem putGo_iff : ∀ (zs : List (Int × Int)) (r r' : Row), (∀ z ∈ zs, z.1.toNat < r.length) → (zs.map fun z => z.1.toNat).Nodup →
    (putGo r zs = some r' ↔ r'.length = r.length ∧ (∀ z ∈ zs, (r[z.1.toNat]? = some none ∨ r[z.1.toNat]? = some (some z.2)) ∧ r'[z.1.toNat]? = some (some z.2)) ∧ ∀ j, (∀ z ∈ zs, z.1.toNat ≠ j) → r'[j]? = r[j]?)
  | [], r, r', _, _ => by
    unfold putGo
    constructor
    · intro h
      cases h
      exact ⟨rfl, (fun z hz => nomatch hz), fun j _ => rfl⟩
    · rintro ⟨_, _, h⟩
      rw [List.ext_getElem? fun j => (h j fun z hz => nomatch hz)]
  | (t, x) :: zs, r, r', hl, nd => by
    have ht : t.toNat < r.length := hl (t, x) List.mem_cons_self
    rw [List.map_cons, List.nodup_cons] at nd
    have hne : ∀ z ∈ zs, z.1.toNat ≠ t.toNat := fun z hz e => nd.1 (List.mem_map.mpr ⟨z, hz, e⟩)
    have ih := putGo_iff zs (r.set t.toNat (some x)) r' (fun z hz => by rw [List.length_set]; exact hl z (List.mem_cons_of_mem _ hz)) nd.2
    obtain ⟨y, hy⟩ : ∃ y, r[t.toNat]? = some y := ⟨_, List.getElem?_eq_getElem ht⟩
    have key : (y = none ∨ y = some x) → (putGo (r.set t.toNat (some x)) zs = some r' ↔ r'.length = r.length ∧ (∀ z ∈ (t, x) :: zs, (r[z.1.toNat]? = some none ∨ r[z.1.toNat]? = some (some z.2)) ∧ r'[z.1.toNat]? = some (some z.2)) ∧ ∀ j, (∀ z ∈ (t, x) :: zs, z.1.toNat ≠ j) → r'[j]? = r[j]?) := fun hyx => by
      rw [ih, List.length_set]
      constructor
      · rintro ⟨h1, h2, h3⟩
        refine ⟨h1, fun z hz => ?_, fun j hj => ?_⟩
        · rcases List.mem_cons.mp hz with rfl | hz
          · refine ⟨?_, ?_⟩
            · rw [hy]
              rcases hyx with rfl | rfl
              · exact .inl rfl
              · exact .inr rfl
            · rw [h3 t.toNat hne, List.getElem?_set_self ht]
          · have := h2 z hz
            rw [List.getElem?_set_ne (Ne.symm (hne z hz))] at this
            exact this
        · rw [h3 j fun z hz => hj z (List.mem_cons_of_mem _ hz), List.getElem?_set_ne (hj (t, x) List.mem_cons_self)]
      · rintro ⟨h1, h2, h3⟩
        refine ⟨h1, fun z hz => ?_, fun j hj => ?_⟩
        · rw [List.getElem?_set_ne (Ne.symm (hne z hz))]
          exact h2 z (List.mem_cons_of_mem _ hz)
        · by_cases e : t.toNat = j
          · subst e
            rw [List.getElem?_set_self ht]
            exact (h2 (t, x) List.mem_cons_self).2
          · rw [List.getElem?_set_ne e]
            refine h3 j fun z hz => ?_
            rcases List.mem_cons.mp hz with rfl | hz
            · exact e
            · exact hj z hz
    unfold putGo
    rw [hy]
    cases y with
    | none => exact key (.inl rfl)
    | some y =>
      by_cases e : y = x
      · simp only
        rw [if_pos e]
        exact key (.inr (by rw [e]))
      · simp only
        rw [if_neg e]
        constructor
        · intro h; cases h
        · rintro ⟨_, h2, _⟩
          have := (h2 (t, x) List.mem_cons_self).1
          simp only at this
          rw [hy] at this
          rcases this with h | h
          · cases h
          · cases h; exact absurd rfl e
def joinStep (found : List Row) (p : Part) : List Row := found.flatMap fun row => p.2.filterMap fun l => putGo row (p.1.zip l)
def joinW (many : Nat) (ps : List Part) : List Row := ps.foldl joinStep [List.replicate many none]
/-- a lot of things below many, none twice -/
def LotOk (many : Nat) (lot : List Int) : Prop := (lot.map Int.toNat).Nodup ∧ ∀ t ∈ lot, 0 ≤ t ∧ t < many
structure JSpec (many : Nat) (ps : List Part) (r : Row) : Prop where
  len : r.length = many
  yes : ∀ p ∈ ps, ∃ l ∈ p.2, ∀ z ∈ p.1.zip l, r[z.1.toNat]? = some (some z.2)
  no : ∀ j < many, (∀ p ∈ ps, ∀ t ∈ p.1, t.toNat ≠ j) → r[j]? = some none
theorem zip_fst {lot l : List Int} (h : lot.length = l.length) : (lot.zip l).map (fun z => z.1.toNat) = lot.map Int.toNat := by
  rw [show (fun z : Int × Int => z.1.toNat) = Int.toNat ∘ Prod.fst from rfl, ← List.map_map, List.map_fst_zip (Nat.le_of_eq h)]
theorem mem_zip_fst {lot l : List Int} (h : lot.length = l.length) {t : Int} (ht : t ∈ lot) : ∃ x, (t, x) ∈ lot.zip l := by
  have : t ∈ (lot.zip l).map Prod.fst := by rw [List.map_fst_zip (Nat.le_of_eq h)]; exact ht
  obtain ⟨z, hz, rfl⟩ := List.mem_map.mp this
  exact ⟨z.2, hz⟩
open Classical in
theorem join_step {many : Nat} {done : List Part} {p : Part} {found : List Row} (hd : ∀ q ∈ done, LotOk many q.1 ∧ Fit q) (hp : LotOk many p.1) (hf : Fit p) (h : ∀ r, r ∈ found ↔ JSpec many done r) : ∀ r, r ∈ joinStep found p ↔ JSpec many (done ++ [p]) r := by
  intro r
  unfold joinStep
  rw [List.mem_flatMap]
  constructor
  · rintro ⟨row, hrow, hr⟩
    obtain ⟨l, hl, hput⟩ := List.mem_filterMap.mp hr
    have sp := (h row).mp hrow
    have e := hf l hl
    obtain ⟨h1, h2, h3⟩ := (putGo_iff (p.1.zip l) row r (fun z hz => by
      have := hp.2 z.1 (List.of_mem_zip hz).1
      rw [sp.len]; omega) (by rw [zip_fst e]; exact hp.1)).mp hput
    refine ⟨h1.trans sp.len, fun q hq => ?_, fun j hj hno => ?_⟩
    · rcases List.mem_append.mp hq with hq | hq
      · obtain ⟨m, hm, hz⟩ := sp.yes q hq
        refine ⟨m, hm, fun z hzq => ?_⟩
        have old := hz z hzq
        by_cases hin : ∃ z' ∈ p.1.zip l, z'.1.toNat = z.1.toNat
        · obtain ⟨z', hz', ez⟩ := hin
          obtain ⟨c1, c2⟩ := h2 z' hz'
          rw [ez, old] at c1
          rw [ez] at c2
          rcases c1 with c1 | c1
          · cases c1
          · exact c2.trans c1.symm
        · rw [h3 z.1.toNat fun z' hz' e' => hin ⟨z', hz', e'⟩]
          exact old
      · rw [List.mem_singleton.mp hq]
        exact ⟨l, hl, fun z hz => (h2 z hz).2⟩
    · rw [h3 j fun z hz => hno p (by simp) z.1 (List.of_mem_zip hz).1]
      exact sp.no j hj fun q hq => hno q (by simp [hq])
  · intro sp
    obtain ⟨l, hl, hz⟩ := sp.yes p (by simp)
    have e := hf l hl
    -- the row ahead of p
    obtain ⟨row, hrow⟩ : ∃ row : Row, row = (List.range many).map fun j => if (∃ q ∈ done, ∃ t ∈ q.1, t.toNat = j) then (r[j]?).getD none else none := ⟨_, rfl⟩
    have rl : row.length = many := by rw [hrow]; simp
    have rin : ∀ j < many, (∃ q ∈ done, ∃ t ∈ q.1, t.toNat = j) → row[j]? = r[j]? := fun j hj hx => by
      rw [hrow, List.getElem?_map, List.getElem?_range hj]
      simp only [Option.map_some]
      rw [if_pos hx]
      have : j < r.length := by rw [sp.len]; exact hj
      rw [List.getElem?_eq_getElem this]
      rfl
    have rout : ∀ j < many, ¬ (∃ q ∈ done, ∃ t ∈ q.1, t.toNat = j) → row[j]? = some none := fun j hj hx => by
      rw [hrow, List.getElem?_map, List.getElem?_range hj]
      simp only [Option.map_some]
      rw [if_neg hx]
    refine ⟨row, (h row).mpr ⟨rl, fun q hq => ?_, fun j hj hno => ?_⟩, List.mem_filterMap.mpr ⟨l, hl, ?_⟩⟩
    · obtain ⟨m, hm, hz'⟩ := sp.yes q (by simp [hq])
      refine ⟨m, hm, fun z hzq => ?_⟩
      have hin := (List.of_mem_zip hzq).1
      have := (hd q hq).1.2 z.1 hin
      rw [rin z.1.toNat (by omega) ⟨q, hq, z.1, hin, rfl⟩]
      exact hz' z hzq
    · exact rout j hj fun ⟨q, hq, t, ht, e⟩ => hno q hq t ht e
    · have inl : ∀ z ∈ p.1.zip l, z.1.toNat < many := fun z hzz => by
        have := hp.2 z.1 (List.of_mem_zip hzz).1
        omega
      refine (putGo_iff (p.1.zip l) row r (fun z hzz => by rw [rl]; exact inl z hzz) (by rw [zip_fst e]; exact hp.1)).mpr ⟨by rw [sp.len, rl], fun z hzz => ⟨?_, hz z hzz⟩, fun j hj => ?_⟩
      · by_cases hx : ∃ q ∈ done, ∃ t ∈ q.1, t.toNat = z.1.toNat
        · exact .inr ((rin _ (inl z hzz) hx).trans (hz z hzz))
        · exact .inl (rout _ (inl z hzz) hx)
      · by_cases hjm : j < many
        · by_cases hx : ∃ q ∈ done, ∃ t ∈ q.1, t.toNat = j
          · exact (rin j hjm hx).symm
          · rw [rout j hjm hx]
            refine sp.no j hjm fun q hq t ht e' => ?_
            rcases List.mem_append.mp hq with hq | hq
            · exact hx ⟨q, hq, t, ht, e'⟩
            · rw [List.mem_singleton.mp hq] at ht
              obtain ⟨x, hxz⟩ := mem_zip_fst e ht
              exact hj (t, x) hxz e'
        · rw [List.getElem?_eq_none (by rw [sp.len]; omega), List.getElem?_eq_none (by rw [rl]; omega)]
theorem join_go {many : Nat} : ∀ (rest done : List Part) (found : List Row), (∀ q ∈ done ++ rest, LotOk many q.1 ∧ Fit q) → (∀ r, r ∈ found ↔ JSpec many done r) → ∀ r, r ∈ rest.foldl joinStep found ↔ JSpec many (done ++ rest) r
  | [], done, found, _, h => by simpa using h
  | p :: rest, done, found, hq, h => by
    have hp := hq p (by simp)
    have := join_go rest (done ++ [p]) (joinStep found p) (fun q hq' => hq q (by simpa using hq')) (join_step (fun q hq' => hq q (by simp [hq'])) hp.1 hp.2 h)
    simpa using this
theorem join_mem {many : Nat} {ps : List Part} (hq : ∀ q ∈ ps, LotOk many q.1 ∧ Fit q) (r : Row) : r ∈ joinW many ps ↔ JSpec many ps r := by
  have := join_go (many := many) ps [] [List.replicate many none] (by simpa using hq) (fun r => by
    rw [List.mem_singleton]
    constructor
    · rintro rfl
      exact ⟨by simp, (fun p hp => nomatch hp), fun j hj _ => by rw [List.getElem?_replicate, if_pos hj]⟩
    · intro sp
      apply List.ext_getElem?
      intro j
      by_cases hj : j < many
      · have e0 : r[j]? = some none := sp.no j hj (fun p hp => by cases hp)
        rw [e0, List.getElem?_replicate, if_pos hj]
      · rw [List.getElem?_eq_none (by rw [sp.len]; omega), List.getElem?_eq_none (by simp; omega)]) r
  rw [List.nil_append] at this
  exact this
/-! no row twice -/
theorem join_nodup_step {many : Nat} {done : List Part} {p : Part} {found : List Row} (hd : ∀ q ∈ done, LotOk many q.1 ∧ Fit q) (hp : LotOk many p.1) (hf : Fit p) (hn : p.2.Nodup) (h : ∀ r, r ∈ found ↔ JSpec many done r) (nd : found.Nodup) : (joinStep found p).Nodup := by
  unfold joinStep
  have spec : ∀ row ∈ found, ∀ l ∈ p.2, ∀ r, putGo row (p.1.zip l) = some r → r.length = row.length ∧ (∀ z ∈ p.1.zip l, (row[z.1.toNat]? = some none ∨ row[z.1.toNat]? = some (some z.2)) ∧ r[z.1.toNat]? = some (some z.2)) ∧ ∀ j, (∀ z ∈ p.1.zip l, z.1.toNat ≠ j) → r[j]? = row[j]? := fun row hrow l hl r hr =>
    (putGo_iff (p.1.zip l) row r (fun z hz => by
      have := hp.2 z.1 (List.of_mem_zip hz).1
      have := ((h row).mp hrow).len
      omega) (by rw [zip_fst (hf l hl)]; exact hp.1)).mp hr
  -- the letters are those of the row
  have same : ∀ l ∈ p.2, ∀ m ∈ p.2, ∀ r : Row, (∀ z ∈ p.1.zip l, r[z.1.toNat]? = some (some z.2)) → (∀ z ∈ p.1.zip m, r[z.1.toNat]? = some (some z.2)) → l = m := fun l hl m hm r h1 h2 => by
    have e1 := hf l hl
    have e2 := hf m hm
    apply List.ext_getElem (by omega)
    intro i hi hi'
    have ip : i < p.1.length := by omega
    have z1 := h1 (p.1[i], l[i]) (by
      have : (p.1.zip l)[i]? = some (p.1[i], l[i]) := by simp [List.getElem?_zip_eq_some, ip, hi]
      exact List.mem_of_getElem? this)
    have z2 := h2 (p.1[i], m[i]) (by
      have : (p.1.zip m)[i]? = some (p.1[i], m[i]) := by simp [List.getElem?_zip_eq_some, ip, hi']
      exact List.mem_of_getElem? this)
    simp only at z1 z2
    rw [z1] at z2
    exact Option.some.inj (Option.some.inj z2)
  show List.Pairwise _ _
  rw [List.pairwise_flatMap]
  refine ⟨fun row hrow => ?_, ?_⟩
  · rw [List.pairwise_filterMap]
    refine List.Pairwise.imp_of_mem ?_ hn
    intro l m hl hm hne r hr r' hr' e
    subst e
    exact hne (same l hl m hm r (fun z hz => ((spec row hrow l hl r hr).2.1 z hz).2) fun z hz => ((spec row hrow m hm r hr').2.1 z hz).2)
  · refine List.Pairwise.imp_of_mem ?_ nd
    intro a b ha hb hne x hx y hy e
    subst e
    obtain ⟨l, hl, h1⟩ := List.mem_filterMap.mp hx
    obtain ⟨m, hm, h2⟩ := List.mem_filterMap.mp hy
    refine hne ?_
    have sa := (h a).mp ha
    have sb := (h b).mp hb
    obtain ⟨_, p1, q1⟩ := spec a ha l hl x h1
    obtain ⟨_, p2, q2⟩ := spec b hb m hm x h2
    -- what a row of found shows, x shows
    have sub : ∀ c : Row, JSpec many done c → (∃ l ∈ p.2, (∀ z ∈ p.1.zip l, (c[z.1.toNat]? = some none ∨ c[z.1.toNat]? = some (some z.2)) ∧ x[z.1.toNat]? = some (some z.2)) ∧ ∀ j, (∀ z ∈ p.1.zip l, z.1.toNat ≠ j) → x[j]? = c[j]?) → ∀ j < many, (∃ q ∈ done, ∃ t ∈ q.1, t.toNat = j) → c[j]? = x[j]? := by
      rintro c sc ⟨l, hl, c1, c2⟩ j hj ⟨q, hq, t, ht, et⟩
      obtain ⟨k, hk, hz⟩ := sc.yes q hq
      obtain ⟨u, hu⟩ := mem_zip_fst ((hd q hq).2 k hk) ht
      have old := hz (t, u) hu
      simp only at old
      rw [et] at old
      by_cases hin : ∃ z ∈ p.1.zip l, z.1.toNat = j
      · obtain ⟨z, hz', ez⟩ := hin
        obtain ⟨d1, d2⟩ := c1 z hz'
        rw [ez, old] at d1
        rw [ez] at d2
        rcases d1 with d1 | d1
        · cases d1
        · rw [old, d2]; exact d1
      · exact (c2 j fun z hz' e' => hin ⟨z, hz', e'⟩).symm
    apply List.ext_getElem?
    intro j
    by_cases hj : j < many
    · by_cases hx' : ∃ q ∈ done, ∃ t ∈ q.1, t.toNat = j
      · rw [sub a sa ⟨l, hl, p1, q1⟩ j hj hx', sub b sb ⟨m, hm, p2, q2⟩ j hj hx']
      · rw [sa.no j hj fun q hq t ht e' => hx' ⟨q, hq, t, ht, e'⟩, sb.no j hj fun q hq t ht e' => hx' ⟨q, hq, t, ht, e'⟩]
    · rw [List.getElem?_eq_none (by rw [sa.len]; omega), List.getElem?_eq_none (by rw [sb.len]; omega)]
theorem join_nodup_go {many : Nat} : ∀ (rest done : List Part) (found : List Row), (∀ q ∈ done ++ rest, LotOk many q.1 ∧ Fit q) → (∀ q ∈ rest, q.2.Nodup) → (∀ r, r ∈ found ↔ JSpec many done r) → found.Nodup → (rest.foldl joinStep found).Nodup
  | [], done, found, _, _, _, h => h
  | p :: rest, done, found, hq, hn, h, nd => by
    have hp := hq p (by simp)
    exact join_nodup_go rest (done ++ [p]) (joinStep found p) (fun q hq' => hq q (by simpa using hq')) (fun q hq' => hn q (List.mem_cons_of_mem _ hq')) (join_step (fun q hq' => hq q (by simp [hq'])) hp.1 hp.2 h) (join_nodup_step (fun q hq' => hq q (by simp [hq'])) hp.1 hp.2 (hn p List.mem_cons_self) h nd)
theorem join_nodup {many : Nat} {ps : List Part} (hq : ∀ q ∈ ps, LotOk many q.1 ∧ Fit q) (hn : ∀ q ∈ ps, q.2.Nodup) : (joinW many ps).Nodup := by
  refine join_nodup_go (many := many) ps [] [List.replicate many none] (by simpa using hq) hn (fun r => ?_) (by simp)
  exact join_mem (ps := []) (fun q h => by cases h) r
/-! how many -/
theorem step_len (found : List Row) (p : Part) : (joinStep found p).length ≤ found.length * p.2.length := by
  unfold joinStep
  induction found with
  | nil => simp
  | cons r found ih =>
    rw [List.flatMap_cons, List.length_append, List.length_cons, Nat.succ_mul]
    have := List.length_filterMap_le (fun l => putGo r (p.1.zip l)) p.2
    omega
end K84
end

section
set_option Elab.async false
set_option linter.all false
set_option maxRecDepth 100000
set_option maxHeartbeats 1000000
namespace K84
open PySem PySem.Spec PyProof.Rows PD PM
abbrev eRs (rs : List Row) : PyData := .list (rs.map eO)
theorem late_filter (found : List Row) (p : Part) : ((found.flatMap fun row => p.2.map fun l => putGo row (p.1.zip l)).filter Option.isSome).map eR? = (joinStep found p).map eO := by
  unfold joinStep
  induction found with
  | nil => rfl
  | cons r found ih =>
    rw [List.flatMap_cons, List.flatMap_cons, List.filter_append, List.map_append, List.map_append, ih]
    congr 1
    generalize p.2 = ls
    induction ls with
    | nil => rfl
    | cons l ls ih2 =>
      rw [List.map_cons]
      cases e : putGo r (p.1.zip l) with
      | none => rw [List.filter_cons_of_neg (by simp), ih2, List.filterMap_cons_none (f := fun l => putGo r (p.1.zip l)) e]
      | some r' => rw [List.filter_cons_of_pos (by simp), List.map_cons, ih2, List.filterMap_cons_some (f := fun l => putGo r (p.1.zip l)) e]; rfl
theorem step_rows {many : Nat} {found : List Row} {p : Part} (hf : Fit p) (hl : ∀ r ∈ found, r.length = many) (hp : LotOk many p.1) : ∀ r ∈ joinStep found p, r.length = many := by
  intro r hr
  unfold joinStep at hr
  obtain ⟨row, hrow, hr⟩ := List.mem_flatMap.mp hr
  obtain ⟨l, hl', hput⟩ := List.mem_filterMap.mp hr
  have e := hl row hrow
  rw [((putGo_iff (p.1.zip l) row r (fun z hz => by
    have := hp.2 z.1 (List.of_mem_zip hz).1
    omega) (by rw [zip_fst (hf l hl')]; exact hp.1)).mp hput).1, e]
structure POk (many : Nat) (p : Part) : Prop where
  lot : LotOk many p.1
  fit : Fit p
  few : p.2.length ≤ 4
  nd : p.2.Nodup
theorem join_loop {many : Nat} {ps : List Part} (ok : ∀ p ∈ ps, POk many p) (h6 : ps.length ≤ 6) (hm : many ≤ 1000) : NextQ (sSeq
      (sSet 2 (mD (eLst (aCons (eBin dMul (eLst (aCons (eC .none) aNil)) (eVar 0)) aNil))))
      (sFor (mI (iLst (eVar 1))) (tgT [3, 4]) (sSeq
      (sSet 5 (mD (eLC2 (iLst (eVar 2)) (tgN 6) bYes (iLst (eVar 4)) (tgN 7) bYes (eFn 3 m_put_in (aCons (eVar 6) (aCons (eVar 3) (aCons (eVar 7) aNil)))) [6, 7] [7])))
      (sSet 2 (mD (eLC (iLst (eVar 5)) (tgN 6) (bOf (eBin dNotN (eVar 6) (eC .none))) (eVar 6) [6])))))) (start0 N_joined_by.length [.int (many : Nat), eS ps])
    (fun ρ => ∃ a3 a4 a5 a6 a7, ρ = [.dat (.int (many : Nat)), .dat (eS ps), .dat (eRs (joinW many ps)), a3, a4, a5, a6, a7]) := by
  have ll : (1000000 : Nat) = lim := rfl
  have first : sSet 2 (mD (eLst (aCons (eBin dMul (eLst (aCons (eC .none) aNil)) (eVar 0)) aNil))) (start0 N_joined_by.length [.int (many : Nat), eS ps]) = some (.next, [.dat (.int (many : Nat)), .dat (eS ps), .dat (eRs [List.replicate many none]), .unk, .unk, .unk, .unk, .unk]) := by
    have h1 : (1 : Nat) ≤ lim := by decide
    have h2 : many ≤ lim := by omega
    have fl : ∀ n : Nat, (List.replicate n [PyData.none]).flatten = (List.replicate n (none : Option Int)).map eo := by
      intro n
      induction n with
      | zero => rfl
      | succ n ih => rw [List.replicate_succ, List.flatten_cons, ih, List.replicate_succ]; rfl
    simp [start0, h1, dMul]
    rw [if_pos (by omega)]
    simp [fl]
    exact ⟨h1, .inr rfl⟩
  refine seqN first ?_
  refine forN eP ps (fun d1 ρ => ∃ a3 a4 a5 a6 a7, ρ = [.dat (.int (many : Nat)), .dat (eS ps), .dat (eRs (joinW many d1)), a3, a4, a5, a6, a7] ∧ (joinW many d1).length ≤ 4 ^ d1.length ∧ ∀ r ∈ joinW many d1, r.length = many)
    (ρ1 := [.dat (.int (many : Nat)), .dat (eS ps), .dat (eRs [List.replicate many none]), .unk, .unk, .unk, .unk, .unk]) (mI_of (iLst_of v_of)) ⟨_, _, _, _, _, rfl, by simp [joinW], by simp [joinW]⟩ ?_ ?_
  · rintro d1 p d2 ρ hd ⟨a3, a4, a5, a6, a7, rfl, hlen, hrow⟩
    have hp := ok p (by rw [hd]; simp)
    have d6 : d1.length < 6 := by rw [hd] at h6; simp at h6; omega
    have p4 : 4 ^ d1.length ≤ 4 ^ 5 := Nat.pow_le_pow_right (by decide) (by omega)
    have e1 : joinW many (d1 ++ [p]) = joinStep (joinW many d1) p := by unfold joinW; rw [List.foldl_append]; rfl
    refine ⟨_, rfl, ?_⟩
    have late : eLC2 (iLst (eVar 2)) (tgN 6) bYes (iLst (eVar 4)) (tgN 7) bYes (eFn 3 m_put_in (aCons (eVar 6) (aCons (eVar 3) (aCons (eVar 7) aNil)))) [6, 7] [7] [.dat (.int (many : Nat)), .dat (eS ps), .dat (eRs (joinW many d1)), .dat (eI p.1), .dat (eL p.2), a5, a6, a7] =
        some (.list (((joinW many d1).flatMap fun row => p.2.map fun l => putGo row (p.1.zip l)).map eR?)) := by
      refine eLC2_map eO (fun _ => true) eI (fun _ => p.2) (fun _ _ => true) (fun row l => eR? (putGo row (p.1.zip l))) (joinW many d1) (iLst_of v_of) (fun row hr => ⟨_, rfl, rfl, fun _ => ⟨iLst_of v_of, fun l hl => ⟨_, rfl, rfl, fun _ => ?_⟩⟩⟩) ?_ ?_
      · refine eFn_of (a1 v_of (a1 v_of (a1 v_of a0))) (put_in_ev row p.1 l (hp.fit l hl) fun t ht => ?_)
        rw [hrow row hr]
        exact hp.lot.2 t ht
      · have e2 : ((joinW many d1).filter fun _ => true) = joinW many d1 := List.filter_eq_self.mpr fun _ _ => rfl
        have e3 : (p.2.filter fun _ => true) = p.2 := List.filter_eq_self.mpr fun _ _ => rfl
        rw [e2, e3, List.length_flatMap]
        simp only [List.length_map]
        have : ((joinW many d1).map fun _ => p.2.length).sum = (joinW many d1).length * p.2.length := by
          generalize joinW many d1 = l
          induction l with
          | nil => simp
          | cons x l ih => rw [List.map_cons, List.sum_cons, ih, List.length_cons, Nat.succ_mul]; omega
        rw [this]
        have := Nat.mul_le_mul (Nat.le_trans hlen p4) hp.few
        have : 4 ^ 5 * 4 ≤ lim := by decide
        omega
      · have e2 : ((joinW many d1).filter fun _ => true) = joinW many d1 := List.filter_eq_self.mpr fun _ _ => rfl
        have e3 : (p.2.filter fun _ => true) = p.2 := List.filter_eq_self.mpr fun _ _ => rfl
        rw [e2, e3, List.map_flatMap]
        simp only [List.map_map]
        rfl
    refine seqN (setD_of late) ?_
    refine nextQ (setD_of (d := eRs (joinW many (d1 ++ [p]))) ?_) ⟨_, _, _, _, _, rfl, ?_, ?_⟩
    · refine eLC_map eR? Option.isSome eR? ((joinW many d1).flatMap fun row => p.2.map fun l => putGo row (p.1.zip l)) (iLst_of v_of) (fun x hx => ⟨_, rfl, ?_, fun _ => v_of⟩) (hz := ?_)
      · refine b_of (bin_of v_of rfl ?_)
        cases x <;> rfl
      · rw [late_filter, e1]
    · rw [e1, List.length_append, List.length_singleton, Nat.pow_succ]
      exact Nat.le_trans (step_len _ _) (Nat.mul_le_mul hlen hp.few)
    · rw [e1]
      exact step_rows hp.fit hrow hp.lot
  · rintro ρ ⟨a3, a4, a5, a6, a7, rfl, _, _⟩
    exact ⟨a3, a4, a5, a6, a7, rfl⟩
/-! ### full rows -/
def restr (lot l : List Int) : List Int := lot.map fun t => l.getD t.toNat 0
def Full (many : Nat) (ps : List Part) (l : List Int) : Prop := l.length = many ∧ ∀ p ∈ ps, restr p.1 l ∈ p.2
def Cover (many : Nat) (ps : List Part) : Prop := ∀ j < many, ∃ p ∈ ps, ∃ t ∈ p.1, t.toNat = j
def un (r : Row) : List Int := r.map fun o => o.getD 0
theorem un_some : ∀ l : List Int, un (l.map some) = l
  | [] => rfl
  | x :: l => congrArg (x :: ·) (un_some l)
theorem all_some {many : Nat} {ps : List Part} (hf : ∀ p ∈ ps, Fit p) (hc : Cover many ps) {r : Row} (h : JSpec many ps r) : r = (un r).map some := by
  apply List.ext_getElem?
  intro j
  by_cases hj : j < many
  · obtain ⟨p, hp, t, ht, e⟩ := hc j hj
    obtain ⟨l, hl, hz⟩ := h.yes p hp
    obtain ⟨x, hx⟩ := mem_zip_fst (hf p hp l hl) ht
    have := hz (t, x) hx
    simp only [e] at this
    rw [this]
    unfold un
    rw [List.getElem?_map, List.getElem?_map, this]
    rfl
  · rw [List.getElem?_eq_none (by rw [h.len]; omega), List.getElem?_eq_none (by rw [List.length_map, un, List.length_map, h.len]; omega)]
theorem zip_get {lot l : List Int} {i : Nat} {t x : Int} (h1 : lot[i]? = some t) (h2 : l[i]? = some x) : (t, x) ∈ lot.zip l := by
  have : (lot.zip l)[i]? = some (t, x) := by rw [List.getElem?_zip_eq_some]; exact ⟨h1, h2⟩
  exact List.mem_of_getElem? this
theorem spec_full {many : Nat} {ps : List Part} (ok : ∀ p ∈ ps, LotOk many p.1 ∧ Fit p) (hc : Cover many ps) (l : List Int) : JSpec many ps (l.map some) ↔ Full many ps l := by
  constructor
  · intro h
    refine ⟨by have := h.len; simpa using this, fun p hp => ?_⟩
    obtain ⟨m, hm, hz⟩ := h.yes p hp
    have e := (ok p hp).2 m hm
    have : restr p.1 l = m := by
      unfold restr
      apply List.ext_getElem?
      intro i
      rw [List.getElem?_map]
      cases q : p.1[i]? with
      | none =>
        rw [List.getElem?_eq_none_iff] at q
        rw [List.getElem?_eq_none (by omega)]
        rfl
      | some t =>
        have hi := getElem_len q
        have := hz (t, m[i]'(by omega)) (zip_get q (List.getElem?_eq_getElem (by omega)))
        simp only [List.getElem?_map] at this
        obtain ⟨x, hx, ex⟩ := Option.map_eq_some_iff.mp this
        cases ex
        rw [List.getElem?_eq_getElem (by omega), Option.map_some, List.getD_eq_getElem?_getD, hx]
        rfl
    rw [this]
    exact hm
  · rintro ⟨h1, h2⟩
    refine ⟨by simpa using h1, fun p hp => ⟨_, h2 p hp, fun z hz => ?_⟩, fun j hj hno => ?_⟩
    · have hin := (List.of_mem_zip hz).1
      have hr := (ok p hp).1.2 z.1 hin
      obtain ⟨i, hi⟩ := List.getElem?_of_mem hz
      obtain ⟨g1, g2⟩ := List.getElem?_zip_eq_some.mp hi
      unfold restr at g2
      rw [List.getElem?_map, g1] at g2
      have g3 : l.getD z.1.toNat 0 = z.2 := by simpa using g2
      have hlt : z.1.toNat < l.length := by omega
      rw [List.getElem?_map, List.getElem?_eq_getElem hlt]
      rw [List.getD_eq_getElem?_getD, List.getElem?_eq_getElem hlt] at g3
      simpa using g3
    · obtain ⟨p, hp, t, ht, e⟩ := hc j hj
      exact absurd e (hno p hp t ht)
theorem joined_by_ev {many : Nat} {ps : List Part} (ok : ∀ p ∈ ps, POk many p) (h6 : ps.length ≤ 6) (hm : many ≤ 1000) (hc : Cover many ps) : ∃ js : List (List Int), m_joined_by [.int (many : Nat), eS ps] = some (eL js) ∧ js.Nodup ∧ ∀ l, l ∈ js ↔ Full many ps l := by
  have ok2 : ∀ p ∈ ps, LotOk many p.1 ∧ Fit p := fun p hp => ⟨(ok p hp).lot, (ok p hp).fit⟩
  have full : ∀ r ∈ joinW many ps, r = (un r).map some := fun r hr => all_some (fun p hp => (ok p hp).fit) hc ((join_mem ok2 r).mp hr)
  have data : (joinW many ps).map eO = ((joinW many ps).map un).map eI := by
    rw [List.map_map]
    refine List.map_congr_left fun r hr => ?_
    have e := full r hr
    show eO r = eI (un r)
    rw [e, un_some]
    show PyData.list (((un r).map some).map eo) = _
    rw [List.map_map]
    rfl
  refine ⟨sortL ((joinW many ps).map un), ?_, sortL_nodup ?_, fun l => ?_⟩
  · obtain ⟨ρ', hr, a3, a4, a5, a6, a7, rfl⟩ := join_loop ok h6 hm
    -- the block in two
    unfold sSeq at hr
    obtain ⟨⟨o, ρ1⟩, g1, hr⟩ := bind_some hr
    have on : o = .next := by
      cases o with
      | next => rfl
      | ret d => cases hr
      | brk => cases hr
      | cont => cases hr
    subst on
    refine runQ (seqQ g1 (seqQ hr (retQ ?_)))
    refine eCall_of (a1 v_of a0) ?_
    show dSorted [.list ((joinW many ps).map eO)] = _
    rw [data]
    exact dSorted_eL _
  · show List.Pairwise _ _
    rw [List.pairwise_map]
    refine List.Pairwise.imp_of_mem ?_ (join_nodup ok2 fun p hp => (ok p hp).nd)
    intro a b ha hb hne e
    exact hne (by rw [full a ha, full b hb, e])
  · rw [sortL_mem, List.mem_map]
    constructor
    · rintro ⟨r, hr, rfl⟩
      refine (spec_full ok2 hc _).mp ?_
      rw [← full r hr]
      exact (join_mem ok2 r).mp hr
    · intro h
      exact ⟨l.map some, (join_mem ok2 _).mpr ((spec_full ok2 hc l).mpr h), un_some l⟩
end K84
end

section
set_option Elab.async false
set_option linter.all false
set_option maxRecDepth 100000
set_option maxHeartbeats 1000000
namespace K84
open PySem PySem.Spec PyProof.Rows PD PM
/-! ### lots -/
def subStep (f : List (List Int)) (t : Nat) : List (List Int) := f ++ f.map (· ++ [(t : Int)])
def subs (n : Nat) : List (List Int) := (List.range n).foldl subStep [[]]
theorem subs_len (l : List Nat) (f : List (List Int)) : (l.foldl subStep f).length = f.length * 2 ^ l.length := by
  induction l generalizing f with
  | nil => simp
  | cons t l ih => rw [List.foldl_cons, ih, List.length_cons, Nat.pow_succ]; unfold subStep; rw [List.length_append, List.length_map]; rw [← Nat.two_mul, Nat.mul_comm 2, Nat.mul_assoc, Nat.mul_comm 2]
theorem subs_each (l : List Nat) (k : Nat) (f : List (List Int)) (h : ∀ x ∈ f, x.length ≤ k) : ∀ x ∈ l.foldl subStep f, x.length ≤ k + l.length := by
  induction l generalizing f k with
  | nil => simpa using h
  | cons t l ih =>
    intro x hx
    rw [List.foldl_cons] at hx
    have := ih (k + 1) (subStep f t) (fun y hy => by
      unfold subStep at hy
      rcases List.mem_append.mp hy with hy | hy
      · have := h y hy; omega
      · obtain ⟨z, hz, rfl⟩ := List.mem_map.mp hy
        have := h z hz
        simp
        omega) x hx
    rw [List.length_cons]
    omega
theorem rng_nat (n : Nat) : rng 0 n = (List.range n).map fun i => PyData.int (i : Nat) := by
  unfold rng
  refine List.map_congr_left fun i _ => ?_
  simp
theorem iRange1_of {F : Rho → Option PyData} {ρ : Rho} {n : Nat} (h : F ρ = some (.int (n : Nat))) (hn : n ≤ 1000000) : iRange1 F ρ = some ((List.range n).map fun i => PyData.int (i : Nat)) := by
  unfold iRange1
  rw [h]
  show (if _ then _ else _) = _
  rw [if_pos (by omega), Int.toNat_natCast, rng_nat]
theorem dAdd_list {xs ys : List PyData} (h : xs.length + ys.length ≤ lim) : dAdd (.list xs) (.list ys) = some (.list (xs ++ ys)) := by
  show (if _ then _ else _) = _
  rw [if_pos h]
/-- one turn: f + [lot + [t] for lot in f] -/
theorem sub_turn {ρ : Rho} {i j k : Nat} {f : List (List Int)} {t : Nat} (hi : ρ[i]? = some (.dat (eL f))) (hw : (wipeR ρ [k])[j]? = some (.dat (.int (t : Nat)))) (hk : k < ρ.length) (hjk : k ≠ j) (hl : f.length ≤ 1000) (he : ∀ x ∈ f, x.length ≤ 1000) :
    eBin dAdd (eVar i) (eLC (iLst (eVar i)) (tgN k) bYes (eBin dAdd (eVar k) (eLst (aCons (eVar j) aNil))) [k]) ρ = some (eL (subStep f t)) := by
  have l6 : (1000000 : Nat) = lim := rfl
  have e : eLC (iLst (eVar i)) (tgN k) bYes (eBin dAdd (eVar k) (eLst (aCons (eVar j) aNil))) [k] ρ = some (.list (f.map fun x => eI (x ++ [(t : Int)]))) := by
    refine eLC_all eI (fun x => eI (x ++ [(t : Int)])) f (iLst_of (v_of hi)) (fun x hx => ⟨_, rfl, ?_⟩) rfl
    refine bin_of (d := eI x) (e := eI [(t : Int)]) (v_of ?_) (lst_of (a1 (v_of ?_) a0) ?_) ?_
    · simp at hk ⊢
      simp [hk]
    · rw [List.getElem?_set_ne hjk]
      exact hw
    · show 1 ≤ lim; decide
    · have := he x hx
      rw [dAdd_list (by simp; omega)]
      simp
  refine bin_of (v_of hi) e ?_
  rw [dAdd_list (by simp; omega)]
  unfold subStep
  simp
theorem lots_of_ev (n : Nat) (hn : n ≤ 5) : m_lots_of [.int (n : Nat)] = some (eL (isrt leN (subs n))) := by
  have l6 : (1000000 : Nat) = lim := rfl
  have loop : NextQ (sSeq (sSet 1 (mD (eLst (aCons (eLst aNil) aNil))))
      (sFor (mI (iRange1 (eVar 0))) (tgN 2) (sSet 1 (mD (eBin dAdd (eVar 1) (eLC (iLst (eVar 1)) (tgN 4) bYes (eBin dAdd (eVar 4) (eLst (aCons (eVar 2) aNil))) [4])))))) (start0 N_lots_of.length [.int (n : Nat)])
      (fun ρ => ∃ a2, ρ = [.dat (.int (n : Nat)), .dat (eL (subs n)), a2, .unk, .unk]) := by
    refine seqN (ρ1 := [.dat (.int (n : Nat)), .dat (eL [[]]), .unk, .unk, .unk]) (setD_of (d := eL [[]]) ?_) ?_
    · have : (1 : Nat) ≤ lim := by decide
      simp [this]
    · refine forN (fun i : Nat => PyData.int (i : Nat)) (List.range n) (fun d1 ρ => ∃ a2, ρ = [.dat (.int (n : Nat)), .dat (eL (d1.foldl subStep [[]])), a2, .unk, .unk]) (mI_of (iRange1_of v_of (by omega))) ⟨_, rfl⟩ ?_ (fun ρ h => h)
      rintro d1 t d2 ρ hd ⟨a2, rfl⟩
      have h5 : d1.length < n := by
        have := congrArg List.length hd
        simp at this
        omega
      have hp : 2 ^ d1.length ≤ 2 ^ 5 := Nat.pow_le_pow_right (by decide) (by omega)
      refine ⟨_, rfl, nextQ (setD_of (d := eL ((d1 ++ [t]).foldl subStep [[]])) ?_) ⟨_, rfl⟩⟩
      rw [List.foldl_append]
      refine sub_turn rfl rfl (by simp) (by decide) ?_ ?_
      · rw [subs_len]
        simp
        omega
      · intro x hx
        have := subs_each d1 0 [[]] (by simp) x hx
        omega
  obtain ⟨ρ', hr, a2, rfl⟩ := loop
  unfold sSeq at hr
  obtain ⟨⟨o, ρ1⟩, g1, hr⟩ := bind_some hr
  have on : o = .next := by
    cases o with
    | next => rfl
    | ret d => cases hr
    | brk => cases hr
    | cont => cases hr
  subst on
  refine runQ (seqQ g1 (seqQ hr (retQ ?_)))
  refine eLC_all eN eI (isrt leN (subs n)) ?_ (fun x hx => ⟨_, rfl, v_of⟩) rfl
  refine iLst_of (eCall_of (a1 ?_ a0) (dSorted_N (subs n)))
  refine eLC_all eI eN (subs n) (iLst_of v_of) (fun x hx => ⟨_, rfl, ?_⟩) rfl
  have : (2 : Nat) ≤ lim := by decide
  simp [this]
def lawStep (n : Nat) (acc : List (List Int)) (k : Nat) : List (List Int) := acc ++ isrt leL ((subs n).filter fun l => decide (l.length = k))
def lawLots (n : Nat) : List (List Int) := (List.range (n + 1)).foldl (lawStep n) []
theorem law_len (n : Nat) (ks : List Nat) (acc : List (List Int)) : (ks.foldl (lawStep n) acc).length ≤ acc.length + (subs n).length * ks.length := by
  induction ks generalizing acc with
  | nil => simp
  | cons k ks ih =>
    rw [List.foldl_cons, List.length_cons, Nat.mul_succ]
    have := ih (lawStep n acc k)
    have h2 : (lawStep n acc k).length ≤ acc.length + (subs n).length := by
      unfold lawStep
      rw [List.length_append, (isrt_perm _ _).length_eq]
      have := List.length_filter_le (fun l : List Int => decide (l.length = k)) (subs n)
      omega
    omega
theorem law_lots_ev (n : Nat) (hn : n ≤ 5) : m__law_lots [.int (n : Nat)] = some (eL (lawLots n)) := by
  have l6 : (1000000 : Nat) = lim := rfl
  have h1 : (1 : Nat) ≤ lim := by decide
  have s32 : (subs n).length ≤ 32 := by
    unfold subs
    rw [subs_len]
    have : 2 ^ n ≤ 2 ^ 5 := Nat.pow_le_pow_right (by decide) hn
    simp
    omega
  have first : sPar 3 4 (mD (eLst (aCons (eLst aNil) aNil))) (mD (eLst aNil)) (start0 N__law_lots.length [.int (n : Nat)]) = some (.next, [.dat (.int (n : Nat)), .unk, .unk, .dat (eL [[]]), .dat (eL []), .unk]) := by
    simp [sPar, h1, start0]
  have loop1 : NextQ (sFor (mI (iRange1 (eVar 0))) (tgN 1) (sSet 3 (mD (eBin dAdd (eVar 3) (eLC (iLst (eVar 3)) (tgN 5) bYes (eBin dAdd (eVar 5) (eLst (aCons (eVar 1) aNil))) [5]))))) [.dat (.int (n : Nat)), .unk, .unk, .dat (eL [[]]), .dat (eL []), .unk]
      (fun ρ => ∃ a1, ρ = [.dat (.int (n : Nat)), a1, .unk, .dat (eL (subs n)), .dat (eL []), .unk]) := by
    refine forN (fun i : Nat => PyData.int (i : Nat)) (List.range n) (fun d1 ρ => ∃ a1, ρ = [.dat (.int (n : Nat)), a1, .unk, .dat (eL (d1.foldl subStep [[]])), .dat (eL []), .unk]) (mI_of (iRange1_of v_of (by omega))) ⟨_, rfl⟩ ?_ (fun ρ h => h)
    rintro d1 t d2 ρ hd ⟨a1, rfl⟩
    have h5 : d1.length < n := by
      have := congrArg List.length hd
      simp at this
      omega
    have hp : 2 ^ d1.length ≤ 2 ^ 5 := Nat.pow_le_pow_right (by decide) (by omega)
    refine ⟨_, rfl, nextQ (setD_of (d := eL ((d1 ++ [t]).foldl subStep [[]])) ?_) ⟨_, rfl⟩⟩
    rw [List.foldl_append]
    refine sub_turn rfl rfl (by simp) (by decide) ?_ ?_
    · rw [subs_len]
      simp
      omega
    · intro x hx
      have := subs_each d1 0 [[]] (by simp) x hx
      omega
  have loop2 : ∀ a1, NextQ (sFor (mI (iRange1 (eBin dAdd (eVar 0) (eC (.int 1))))) (tgN 2) (sSet 4 (mD (eBin dAdd (eVar 4) (eCall dSorted (aCons (eLC (iLst (eVar 3)) (tgN 5) (bOf (eBin dEq (eCall dLen (aCons (eVar 5) aNil)) (eVar 2))) (eVar 5) [5]) aNil)))))) [.dat (.int (n : Nat)), a1, .unk, .dat (eL (subs n)), .dat (eL []), .unk]
      (fun ρ => ∃ x1 x2, ρ = [.dat (.int (n : Nat)), x1, x2, .dat (eL (subs n)), .dat (eL (lawLots n)), .unk]) := fun a1' => by
    refine forN (fun i : Nat => PyData.int (i : Nat)) (List.range (n + 1)) (fun d1 ρ => ∃ x1 x2, ρ = [.dat (.int (n : Nat)), x1, x2, .dat (eL (subs n)), .dat (eL (d1.foldl (lawStep n) [])), .unk]) (mI_of (iRange1_of (bin_of v_of rfl (by simp)) (by omega))) ⟨_, _, rfl⟩ ?_ (fun ρ h => h)
    rintro d1 k d2 ρ hd ⟨x1, x2, rfl⟩
    have h5 : d1.length < n + 1 := by
      have := congrArg List.length hd
      simp at this
      omega
    refine ⟨_, rfl, nextQ (setD_of (d := eL ((d1 ++ [k]).foldl (lawStep n) [])) ?_) ⟨_, _, rfl⟩⟩
    rw [List.foldl_append]
    refine bin_of (d := eL (d1.foldl (lawStep n) [])) (e := eL (isrt leL ((subs n).filter fun l => decide (l.length = k)))) (v_of) (eCall_of (a1 (d := eL ((subs n).filter fun l => decide (l.length = k))) ?_ a0) ?_) ?_
    · refine eLC_map eI (fun l => decide (l.length = k)) eI (subs n) (iLst_of v_of) (fun x hx => ⟨_, rfl, ?_, fun _ => v_of⟩) rfl
      refine b_of ?_
      have e : ((x.length : Int) = (k : Int)) = (x.length = k) := propext (by omega)
      simp [e]
    · rw [dSorted_eL, sortL_isrt]
    · have := law_len n d1 []
      have h2 := List.length_filter_le (fun l : List Int => decide (l.length = k)) (subs n)
      have h3 : (subs n).length * d1.length ≤ 32 * 6 := Nat.mul_le_mul s32 (by omega)
      rw [dAdd_list (by
        rw [List.length_map, List.length_map, (isrt_perm _ _).length_eq]
        simp at this
        omega)]
      simp [lawStep]
  refine runQ (seqQ first (seqQI loop1 fun ρ1 ⟨b1, e1⟩ => ?_))
  subst e1
  refine seqQI (loop2 b1) fun ρ2 ⟨b1, b2, e2⟩ => ?_
  subst e2
  exact retQ v_of
theorem lots_same : ∀ n ∈ [1, 2, 3, 4], lawLots n = isrt leN (subs n) := by decide +kernel
end K84
end

section
set_option Elab.async false
set_option linter.all false
set_option maxRecDepth 100000
set_option maxHeartbeats 1000000
namespace K84
open PySem PySem.Spec PyProof.Rows PD PM
/-! ### what is valid -/
theorem atI_nat {α : Type} {xs : List α} {j : Nat} {x : α} {t : Int} (h : xs[j]? = some x) (e : t = (j : Nat)) : L2.atI xs t = some x := by
  subst e
  exact atI_in (by omega) (by simpa using h)
theorem wipe1 {ρ : Rho} {i k : Nat} {en : Ent} (h : ρ[i]? = some en) (hk : k ≠ i) : (wipeR ρ [k])[i]? = some en := by
  simp only [wipeR_cons, wipeR_nil]
  rw [List.getElem?_set_ne hk]
  exact h
/-- all([xs[at - 1] < xs[at] for at in range(1, len(xs))]) -/
theorem incr_of {α : Type} {ρ : Rho} {i k : Nat} (e : α → PyData) (xs : List α) (hi : ρ[i]? = some (.dat (.list (xs.map e)))) (hk : k ≠ i) (hlt : k < ρ.length) (hl : xs.length ≤ 1000) (h : ∀ j x y, xs[j]? = some x → xs[j + 1]? = some y → dLt (e x) (e y) = some (.bool true)) :
    eCall dAll (aCons (eLC (iRange2 (eC (.int 1)) (eCall dLen (aCons (eVar i) aNil))) (tgN k) bYes (eBin dLt (eBin dIx (eVar i) (eBin dSub (eVar k) (eC (.int 1)))) (eBin dIx (eVar i) (eVar k))) [k]) aNil) ρ = some (.bool true) := by
  have e1 : eLC (iRange2 (eC (.int 1)) (eCall dLen (aCons (eVar i) aNil))) (tgN k) bYes (eBin dLt (eBin dIx (eVar i) (eBin dSub (eVar k) (eC (.int 1)))) (eBin dIx (eVar i) (eVar k))) [k] ρ = some (.list ((List.range (xs.length - 1)).map fun _ => .bool true)) := by
    refine eLC_all (fun j : Nat => .int (1 + (j : Nat))) (fun _ => .bool true) (List.range (xs.length - 1)) ?_ (fun j hj => ⟨_, rfl, ?_⟩) rfl
    · have hL : eCall dLen (aCons (eVar i) aNil) ρ = some (.int xs.length) := eCall_of (a1 (v_of hi) a0) (by simp)
      unfold iRange2
      rw [hL]
      show (if _ then _ else _) = _
      rw [if_pos (by omega)]
      unfold rng
      have : ((xs.length : Int) - 1).toNat = xs.length - 1 := by omega
      rw [this]
    · have hj := List.mem_range.mp hj
      have g1 : xs[j]? = some xs[j] := List.getElem?_eq_getElem (by omega)
      have g2 : xs[j + 1]? = some (xs[j + 1]'(by omega)) := List.getElem?_eq_getElem (by omega)
      have vi : eVar i ((wipeR ρ [k]).set k (.dat (.int (1 + (j : Nat))))) = some (.list (xs.map e)) := v_of (by rw [List.getElem?_set_ne hk]; exact wipe1 hi hk)
      have vk : eVar k ((wipeR ρ [k]).set k (.dat (.int (1 + (j : Nat))))) = some (.int (1 + (j : Nat))) := v_of (by rw [List.getElem?_set_self]; simpa using hlt)
      refine bin_of (d := e xs[j]) (e := e (xs[j + 1]'(by omega))) (bin_of vi (bin_of vk rfl rfl) (atI_nat (j := j) (by rw [List.getElem?_map, g1]; rfl) (by omega))) (bin_of vi vk (atI_nat (j := j + 1) (by rw [List.getElem?_map, g2]; rfl) (by omega))) (h j _ _ g1 g2)
  refine eCall_of (a1 e1 a0) ?_
  rw [dAll_map (fun _ => true)]
  simp
structure VLot (n : Nat) (lot : List Int) : Prop where
  inc : lot.Pairwise (· < ·)
  rng : ∀ t ∈ lot, 0 ≤ t ∧ t < n
  few : lot.length ≤ 100
theorem pw_adj {α : Type} {R : α → α → Prop} {xs : List α} (h : xs.Pairwise R) {j : Nat} {x y : α} (h1 : xs[j]? = some x) (h2 : xs[j + 1]? = some y) : R x y := by
  obtain ⟨g1, rfl⟩ := List.getElem?_eq_some_iff.mp h1
  obtain ⟨g2, rfl⟩ := List.getElem?_eq_some_iff.mp h2
  exact List.pairwise_iff_getElem.mp h j (j + 1) g1 g2 (by omega)
theorem is_lot_by_ev {n : Nat} {lot : List Int} (h : VLot n lot) : m_is_lot_by [.int (n : Nat), eI lot] = some (.bool true) := by
  have all : eCall dAll (aCons (eLC (iLst (eVar 1)) (tgN 3) bYes (eAnd (eFn 1 m_is_whole (aCons (eVar 3) aNil)) (eChain dLe dLt (eC (.int 0)) (eVar 3) (eVar 0))) [3]) aNil) (start0 N_is_lot_by.length [.int (n : Nat), eI lot]) = some (.bool true) := by
    refine eCall_of (a1 (d := .list (lot.map fun _ => .bool true)) ?_ a0) (by rw [dAll_map (fun _ => true)]; simp)
    refine eLC_all PyData.int (fun _ => .bool true) lot (iLst_of v_of) (fun t ht => ⟨_, rfl, ?_⟩) rfl
    obtain ⟨h0, h1⟩ := h.rng t ht
    simp [start0, is_whole_int, h0, h1]
  refine runQ (seqQ (if_f (D := sNext) ?_ rfl) (retQ ?_))
  · rw [bOr_ev, bNot_ev, bNot_ev, bOf_ev, bOf_ev, all]
    simp [start0, isTy, noScr]
  · exact incr_of PyData.int lot rfl (by decide) (by simp [start0]) (by have := h.few; omega) fun j x y h1 h2 => by
      rw [dLt_int, decide_eq_true (pw_adj h.inc h1 h2)]
theorem are_letters_ev {k : Nat} {l : List Int} (hl : l.length = k) (h : ∀ x ∈ l, 0 ≤ x ∧ x ≤ 9) : m_are_letters [eI l, .int (k : Nat)] = some (.bool true) := by
  refine runQ (seqQ (if_f (D := sNext) ?_ rfl) (retQ ?_))
  · rw [bOr_ev, bNot_ev]
    simp [start0, isTy, noScr, hl]
  · refine eCall_of (a1 (d := .list (l.map fun _ => .bool true)) ?_ a0) (by rw [dAll_map (fun _ => true)]; simp)
    refine eLC_all PyData.int (fun _ => .bool true) l (iLst_of v_of) (fun t ht => ⟨_, rfl, ?_⟩) rfl
    obtain ⟨h0, h1⟩ := h t ht
    simp [start0, is_whole_int, h0, h1]
structure VPart (n : Nat) (p : Part) : Prop where
  lot : VLot n p.1
  ne : p.1 ≠ []
  rows : 1 ≤ p.2.length ∧ p.2.length ≤ 12
  let_ : ∀ l ∈ p.2, l.length = p.1.length ∧ ∀ x ∈ l, 0 ≤ x ∧ x ≤ 9
  inc : p.2.Pairwise (· < ·)
theorem dLt_eI (a b : List Int) : dLt (eI a) (eI b) = some (.bool (decide (a < b))) := by
  show (if _ then _ else _) = _
  rw [if_pos ⟨alike_eI a b, (sh_eI a).shaped (by decide), (sh_eI b).shaped (by decide)⟩]
  have := congrFun (congrFun (PySem.W.dataLe_rows (fun x : List Int => x)) b) a
  have h2 : (!PySem.W.dataLt (eI a) (eI b)) = decide (b ≤ a) := this
  have h3 : PySem.W.dataLt (eI a) (eI b) = !decide (b ≤ a) := by rw [← h2, Bool.not_not]
  show some (PyData.bool (PySem.W.dataLt (eI a) (eI b))) = _
  rw [h3]
  by_cases h : a < b
  · rw [decide_eq_true h, decide_eq_false (fun z => (List.not_le.mpr h) z)]
    rfl
  · rw [decide_eq_false h, decide_eq_true (List.not_lt.mp h)]
    rfl
theorem is_part_by_ev {n : Nat} {p : Part} (h : VPart n p) : m_is_part_by [.int (n : Nat), eP p] = some (.bool true) := by
  have hix : eBin dIx (eVar 1) (eC (.int 0)) (start0 N_is_part_by.length [.int (n : Nat), eP p]) = some (eI p.1) := bin_of v_of rfl rfl
  refine runQ (seqQ (if_f (D := sNext) ?_ rfl) (seqQ (unp_of v_of rfl) (seqQ (if_f (D := sNext) ?_ rfl) (seqQ (if_f (D := sNext) ?_ rfl) (retQ ?_)))))
  · have e1 : eFn 2 m_is_lot_by (aCons (eVar 0) (aCons (eBin dIx (eVar 1) (eC (.int 0))) aNil)) (start0 N_is_part_by.length [.int (n : Nat), eP p]) = some (.bool true) := eFn_of (a1 v_of (a1 hix a0)) (is_lot_by_ev h.lot)
    have e2 : eBin dEq (eBin dIx (eVar 1) (eC (.int 0))) (eLst aNil) (start0 N_is_part_by.length [.int (n : Nat), eP p]) = some (.bool false) := bin_of hix (e := eI []) (lst_of a0 (by decide)) (by rw [dEq_eI, decide_eq_false h.ne])
    have e3 : eIsi .tuple (eVar 1) (start0 N_is_part_by.length [.int (n : Nat), eP p]) = some (.bool true) := rfl
    have e4 : eBin dNe (eCall dLen (aCons (eVar 1) aNil)) (eC (.int 2)) (start0 N_is_part_by.length [.int (n : Nat), eP p]) = some (.bool false) := bin_of (eCall_of (a1 v_of a0) (dLen_tuple _)) rfl (by rw [dNe_int]; rfl)
    rw [bOr_ev, bOr_ev, bOr_ev, bNot_ev, bNot_ev, bOf_ev, bOf_ev, bOf_ev, bOf_ev, e1, e2, e3, e4]
    rfl
  · obtain ⟨h0, h1⟩ := h.rows
    have a : (1 : Int) ≤ (p.2.length : Int) := by omega
    have b : (p.2.length : Int) ≤ 12 := by omega
    simp [start0, isTy, noScr, a, b]
  · rw [bNot_ev]
    have e1 : eCall dAll (aCons (eLC (iLst (eVar 3)) (tgN 5) bYes (eFn 2 m_are_letters (aCons (eVar 5) (aCons (eCall dLen (aCons (eVar 2) aNil)) aNil))) [5]) aNil) [.dat (.int (n : Nat)), .dat (eP p), .dat (eI p.1), .dat (eL p.2), .unk, .unk] = some (.bool true) := by
      refine eCall_of (a1 (d := .list (p.2.map fun _ => .bool true)) ?_ a0) (by rw [dAll_map (fun _ => true)]; simp)
      refine eLC_all eI (fun _ => .bool true) p.2 (iLst_of v_of) (fun l hl => ⟨_, rfl, ?_⟩) rfl
      obtain ⟨h0, h1⟩ := h.let_ l hl
      refine eFn_of (a1 v_of (a1 (eCall_of (a1 v_of a0) (dLen_list _)) a0)) ?_
      rw [List.length_map]
      exact are_letters_ev h0 h1
    have : bOf (eCall dAll (aCons (eLC (iLst (eVar 3)) (tgN 5) bYes (eFn 2 m_are_letters (aCons (eVar 5) (aCons (eCall dLen (aCons (eVar 2) aNil)) aNil))) [5]) aNil)) [.dat (.int (n : Nat)), .dat (eP p), .dat (eI p.1), .dat (eL p.2), .unk, .unk] = some true := b_of e1
    exact congrArg (Option.map (!·)) this
  · exact incr_of eI p.2 rfl (by decide) (by simp [start0]) (by have := h.rows.2; omega) fun j x y h1 h2 => by
      rw [dLt_eI, decide_eq_true (pw_adj h.inc h1 h2)]
/-! places of lots -/
def place (n : Nat) (lot : List Int) : Nat := (isrt leN (subs n)).findIdx fun l => decide (l = lot)
structure VLots (n : Nat) (lots : List (List Int)) : Prop where
  n1 : 1 ≤ n ∧ n ≤ 5
  len : 1 ≤ lots.length ∧ lots.length ≤ 6
  lot : ∀ l ∈ lots, VLot n l ∧ l ≠ []
  mem : ∀ l ∈ lots, l ∈ isrt leN (subs n)
  inc : (lots.map (place n)).Pairwise (· < ·)
  cov : ∀ j < n, ∃ l ∈ lots, ((j : Nat) : Int) ∈ l
theorem index_ev {n : Nat} {lot : List Int} (h5 : n ≤ 5) (hm : lot ∈ isrt leN (subs n)) {ρ : Rho} {i j : Nat} (hi : ρ[i]? = some (.dat (.int (n : Nat)))) (hj : ρ[j]? = some (.dat (eI lot))) : eMeth dIndex (eFn 1 m_lots_of (aCons (eVar i) aNil)) (aCons (eVar j) aNil) ρ = some (.int (place n lot)) := by
  have e1 : eFn 1 m_lots_of (aCons (eVar i) aNil) ρ = some (eL (isrt leN (subs n))) := eFn_of (a1 (v_of hi) a0) (lots_of_ev n h5)
  have e2 : aCons (eVar j) aNil ρ = some [eI lot] := a1 (v_of hj) a0
  rw [eMeth_ev, e1]
  show ((aCons (eVar j) aNil ρ).bind _) = _
  rw [e2]
  have hf : ((isrt leN (subs n)).map eI).findIdx (fun z => PyData.eqv z (eI lot)) = place n lot := by
    unfold place
    generalize isrt leN (subs n) = xs
    induction xs with
    | nil => rfl
    | cons x xs ih => rw [List.map_cons, List.findIdx_cons, List.findIdx_cons, ih, eqv_eI]
  have hlt : place n lot < (isrt leN (subs n)).length := List.findIdx_lt_length_of_exists ⟨lot, hm, by simp⟩
  show (if _ then _ else _) = _
  rw [hf, if_pos ⟨(sh_eL _).shaped (by decide), (sh_eI _).shaped (by decide), by rw [List.length_map]; exact hlt⟩]
/-- what both checks of lots ask, by what is walked -/
theorem is_many_ev {n : Nat} (h : 1 ≤ n ∧ n ≤ 5) : m_is_many [.int (n : Nat)] = some (.bool true) := by
  rw [is_many_int, decide_eq_true (by omega)]
theorem check_many_ev {n : Nat} (h : 1 ≤ n ∧ n ≤ 5) : m_check_many [.int (n : Nat)] = some .none := by
  refine runP_next (ρ1 := start0 N_check_many.length [.int (n : Nat)]) (if_f (D := sNext) ?_ rfl)
  have e1 : eFn 1 m_is_many (aCons (eVar 0) aNil) (start0 N_check_many.length [.int (n : Nat)]) = some (.bool true) := eFn_of (a1 v_of a0) (is_many_ev h)
  rw [bNot_ev, bOf_ev, e1]
  rfl
theorem tgT2 (i j : Nat) (d e : PyData) (ρ : Rho) : tgT [i, j] (.tuple [d, e]) ρ = some ((ρ.set i (.dat d)).set j (.dat e)) := rfl
theorem are_parts_by_ev {n : Nat} {ps : List Part} (hp : ∀ p ∈ ps, VPart n p) (h : VLots n (ps.map (·.1))) : m_are_parts_by [.int (n : Nat), eS ps] = some (.bool true) := by
  obtain ⟨l0, l1⟩ := h.len
  rw [List.length_map] at l0 l1
  have a : (1 : Int) ≤ (ps.length : Int) := by omega
  have b : (ps.length : Int) ≤ 6 := by omega
  have all : eCall dAll (aCons (eLC (iLst (eVar 1)) (tgN 6) bYes (eFn 2 m_is_part_by (aCons (eVar 0) (aCons (eVar 6) aNil))) [6]) aNil) (start0 N_are_parts_by.length [.int (n : Nat), eS ps]) = some (.bool true) := by
    refine eCall_of (a1 (d := .list (ps.map fun _ => .bool true)) ?_ a0) (by rw [dAll_map (fun _ => true)]; simp)
    exact eLC_all eP (fun _ => .bool true) ps (iLst_of v_of) (fun p hp' => ⟨_, rfl, eFn_of (a1 v_of (a1 v_of a0)) (is_part_by_ev (hp p hp'))⟩) rfl
  have places : eLC (iLst (eVar 1)) (tgT [3, 4]) bYes (eMeth dIndex (eFn 1 m_lots_of (aCons (eVar 0) aNil)) (aCons (eVar 3) aNil)) [3, 4] (start0 N_are_parts_by.length [.int (n : Nat), eS ps]) = some (.list ((ps.map fun p => place n p.1).map fun k : Nat => PyData.int (k : Nat))) := by
    refine eLC_all eP (fun p => PyData.int (place n p.1 : Nat)) ps (iLst_of v_of) (fun p hp' => ⟨_, rfl, ?_⟩) (hz := by rw [List.map_map]; rfl)
    exact index_ev h.n1.2 (h.mem p.1 (List.mem_map.mpr ⟨p, hp', rfl⟩)) rfl rfl
  refine runQ (seqQ (if_f (D := sNext) ?_ rfl) (seqQ (if_f (D := sNext) ?_ rfl) (seqQ (setD_of places) (seqQ (if_f (D := sNext) ?_ rfl) (retQ ?_)))))
  · simp [start0, isTy, noScr, eS, a, b]
  · rw [bNot_ev, bOf_ev, all]
    rfl
  · rw [bNot_ev, bOf_ev]
    have inc := incr_of (ρ := (start0 N_are_parts_by.length [.int (n : Nat), eS ps]).set 2 (.dat (.list ((ps.map fun p => place n p.1).map fun k : Nat => PyData.int (k : Nat))))) (i := 2) (k := 7) (fun k : Nat => PyData.int (k : Nat)) (ps.map fun p => place n p.1) rfl (by decide) (by simp [start0]) (by rw [List.length_map]; omega) fun j x y h1 h2 => by
      have hi := h.inc
      rw [List.map_map] at hi
      have := pw_adj hi h1 h2
      rw [dLt_int, decide_eq_true (by omega)]
    rw [inc]
    rfl
  · refine eCall_of (a1 (d := .list ((List.range n).map fun _ => .bool true)) ?_ a0) (by rw [dAll_map (fun _ => true)]; simp)
    refine eLC_all (fun j : Nat => PyData.int (j : Nat)) (fun _ => .bool true) (List.range n) (iRange1_of v_of (by have := h.n1; omega)) (fun j hj => ⟨_, rfl, ?_⟩) rfl
    refine eCall_of (a1 (d := .list (ps.map fun p => .bool (decide (((j : Nat) : Int) ∈ p.1)))) ?_ a0) ?_
    · exact eLC_all eP (fun p => .bool (decide (((j : Nat) : Int) ∈ p.1))) ps (iLst_of v_of) (fun p hp' => ⟨_, rfl, bin_of v_of v_of (dIn_int false _ _)⟩) rfl
    · rw [dAny_map fun p : Part => decide (((j : Nat) : Int) ∈ p.1)]
      obtain ⟨l, hl, hj'⟩ := h.cov j (List.mem_range.mp hj)
      obtain ⟨p, hp', rfl⟩ := List.mem_map.mp hl
      have : ps.any (fun p => decide (((j : Nat) : Int) ∈ p.1)) = true := List.any_eq_true.mpr ⟨p, hp', decide_eq_true hj'⟩
      rw [this]
theorem check_parts_ev {n : Nat} {ps : List Part} (hp : ∀ p ∈ ps, VPart n p) (h : VLots n (ps.map (·.1))) : m_check_parts [.int (n : Nat), eS ps] = some .none := by
  refine runP_next (ρ1 := start0 N_check_parts.length [.int (n : Nat), eS ps]) (seq_of (dropD_of (eFn_of (a1 v_of a0) (check_many_ev h.n1))) (if_f (D := sNext) ?_ rfl))
  have e1 : eFn 2 m_are_parts_by (aCons (eVar 0) (aCons (eVar 1) aNil)) (start0 N_check_parts.length [.int (n : Nat), eS ps]) = some (.bool true) := eFn_of (a1 v_of (a1 v_of a0)) (are_parts_by_ev hp h)
  rw [bNot_ev, bOf_ev, e1]
  rfl
theorem are_joins_by_ev {n : Nat} {lots : List (List Int)} (h : VLots n lots) : m_are_joins_by [.int (n : Nat), eL lots] = some (.bool true) := by
  obtain ⟨l0, l1⟩ := h.len
  have a : (1 : Int) ≤ (lots.length : Int) := by omega
  have b : (lots.length : Int) ≤ 6 := by omega
  have all : eCall dAll (aCons (eLC (iLst (eVar 1)) (tgN 3) bYes (eAnd (eFn 2 m_is_lot_by (aCons (eVar 0) (aCons (eVar 3) aNil))) (eBin dNe (eVar 3) (eLst aNil))) [3]) aNil) (start0 N_are_joins_by.length [.int (n : Nat), eL lots]) = some (.bool true) := by
    refine eCall_of (a1 (d := .list (lots.map fun _ => .bool true)) ?_ a0) (by rw [dAll_map (fun _ => true)]; simp)
    refine eLC_all eI (fun _ => .bool true) lots (iLst_of v_of) (fun l hl => ⟨_, rfl, ?_⟩) rfl
    obtain ⟨v1, v2⟩ := h.lot l hl
    rw [eAnd_ev]
    have e1 : eFn 2 m_is_lot_by (aCons (eVar 0) (aCons (eVar 3) aNil)) ((wipeR (start0 N_are_joins_by.length [.int (n : Nat), eL lots]) [3]).set 3 (.dat (eI l))) = some (.bool true) := eFn_of (a1 v_of (a1 v_of a0)) (is_lot_by_ev v1)
    have e2 : eBin dNe (eVar 3) (eLst aNil) ((wipeR (start0 N_are_joins_by.length [.int (n : Nat), eL lots]) [3]).set 3 (.dat (eI l))) = some (.bool true) := bin_of v_of (e := eI []) (lst_of a0 (by decide)) (by rw [dNe_eI, decide_eq_false v2]; rfl)
    rw [bOf_ev, bOf_ev, e1, e2]
    rfl
  have places : eLC (iLst (eVar 1)) (tgN 3) bYes (eMeth dIndex (eFn 1 m_lots_of (aCons (eVar 0) aNil)) (aCons (eVar 3) aNil)) [3] (start0 N_are_joins_by.length [.int (n : Nat), eL lots]) = some (.list ((lots.map (place n)).map fun k : Nat => PyData.int (k : Nat))) := by
    refine eLC_all eI (fun l => PyData.int (place n l : Nat)) lots (iLst_of v_of) (fun p hp' => ⟨_, rfl, ?_⟩) (hz := by rw [List.map_map]; rfl)
    exact index_ev h.n1.2 (h.mem p hp') rfl rfl
  refine runQ (seqQ (if_f (D := sNext) ?_ rfl) (seqQ (if_f (D := sNext) ?_ rfl) (seqQ (setD_of places) (seqQ (if_f (D := sNext) ?_ rfl) (retQ ?_)))))
  · simp [start0, isTy, noScr, a, b]
  · rw [bNot_ev, bOf_ev, all]
    rfl
  · rw [bNot_ev, bOf_ev]
    have inc := incr_of (ρ := (start0 N_are_joins_by.length [.int (n : Nat), eL lots]).set 2 (.dat (.list ((lots.map (place n)).map fun k : Nat => PyData.int (k : Nat))))) (i := 2) (k := 5) (fun k : Nat => PyData.int (k : Nat)) (lots.map (place n)) rfl (by decide) (by simp [start0]) (by rw [List.length_map]; omega) fun j x y h1 h2 => by
      have := pw_adj h.inc h1 h2
      rw [dLt_int, decide_eq_true (by omega)]
    rw [inc]
    rfl
  · refine eCall_of (a1 (d := .list ((List.range n).map fun _ => .bool true)) ?_ a0) (by rw [dAll_map (fun _ => true)]; simp)
    refine eLC_all (fun j : Nat => PyData.int (j : Nat)) (fun _ => .bool true) (List.range n) (iRange1_of v_of (by have := h.n1; omega)) (fun j hj => ⟨_, rfl, ?_⟩) rfl
    refine eCall_of (a1 (d := .list (lots.map fun l => .bool (decide (((j : Nat) : Int) ∈ l)))) ?_ a0) ?_
    · exact eLC_all eI (fun l => .bool (decide (((j : Nat) : Int) ∈ l))) lots (iLst_of v_of) (fun p hp' => ⟨_, rfl, bin_of v_of v_of (dIn_int false _ _)⟩) rfl
    · rw [dAny_map fun l : List Int => decide (((j : Nat) : Int) ∈ l)]
      obtain ⟨l, hl, hj'⟩ := h.cov j (List.mem_range.mp hj)
      have : lots.any (fun l => decide (((j : Nat) : Int) ∈ l)) = true := List.any_eq_true.mpr ⟨l, hl, decide_eq_true hj'⟩
      rw [this]
theorem check_joins_ev {n : Nat} {lots : List (List Int)} (h : VLots n lots) : m_check_joins [.int (n : Nat), eL lots] = some .none := by
  refine runP_next (ρ1 := start0 N_check_joins.length [.int (n : Nat), eL lots]) (seq_of (dropD_of (eFn_of (a1 v_of a0) (check_many_ev h.n1))) (if_f (D := sNext) ?_ rfl))
  have e1 : eFn 2 m_are_joins_by (aCons (eVar 0) (aCons (eVar 1) aNil)) (start0 N_check_joins.length [.int (n : Nat), eL lots]) = some (.bool true) := eFn_of (a1 v_of (a1 v_of a0)) (are_joins_by_ev h)
  rw [bNot_ev, bOf_ev, e1]
  rfl
end K84
end

section
set_option Elab.async false
set_option linter.all false
set_option maxRecDepth 100000
set_option maxHeartbeats 1000000
namespace K84
open PySem PySem.Spec PyProof.Rows PD PM
/-! ### evened_parts, joined_rows -/
theorem VPart.fit {n : Nat} {p : Part} (h : VPart n p) : Fit p := fun l hl => ((h.let_ l hl).1).symm
theorem tot_le : ∀ {ps : List Part}, (∀ p ∈ ps, p.2.length ≤ 12) → tot ps ≤ 12 * ps.length
  | [], _ => Nat.le_refl _
  | p :: ps, h => by
    have h0 := h p List.mem_cons_self
    have ih := tot_le fun q hq => h q (List.mem_cons_of_mem _ hq)
    unfold tot at ih ⊢
    rw [List.map_cons, List.sum_cons, List.length_cons]
    omega
theorem evened_parts_ev {n : Nat} {ps : List Part} (hp : ∀ p ∈ ps, VPart n p) (h : VLots n (ps.map (·.1))) : ∃ res, m_evened_parts [.int (n : Nat), eS ps] = some (eS res) ∧ Under res ps ∧ Cons res ∧ (Cons ps → res = ps) ∧ ∀ lots G, lots = ps.map (·.1) → Sup lots G → In G ps → In G res := by
  have l1 := h.len.2
  rw [List.length_map] at l1
  have ht := tot_le fun p hp' => (hp p hp').rows.2
  obtain ⟨res, e, r⟩ := evened_by_ev ps (by have : (1000000 : Nat) = lim := rfl; omega) (fun p hp' => (hp p hp').fit) (by omega)
  exact ⟨res, runQ (seqQ (dropD_of (eFn_of (a1 v_of (a1 v_of a0)) (check_parts_ev hp h))) (retQ (eFn_of (a1 v_of a0) e))), r⟩
theorem nodup_sub_len {α : Type} [DecidableEq α] : ∀ {l m : List α}, l.Nodup → (∀ x ∈ l, x ∈ m) → l.length ≤ m.length
  | [], m, _, _ => Nat.zero_le _
  | x :: l, m, nd, h => by
    rw [List.nodup_cons] at nd
    have hx := h x List.mem_cons_self
    have ih := nodup_sub_len (l := l) (m := m.erase x) nd.2 fun y hy => (List.mem_erase_of_ne (fun e : y = x => nd.1 (e ▸ hy))).mpr (h y (List.mem_cons_of_mem _ hy))
    rw [List.length_erase_of_mem hx] at ih
    have : 0 < m.length := List.length_pos_of_mem hx
    rw [List.length_cons]
    omega
/-- all rows of n letters 0 and 1 -/
def bits : Nat → List (List Int)
  | 0 => [[]]
  | n + 1 => (bits n).flatMap fun l => [0 :: l, 1 :: l]
theorem bits_mem : ∀ {n : Nat} {l : List Int}, l ∈ bits n ↔ l.length = n ∧ ∀ x ∈ l, x = 0 ∨ x = 1
  | 0, l => by
    unfold bits
    rw [List.mem_singleton]
    constructor
    · rintro rfl; simp
    · rintro ⟨h, _⟩; exact List.length_eq_zero_iff.mp h
  | n + 1, l => by
    unfold bits
    rw [List.mem_flatMap]
    constructor
    · rintro ⟨m, hm, hl⟩
      obtain ⟨h1, h2⟩ := bits_mem.mp hm
      simp only [List.mem_cons, List.not_mem_nil, or_false] at hl
      rcases hl with rfl | rfl
      · exact ⟨by simp [h1], fun x hx => (List.mem_cons.mp hx).elim (fun e => .inl e) (h2 x)⟩
      · exact ⟨by simp [h1], fun x hx => (List.mem_cons.mp hx).elim (fun e => .inr e) (h2 x)⟩
    · rintro ⟨h1, h2⟩
      cases l with
      | nil => simp at h1
      | cons x l =>
        refine ⟨l, bits_mem.mpr ⟨by simpa using h1, fun y hy => h2 y (List.mem_cons_of_mem _ hy)⟩, ?_⟩
        rcases h2 x List.mem_cons_self with rfl | rfl <;> simp
theorem bits_len : ∀ n, (bits n).length = 2 ^ n
  | 0 => rfl
  | n + 1 => by
    unfold bits
    rw [List.length_flatMap]
    have : (bits n).map (fun l => ([0 :: l, 1 :: l] : List (List Int)).length) = (bits n).map fun _ => 2 := rfl
    rw [this, List.map_const', List.sum_replicate_nat, bits_len n, Nat.pow_succ]
theorem bits_nodup : ∀ n, (bits n).Nodup
  | 0 => by simp [bits]
  | n + 1 => by
    unfold bits
    show List.Pairwise _ _
    rw [List.pairwise_flatMap]
    refine ⟨fun l _ => by simp, ?_⟩
    refine List.Pairwise.imp ?_ (bits_nodup n)
    intro a b hne x hx y hy e
    subst e
    simp only [List.mem_cons, List.not_mem_nil, or_false] at hx hy
    rcases hx with rfl | rfl <;> rcases hy with e | e <;> cases e <;> exact hne rfl
/-- letters 0 and 1 alone -/
def Bin (ps : List Part) : Prop := ∀ p ∈ ps, ∀ l ∈ p.2, ∀ x ∈ l, x = 0 ∨ x = 1
instance (many : Nat) (ps : List Part) (l : List Int) : Decidable (Full many ps l) := by unfold Full; infer_instance
theorem full_bits {n : Nat} {ps : List Part} (hb : Bin ps) (hc : Cover n ps) {l : List Int} (h : Full n ps l) : l ∈ bits n := by
  refine bits_mem.mpr ⟨h.1, fun x hx => ?_⟩
  obtain ⟨j, hj⟩ := List.getElem?_of_mem hx
  have hlt : j < n := by rw [← h.1]; exact getElem_len hj
  obtain ⟨p, hp, t, ht, e⟩ := hc j hlt
  refine hb p hp _ (h.2 p hp) x ?_
  unfold restr
  rw [List.mem_map]
  refine ⟨t, ht, ?_⟩
  rw [e, List.getD_eq_getElem?_getD, hj]
  rfl
def fulls (n : Nat) (ps : List Part) : List (List Int) := (bits n).filter fun l => decide (Full n ps l)
theorem fulls_nodup (n : Nat) (ps : List Part) : (fulls n ps).Nodup := (bits_nodup n).filter _
theorem fulls_mem {n : Nat} {ps : List Part} (hb : Bin ps) (hc : Cover n ps) {l : List Int} : l ∈ fulls n ps ↔ Full n ps l := by
  unfold fulls
  rw [List.mem_filter, decide_eq_true_eq]
  exact ⟨fun h => h.2, fun h => ⟨full_bits hb hc h, h⟩⟩
theorem same_len {α : Type} [DecidableEq α] {l m : List α} (h1 : l.Nodup) (h2 : m.Nodup) (h : ∀ x, x ∈ l ↔ x ∈ m) : l.length = m.length :=
  Nat.le_antisymm (nodup_sub_len h1 fun x hx => (h x).mp hx) (nodup_sub_len h2 fun x hx => (h x).mpr hx)
theorem pw_nodup {l : List (List Int)} (h : l.Pairwise (· < ·)) : l.Nodup := h.imp fun {a b} hab e => by
  subst e
  exact List.lt_irrefl a hab
theorem pw_nodupI {l : List Int} (h : l.Pairwise (· < ·)) : l.Nodup := h.imp fun {a b} hab e => by omega
theorem vlot_ok {n : Nat} {lot : List Int} (h : VLot n lot) : LotOk n lot := ⟨by
  show List.Pairwise _ _
  rw [List.pairwise_map]
  refine List.Pairwise.imp_of_mem ?_ h.inc
  intro a b ha hb hab
  have := h.rng a ha
  have := h.rng b hb
  omega, h.rng⟩
theorem cover_of {n : Nat} {ps : List Part} (h : VLots n (ps.map (·.1))) : Cover n ps := fun j hj => by
  obtain ⟨l, hl, hj'⟩ := h.cov j hj
  obtain ⟨p, hp, rfl⟩ := List.mem_map.mp hl
  exact ⟨p, hp, _, hj', by simp⟩
/-- joined_rows, of parts of few rows of 0 and 1 -/
theorem joined_rows_ev {n : Nat} {ps : List Part} (hp : ∀ p ∈ ps, VPart n p) (h : VLots n (ps.map (·.1))) (h4 : ∀ p ∈ ps, p.2.length ≤ 4) (hb : Bin ps) :
    ∃ js : List (List Int), m_joined_rows [.int (n : Nat), eS ps] = some (eL js) ∧ m_check_few [.int (n : Nat), eS ps] = some (eL js) ∧ js.Nodup ∧ (∀ l, l ∈ js ↔ Full n ps l) ∧ js.length = (fulls n ps).length := by
  have l1 := h.len.2
  rw [List.length_map] at l1
  have hc := cover_of h
  obtain ⟨js, e, nd, mem⟩ := joined_by_ev (many := n) (ps := ps) (fun p hp' => ⟨vlot_ok (hp p hp').lot, (hp p hp').fit, h4 p hp', pw_nodup (hp p hp').inc⟩) l1 (by have := h.n1; omega) hc
  have hl : js.length = (fulls n ps).length := same_len nd (fulls_nodup n ps) fun l => (mem l).trans (fulls_mem hb hc).symm
  have le : (fulls n ps).length ≤ 32 := by
    unfold fulls
    refine Nat.le_trans (List.length_filter_le _ _) ?_
    rw [bits_len]
    exact (Nat.pow_le_pow_right (by decide) h.n1.2 : 2 ^ n ≤ 2 ^ 5)
  have few : m_check_few [.int (n : Nat), eS ps] = some (eL js) := by
    refine runQ (seqQ (dropD_of (eFn_of (a1 v_of (a1 v_of a0)) (check_parts_ev hp h))) (seqQ (setD_of (eFn_of (a1 v_of (a1 v_of a0)) e)) (seqQ (if_f (D := sNext) ?_ rfl) (retQ v_of))))
    refine b_of (bin_of (eCall_of (a1 v_of a0) (dLen_list _)) rfl ?_)
    rw [dGt_int, decide_eq_false (by rw [List.length_map]; omega)]
  exact ⟨js, runQ (retQ (eFn_of (a1 v_of (a1 v_of a0)) few)), few, nd, mem, hl⟩
end K84
end

section
set_option Elab.async false
set_option linter.all false
set_option maxRecDepth 100000
set_option maxHeartbeats 1000000
namespace K84
open PySem PySem.Spec PyProof.Rows PD PM
/-! ### fits_all -/
def fitP (row : Row) (p : Part) : Bool := p.2.any fun l => (putGo row (p.1.zip l)).isSome
def fitsB (ps : List Part) (row : Row) : Bool := ps.all (fitP row)
theorem fit_test {row : Row} {p : Part} {ps : List Part} {a4 : Ent} (hf : Fit p) (hr : ∀ t ∈ p.1, 0 ≤ t ∧ t < row.length) : bNot (bOf (eCall dAny (aCons (eLC (iLst (eVar 3)) (tgN 4) bYes (eBin dNotN (eFn 3 m_put_in (aCons (eVar 1) (aCons (eVar 2) (aCons (eVar 4) aNil)))) (eC .none)) [4]) aNil))) [.dat (eS ps), .dat (eO row), .dat (eI p.1), .dat (eL p.2), a4] = some (!fitP row p) := by
  have e1 : eCall dAny (aCons (eLC (iLst (eVar 3)) (tgN 4) bYes (eBin dNotN (eFn 3 m_put_in (aCons (eVar 1) (aCons (eVar 2) (aCons (eVar 4) aNil)))) (eC .none)) [4]) aNil) [.dat (eS ps), .dat (eO row), .dat (eI p.1), .dat (eL p.2), a4] = some (.bool (fitP row p)) := by
    refine eCall_of (a1 (d := .list (p.2.map fun l => .bool ((putGo row (p.1.zip l)).isSome))) ?_ a0) (dAny_map _ _)
    refine eLC_all eI (fun l => .bool ((putGo row (p.1.zip l)).isSome)) p.2 (iLst_of v_of) (fun l hl => ⟨_, rfl, ?_⟩) rfl
    refine bin_of (eFn_of (a1 v_of (a1 v_of (a1 v_of a0))) (put_in_ev row p.1 l (hf l hl) hr)) rfl ?_
    cases putGo row (p.1.zip l) <;> rfl
  rw [bNot_ev, bOf_ev, e1]
  rfl
theorem fits_loop {n : Nat} (row : Row) (P : List Part) (hr : row.length = n) : ∀ (ps : List Part) (a2 a3 a4 : Ent), (∀ p ∈ ps, LotOk n p.1 ∧ Fit p) →
    (fitsB ps row = true → ∃ b2 b3 b4, forGo (tgT [2, 3]) (sIf (bNot (bOf (eCall dAny (aCons (eLC (iLst (eVar 3)) (tgN 4) bYes (eBin dNotN (eFn 3 m_put_in (aCons (eVar 1) (aCons (eVar 2) (aCons (eVar 4) aNil)))) (eC .none)) [4]) aNil)))) (sRet (eC (.bool false))) sNext) (ps.map eP) [.dat (eS P), .dat (eO row), a2, a3, a4] = some (.next, [.dat (eS P), .dat (eO row), b2, b3, b4])) ∧
    (fitsB ps row = false → ∃ ρ', forGo (tgT [2, 3]) (sIf (bNot (bOf (eCall dAny (aCons (eLC (iLst (eVar 3)) (tgN 4) bYes (eBin dNotN (eFn 3 m_put_in (aCons (eVar 1) (aCons (eVar 2) (aCons (eVar 4) aNil)))) (eC .none)) [4]) aNil)))) (sRet (eC (.bool false))) sNext) (ps.map eP) [.dat (eS P), .dat (eO row), a2, a3, a4] = some (.ret (.bool false), ρ'))
  | [], a2, a3, a4, _ => ⟨fun _ => ⟨a2, a3, a4, rfl⟩, fun h => by simp [fitsB] at h⟩
  | p :: ps, a2, a3, a4, h => by
    obtain ⟨hl, hf⟩ := h p List.mem_cons_self
    have test := fit_test (row := row) (p := p) (ps := P) (a4 := a4) hf (by rw [hr]; exact hl.2)
    obtain ⟨i1, i2⟩ := fits_loop row P hr ps (.dat (eI p.1)) (.dat (eL p.2)) a4 fun q hq => h q (List.mem_cons_of_mem _ hq)
    have tg : tgT [2, 3] (eP p) [.dat (eS P), .dat (eO row), a2, a3, a4] = some [.dat (eS P), .dat (eO row), .dat (eI p.1), .dat (eL p.2), a4] := rfl
    unfold fitsB at i1 i2 ⊢
    rw [List.all_cons, List.map_cons, forGo, tg]
    cases hp : fitP row p with
    | true =>
      rw [hp] at test
      have st := if_f (B := sRet (eC (.bool false))) (D := sNext) (q := some (.next, [.dat (eS P), .dat (eO row), .dat (eI p.1), .dat (eL p.2), a4])) test rfl
      simp only [Option.bind_some, Bool.true_and]
      rw [st]
      exact ⟨i1, i2⟩
    | false =>
      rw [hp] at test
      have st := if_t (B := sRet (eC (.bool false))) (D := sNext) (q := some (.ret (.bool false), [.dat (eS P), .dat (eO row), .dat (eI p.1), .dat (eL p.2), a4])) test rfl
      simp only [Option.bind_some, Bool.false_and]
      rw [st]
      exact ⟨fun z => (by cases z), fun _ => ⟨_, rfl⟩⟩
theorem fits_all_ev {n : Nat} {ps : List Part} {row : Row} (hr : row.length = n) (h : ∀ p ∈ ps, LotOk n p.1 ∧ Fit p) : m_fits_all [eS ps, eO row] = some (.bool (fitsB ps row)) := by
  obtain ⟨i1, i2⟩ := fits_loop row ps hr ps .unk .unk .unk h
  cases e : fitsB ps row with
  | true =>
    obtain ⟨b2, b3, b4, hgo⟩ := i1 e
    exact runQ (seqQ (for_of (mI_of (iLst_of v_of)) hgo) (retQ rfl))
  | false =>
    obtain ⟨ρ', hgo⟩ := i2 e
    exact runQ (seqQ_ret ⟨ρ', for_of (mI_of (iLst_of v_of)) hgo⟩)
/-! ### steps_by, typed -/
def lettersW (ps : List Part) (t : Int) : List Int := sortU ((ps.filter fun p => decide (t ∈ p.1)).flatMap fun p => p.2.map fun l => l.getD (p.1.findIdx fun z => decide (z = t)) 0)
def stepW (ps : List Part) (found : List Row) (t : Int) : List Row := (found.flatMap fun r => (lettersW ps t).map fun x => r.set t.toNat (some x)).filter (fitsB ps)
theorem fitP_iff {n : Nat} {row : Row} {p : Part} (hr : row.length = n) (hl : LotOk n p.1) (hf : Fit p) : fitP row p = true ↔ ∃ l ∈ p.2, ∀ z ∈ p.1.zip l, row[z.1.toNat]? = some none ∨ row[z.1.toNat]? = some (some z.2) := by
  unfold fitP
  rw [List.any_eq_true]
  constructor
  · rintro ⟨l, hl', hs⟩
    obtain ⟨r, hr'⟩ := Option.isSome_iff_exists.mp hs
    refine ⟨l, hl', fun z hz => ?_⟩
    exact (((putGo_iff (p.1.zip l) row r (fun z hz => by
      have := hl.2 z.1 (List.of_mem_zip hz).1
      omega) (by rw [zip_fst (hf l hl')]; exact hl.1)).mp hr').2.1 z hz).1
  · rintro ⟨l, hl', hz⟩
    refine ⟨l, hl', ?_⟩
    -- by the pairs, one after another
    have go : ∀ (zs : List (Int × Int)) (r : Row), (zs.map fun z => z.1.toNat).Nodup → (∀ z ∈ zs, r[z.1.toNat]? = some none ∨ r[z.1.toNat]? = some (some z.2)) → (putGo r zs).isSome = true := by
      intro zs
      induction zs with
      | nil => intro r _ _; rfl
      | cons z zs ih =>
        intro r nd h
        rw [List.map_cons, List.nodup_cons] at nd
        have hne : ∀ y ∈ zs, z.1.toNat ≠ y.1.toNat := fun y hy e => nd.1 (List.mem_map.mpr ⟨y, hy, e.symm⟩)
        have h2 := ih (r.set z.1.toNat (some z.2)) nd.2 fun y hy => by
          rw [List.getElem?_set_ne (hne y hy)]
          exact h y (List.mem_cons_of_mem _ hy)
        obtain ⟨t, x⟩ := z
        unfold putGo
        rcases h (t, x) List.mem_cons_self with h1 | h1
        · simp only at h1
          rw [h1]
          exact h2
        · simp only at h1
          rw [h1]
          simp only [if_true]
          exact h2
    exact go _ _ (by rw [zip_fst (hf l hl')]; exact hl.1) hz
structure PSpec (n : Nat) (ps : List Part) (D : List Int) (r : Row) : Prop where
  len : r.length = n
  yes : ∀ t ∈ D, ∃ x, r[t.toNat]? = some (some x) ∧ x ∈ lettersW ps t
  no : ∀ j < n, (∀ t ∈ D, t.toNat ≠ j) → r[j]? = some none
  fit : fitsB ps r = true
theorem fits_less {n : Nat} {ps : List Part} (ok : ∀ p ∈ ps, LotOk n p.1 ∧ Fit p) {r r0 : Row} (hr : r.length = n) (hr0 : r0.length = n) (h : ∀ j < n, r0[j]? = some none ∨ r0[j]? = r[j]?) (hf : fitsB ps r = true) : fitsB ps r0 = true := by
  unfold fitsB at hf ⊢
  rw [List.all_eq_true] at hf ⊢
  intro p hp
  obtain ⟨hl, hfit⟩ := ok p hp
  obtain ⟨l, hl', hz⟩ := (fitP_iff hr hl hfit).mp (hf p hp)
  refine (fitP_iff hr0 hl hfit).mpr ⟨l, hl', fun z hzz => ?_⟩
  have := hl.2 z.1 (List.of_mem_zip hzz).1
  rcases h z.1.toNat (by omega) with e | e
  · exact .inl e
  · rw [e]; exact hz z hzz
theorem step_spec {n : Nat} {ps : List Part} (ok : ∀ p ∈ ps, LotOk n p.1 ∧ Fit p) {D : List Int} {t : Int} {found : List Row} (ht : 0 ≤ t ∧ t < n) (hD : ∀ s ∈ D, s.toNat ≠ t.toNat) (h : ∀ r, r ∈ found ↔ PSpec n ps D r) : ∀ r, r ∈ stepW ps found t ↔ PSpec n ps (D ++ [t]) r := by
  intro r
  have htn : t.toNat < n := by omega
  unfold stepW
  rw [List.mem_filter, List.mem_flatMap]
  constructor
  · rintro ⟨⟨r0, hr0, hr⟩, hfit⟩
    obtain ⟨x, hx, rfl⟩ := List.mem_map.mp hr
    have sp := (h r0).mp hr0
    refine ⟨by rw [List.length_set, sp.len], fun s hs => ?_, fun j hj hno => ?_, hfit⟩
    · rcases List.mem_append.mp hs with hs | hs
      · rw [List.getElem?_set_ne (Ne.symm (hD s hs))]
        exact sp.yes s hs
      · rw [List.mem_singleton.mp hs, List.getElem?_set_self (by rw [sp.len]; exact htn)]
        exact ⟨x, rfl, hx⟩
    · rw [List.getElem?_set_ne (hno t (by simp))]
      exact sp.no j hj fun s hs => hno s (by simp [hs])
  · intro sp
    obtain ⟨x, hx, hxl⟩ := sp.yes t (by simp)
    refine ⟨⟨r.set t.toNat none, (h _).mpr ⟨by rw [List.length_set, sp.len], fun s hs => ?_, fun j hj hno => ?_, ?_⟩, List.mem_map.mpr ⟨x, hxl, ?_⟩⟩, sp.fit⟩
    · rw [List.getElem?_set_ne (Ne.symm (hD s hs))]
      exact sp.yes s (by simp [hs])
    · by_cases e : t.toNat = j
      · rw [← e, List.getElem?_set_self (by rw [sp.len]; exact htn)]
      · rw [List.getElem?_set_ne e]
        refine sp.no j hj fun s hs => ?_
        rcases List.mem_append.mp hs with hs | hs
        · exact hno s hs
        · rw [List.mem_singleton.mp hs]; exact e
    · refine fits_less ok sp.len (by rw [List.length_set, sp.len]) (fun j hj => ?_) sp.fit
      by_cases e : t.toNat = j
      · rw [← e, List.getElem?_set_self (by rw [sp.len]; exact htn)]; exact .inl rfl
      · rw [List.getElem?_set_ne e]; exact .inr rfl
    · rw [List.set_set]
      apply List.ext_getElem?
      intro j
      by_cases e : t.toNat = j
      · rw [← e, List.getElem?_set_self (by rw [sp.len]; exact htn), hx]
      · rw [List.getElem?_set_ne e]
theorem step_nodup {n : Nat} {ps : List Part} {D : List Int} {t : Int} {found : List Row} (ht : 0 ≤ t ∧ t < n) (hD : ∀ s ∈ D, s.toNat ≠ t.toNat) (h : ∀ r ∈ found, PSpec n ps D r) (nd : found.Nodup) : (stepW ps found t).Nodup := by
  have htn : t.toNat < n := by omega
  unfold stepW
  show List.Pairwise _ _
  refine List.Pairwise.filter _ ?_
  rw [List.pairwise_flatMap]
  refine ⟨fun r hr => ?_, ?_⟩
  · rw [List.pairwise_map]
    refine List.Pairwise.imp ?_ (sortU_pw _)
    intro x y hxy e
    have : (r.set t.toNat (some x))[t.toNat]? = (r.set t.toNat (some y))[t.toNat]? := congrArg (fun l : Row => l[t.toNat]?) e
    rw [List.getElem?_set_self (by rw [(h r hr).len]; exact htn), List.getElem?_set_self (by rw [(h r hr).len]; exact htn)] at this
    cases this
    omega
  · refine List.Pairwise.imp_of_mem ?_ nd
    intro a b ha hb hne x hx y hy e
    subst e
    obtain ⟨u, _, e1⟩ := List.mem_map.mp hx
    obtain ⟨v, _, e2⟩ := List.mem_map.mp hy
    refine hne ?_
    apply List.ext_getElem?
    intro j
    by_cases e : t.toNat = j
    · subst e
      rw [(h a ha).no _ htn hD, (h b hb).no _ htn hD]
    · have : (a.set t.toNat (some u))[j]? = (b.set t.toNat (some v))[j]? := congrArg (fun l : Row => l[j]?) (e1.trans e2.symm)
      rwa [List.getElem?_set_ne e, List.getElem?_set_ne e] at this
theorem steps_spec {n : Nat} {ps : List Part} (ok : ∀ p ∈ ps, LotOk n p.1 ∧ Fit p) : ∀ (rest D : List Int) (found : List Row), (∀ t ∈ D ++ rest, 0 ≤ t ∧ t < n) → ((D ++ rest).map Int.toNat).Nodup → (∀ r, r ∈ found ↔ PSpec n ps D r) → found.Nodup →
    (∀ r, r ∈ rest.foldl (stepW ps) found ↔ PSpec n ps (D ++ rest) r) ∧ (rest.foldl (stepW ps) found).Nodup
  | [], D, found, _, _, h, nd => ⟨by simpa using h, nd⟩
  | t :: rest, D, found, hr, hnd, h, nd => by
    have ht := hr t (by simp)
    have hD : ∀ s ∈ D, s.toNat ≠ t.toNat := fun s hs e => by
      rw [List.map_append, List.map_cons, List.nodup_append] at hnd
      exact hnd.2.2 _ (List.mem_map.mpr ⟨s, hs, rfl⟩) _ List.mem_cons_self e
    have := steps_spec ok rest (D ++ [t]) (stepW ps found t) (fun s hs => hr s (by simpa using hs)) (by simpa using hnd) (step_spec ok ht hD h) (step_nodup ht hD (fun r hr' => (h r).mp hr') nd)
    simpa using this
theorem steps_start {n : Nat} {ps : List Part} (ok : ∀ p ∈ ps, LotOk n p.1 ∧ Fit p) (hne : ∀ p ∈ ps, p.2 ≠ []) (r : Row) : r ∈ [List.replicate n (none : Option Int)] ↔ PSpec n ps [] r := by
  rw [List.mem_singleton]
  constructor
  · rintro rfl
    refine ⟨by simp, (fun t ht => nomatch ht), fun j hj _ => by rw [List.getElem?_replicate, if_pos hj], ?_⟩
    unfold fitsB
    rw [List.all_eq_true]
    intro p hp
    obtain ⟨hl, hf⟩ := ok p hp
    obtain ⟨l, hl'⟩ := List.exists_mem_of_ne_nil _ (hne p hp)
    refine (fitP_iff (by simp) hl hf).mpr ⟨l, hl', fun z hz => .inl ?_⟩
    have := hl.2 z.1 (List.of_mem_zip hz).1
    rw [List.getElem?_replicate, if_pos (by omega)]
  · intro sp
    apply List.ext_getElem?
    intro j
    by_cases hj : j < n
    · have e0 : r[j]? = some none := sp.no j hj (fun t ht => by cases ht)
      rw [e0, List.getElem?_replicate, if_pos hj]
    · rw [List.getElem?_eq_none (by rw [sp.len]; omega), List.getElem?_eq_none (by simp; omega)]
/-- with all things set, those that fit are the joined rows -/
theorem pspec_full {n : Nat} {ps : List Part} (ok : ∀ p ∈ ps, LotOk n p.1 ∧ Fit p) (hc : Cover n ps) {D : List Int} (hD : ∀ j < n, ((j : Nat) : Int) ∈ D) (hR : ∀ t ∈ D, 0 ≤ t ∧ t < n) (l : List Int) : PSpec n ps D (l.map some) ↔ Full n ps l := by
  constructor
  · intro sp
    refine (spec_full ok hc l).mp ⟨sp.len, fun p hp => ?_, fun j hj hno => ?_⟩
    · obtain ⟨hl, hf⟩ := ok p hp
      have := List.all_eq_true.mp sp.fit p hp
      obtain ⟨m, hm, hz⟩ := (fitP_iff sp.len hl hf).mp this
      refine ⟨m, hm, fun z hzz => ?_⟩
      rcases hz z hzz with e | e
      · rw [List.getElem?_map] at e
        obtain ⟨y, _, ey⟩ := Option.map_eq_some_iff.mp e
        cases ey
      · exact e
    · obtain ⟨p, hp, t, ht, e⟩ := hc j hj
      exact absurd e (hno p hp t ht)
  · intro hf
    have js := (spec_full ok hc l).mpr hf
    refine ⟨js.len, fun t ht => ?_, fun j hj hno => absurd (by simp) (hno (j : Int) (hD j hj)), ?_⟩
    · obtain ⟨h0, h1⟩ := hR t ht
      have hlt : t.toNat < l.length := by rw [hf.1]; omega
      obtain ⟨p, hp, s, hs, e⟩ := hc t.toNat (by omega)
      have est : s = t := by
        have := (ok p hp).1.2 s hs
        omega
      subst est
      refine ⟨l[s.toNat], by rw [List.getElem?_map, List.getElem?_eq_getElem hlt]; rfl, ?_⟩
      unfold lettersW
      rw [sortU_mem, List.mem_flatMap]
      refine ⟨p, List.mem_filter.mpr ⟨hp, decide_eq_true hs⟩, List.mem_map.mpr ⟨restr p.1 l, hf.2 p hp, ?_⟩⟩
      have hk : p.1.findIdx (fun z => decide (z = s)) < p.1.length := List.findIdx_lt_length_of_exists ⟨s, hs, by simp⟩
      have hk2 : p.1[p.1.findIdx (fun z => decide (z = s))] = s := by
        have := List.findIdx_getElem (w := hk)
        simpa using this
      rw [List.getD_eq_getElem?_getD]
      unfold restr
      rw [List.getElem?_map, List.getElem?_eq_getElem hk, hk2]
      rw [Option.map_some, Option.getD_some, List.getD_eq_getElem?_getD, List.getElem?_eq_getElem hlt]
      rfl
    · unfold fitsB
      rw [List.all_eq_true]
      intro p hp
      obtain ⟨hl, hfi⟩ := ok p hp
      obtain ⟨m, hm, hz⟩ := js.yes p hp
      exact (fitP_iff js.len hl hfi).mpr ⟨m, hm, fun z hzz => .inr (hz z hzz)⟩
theorem steps_count {n : Nat} {ps : List Part} (ok : ∀ p ∈ ps, LotOk n p.1 ∧ Fit p) (hne : ∀ p ∈ ps, p.2 ≠ []) (hc : Cover n ps) (hb : Bin ps) {D : List Int} (hD : ∀ j < n, ((j : Nat) : Int) ∈ D) (hR : ∀ t ∈ D, 0 ≤ t ∧ t < n) (hN : (D.map Int.toNat).Nodup) : (D.foldl (stepW ps) [List.replicate n none]).length = (fulls n ps).length := by
  obtain ⟨h1, h2⟩ := steps_spec ok D [] [List.replicate n none] (by simpa using hR) (by simpa using hN) (steps_start ok hne) (by simp)
  rw [List.nil_append] at h1
  have som : ∀ r ∈ D.foldl (stepW ps) [List.replicate n none], r = (un r).map some := fun r hr => by
    have sp := (h1 r).mp hr
    apply List.ext_getElem?
    intro j
    by_cases hj : j < n
    · obtain ⟨x, hx, _⟩ := sp.yes (j : Int) (hD j hj)
      rw [Int.toNat_natCast] at hx
      unfold un
      rw [List.getElem?_map, List.getElem?_map, hx]
      rfl
    · rw [List.getElem?_eq_none (by rw [sp.len]; omega), List.getElem?_eq_none (by rw [List.length_map, un, List.length_map, sp.len]; omega)]
  have e : ((D.foldl (stepW ps) [List.replicate n none]).map un).length = (fulls n ps).length := by
    refine same_len ?_ (fulls_nodup n ps) fun l => ?_
    · show List.Pairwise _ _
      rw [List.pairwise_map]
      refine List.Pairwise.imp_of_mem ?_ h2
      intro a b ha hb hne e
      exact hne (by rw [som a ha, som b hb, e])
    · rw [fulls_mem hb hc, List.mem_map]
      constructor
      · rintro ⟨r, hr, rfl⟩
        refine (pspec_full ok hc hD hR _).mp ?_
        rw [← som r hr]
        exact (h1 r).mp hr
      · intro hf
        exact ⟨l.map some, (h1 _).mpr ((pspec_full ok hc hD hR l).mpr hf), un_some l⟩
  rwa [List.length_map] at e
/-! ### steps_by: the mirror -/
theorem intsOf_ints (ns : List Int) : intsOf (ns.map PyData.int) = some ns := intsOf_map ns
theorem eSortU_of {F : Rho → Option PyData} {ρ : Rho} {ns : List Int} (h : F ρ = some (eI ns)) (hl : ns.length < 60) : eSortU F ρ = some (eI (sortU ns)) := by
  unfold eSortU
  rw [h]
  show ((intsOf (ns.map PyData.int)).bind _) = _
  rw [intsOf_ints]
  show (if _ then _ else _) = _
  rw [if_pos hl]
theorem app_of {i : Nat} {F : Rho → Option PyData} {ρ : Rho} {t : Bool} {ds : List PyData} {d : PyData} (ho : ρ[i]? = some (.own t ds)) (h : F ρ = some d) (hl : ds.length < lim) : sApp i (mD F) ρ = some (.next, ρ.set i (.own t (ds ++ [d]))) := by
  unfold sApp ownAt
  rw [ho]
  show ((mD F ρ).bind _) = _
  rw [mD_ev, h]
  show (match Ent.dat d, ρ[i]? with | .dat d, some (.own t ds) => _ | _, _ => _) = _
  rw [ho]
  show (if _ then _ else _) = _
  rw [if_pos hl]
theorem sortU_bin {ns : List Int} (h : ∀ x ∈ ns, x = 0 ∨ x = 1) : (sortU ns).length ≤ 2 := by
  refine nodup_sub_len (m := [0, 1]) (pw_nodupI (sortU_pw ns)) fun x hx => ?_
  rcases h x (sortU_mem.mp hx) with rfl | rfl <;> simp
theorem letters_bin {ps : List Part} (hf : ∀ p ∈ ps, Fit p) (hb : Bin ps) (t : Int) : (lettersW ps t).length ≤ 2 := by
  unfold lettersW
  refine sortU_bin fun x hx => ?_
  obtain ⟨p, hp, hx⟩ := List.mem_flatMap.mp hx
  obtain ⟨l, hl, rfl⟩ := List.mem_map.mp hx
  obtain ⟨hp, ht⟩ := List.mem_filter.mp hp
  have ht := of_decide_eq_true ht
  have hk : p.1.findIdx (fun z => decide (z = t)) < p.1.length := List.findIdx_lt_length_of_exists ⟨t, ht, by simp⟩
  have hk2 : p.1.findIdx (fun z => decide (z = t)) < l.length := by rw [← hf p hp l hl]; exact hk
  rw [List.getD_eq_getElem?_getD, List.getElem?_eq_getElem hk2]
  exact hb p hp l hl _ (List.getElem_mem hk2)
theorem flat_len {α β : Type} (f : α → List β) (k : Nat) : ∀ xs : List α, (∀ x ∈ xs, (f x).length ≤ k) → (xs.flatMap f).length ≤ xs.length * k
  | [], _ => by simp
  | x :: xs, h => by
    rw [List.flatMap_cons, List.length_append, List.length_cons, Nat.succ_mul]
    have := h x List.mem_cons_self
    have := flat_len f k xs fun y hy => h y (List.mem_cons_of_mem _ hy)
    omega
theorem stepW_len {ps : List Part} (hf : ∀ p ∈ ps, Fit p) (hb : Bin ps) (found : List Row) (t : Int) : (stepW ps found t).length ≤ found.length * 2 := by
  unfold stepW
  refine Nat.le_trans (List.length_filter_le _ _) (flat_len _ 2 found fun r _ => ?_)
  rw [List.length_map]
  exact letters_bin hf hb t
theorem stepW_rows {n : Nat} {ps : List Part} {found : List Row} {t : Int} (h : ∀ r ∈ found, r.length = n) : ∀ r ∈ stepW ps found t, r.length = n := fun r hr => by
  unfold stepW at hr
  obtain ⟨r0, h0, hr⟩ := List.mem_flatMap.mp (List.mem_filter.mp hr).1
  obtain ⟨x, _, rfl⟩ := List.mem_map.mp hr
  rw [List.length_set]
  exact h r0 h0
theorem oS_of {F : Rho → Option PyData} {ρ : Rho} {i : Int} (h : F ρ = some (.int i)) : oS F ρ = some (some i) := by unfold oS; rw [h]; rfl
theorem cut_of {F : Rho → Option PyData} {L U : Rho → Option (Option Int)} {ρ : Rho} {xs : List PyData} {l u : Option Int} (h : F ρ = some (.list xs)) (hl : L ρ = some l) (hu : U ρ = some u) : eCut F L U ρ = some (.list (PD.cutD xs l u)) := by
  unfold eCut
  rw [h]
  show ((L ρ).bind _) = _
  rw [hl]
  show ((U ρ).bind _) = _
  rw [hu]
  rfl
theorem set_cut {α : Type} (xs : List α) (j : Nat) (x : α) (h : j < xs.length) : xs.take j ++ [x] ++ xs.drop (j + 1) = xs.set j x := by
  rw [List.set_eq_take_append_cons_drop, if_pos h, List.append_assoc]
  rfl
theorem steps_by_ev {n : Nat} {ps : List Part} (hp : ∀ p ∈ ps, VPart n p) (h : VLots n (ps.map (·.1))) (h4 : ∀ p ∈ ps, p.2.length ≤ 4) (hb : Bin ps) (D : List Int) (hR : ∀ t ∈ D, 0 ≤ t ∧ t < n) (hl : D.length ≤ 5) :
    m_steps_by [.int (n : Nat), eS ps, eI D] = some (eI ((List.range D.length).map fun k => (((D.take (k + 1)).foldl (stepW ps) [List.replicate n none]).length : Int))) := by
  have l6 : (1000000 : Nat) = lim := rfl
  have lp := h.len.2
  rw [List.length_map] at lp
  have n5 := h.n1.2
  have ok : ∀ p ∈ ps, LotOk n p.1 ∧ Fit p := fun p hp' => ⟨vlot_ok (hp p hp').lot, (hp p hp').fit⟩
  have hf : ∀ p ∈ ps, Fit p := fun p hp' => (hp p hp').fit
  have first : sPar 4 5 (mD (eLst (aCons (eBin dMul (eLst (aCons (eC .none) aNil)) (eVar 0)) aNil))) (mN (nOwn (eLst aNil))) (start0 N_steps_by.length [.int (n : Nat), eS ps, eI D]) = some (.next, [.dat (.int (n : Nat)), .dat (eS ps), .dat (eI D), .unk, .dat (eRs [List.replicate n none]), .own false (([] : List Int).map PyData.int), .unk, .unk, .unk, .unk, .unk, .unk]) := by
    have fl : ∀ k : Nat, (List.replicate k [PyData.none]).flatten = (List.replicate k (none : Option Int)).map eo := by
      intro k
      induction k with
      | zero => rfl
      | succ k ih => rw [List.replicate_succ, List.flatten_cons, ih, List.replicate_succ]; rfl
    have e1 : eLst (aCons (eBin dMul (eLst (aCons (eC .none) aNil)) (eVar 0)) aNil) (start0 N_steps_by.length [.int (n : Nat), eS ps, eI D]) = some (eRs [List.replicate n none]) := by
      refine lst_of (a1 (bin_of (lst_of (a1 rfl a0) (by decide)) v_of (z := .list ((List.replicate n none).map eo)) ?_) a0) (show 1 ≤ lim by decide)
      show (if _ then _ else _) = _
      rw [if_pos (by refine ⟨by omega, by omega, ?_⟩; simp; omega), Int.toNat_natCast, fl]
    unfold sPar
    rw [mD_ev, e1]
    rfl
  have loop : NextQ (sFor (mI (iLst (eVar 2))) (tgN 3) (sSeq
      (sSet 6 (mD (eSortU (eLC2 (iLst (eVar 1)) (tgT [10, 11]) (bOf (eBin (dIn false) (eVar 3) (eVar 10))) (iLst (eVar 11)) (tgN 8) bYes (eBin dIx (eVar 8) (eMeth dIndex (eVar 10) (aCons (eVar 3) aNil))) [10, 11, 8] [8]))))
      (sSeq
      (sSet 7 (mD (eLC2 (iLst (eVar 4)) (tgN 8) bYes (iLst (eVar 6)) (tgN 9) bYes (eBin dAdd (eBin dAdd (eCut (eVar 8) oN (oS (eVar 3))) (eLst (aCons (eVar 9) aNil))) (eCut (eVar 8) (oS (eBin dAdd (eVar 3) (eC (.int 1)))) oN)) [8, 9] [9])))
      (sSeq
      (sSet 4 (mD (eLC (iLst (eVar 7)) (tgN 8) (bOf (eFn 2 m_fits_all (aCons (eVar 1) (aCons (eVar 8) aNil)))) (eVar 8) [8])))
      (sApp 5 (mD (eCall dLen (aCons (eVar 4) aNil)))))))) [.dat (.int (n : Nat)), .dat (eS ps), .dat (eI D), .unk, .dat (eRs [List.replicate n none]), .own false (([] : List Int).map PyData.int), .unk, .unk, .unk, .unk, .unk, .unk]
      (fun ρ => ∃ a3 a6 a7 a8 a9 a10 a11, ρ = [.dat (.int (n : Nat)), .dat (eS ps), .dat (eI D), a3, .dat (eRs (D.foldl (stepW ps) [List.replicate n none])), .own false (((List.range D.length).map fun k => (((D.take (k + 1)).foldl (stepW ps) [List.replicate n none]).length : Int)).map PyData.int), a6, a7, a8, a9, a10, a11]) := by
    refine forN PyData.int D (fun d1 ρ => ∃ a3 a6 a7 a8 a9 a10 a11, ρ = [.dat (.int (n : Nat)), .dat (eS ps), .dat (eI D), a3, .dat (eRs (d1.foldl (stepW ps) [List.replicate n none])), .own false (((List.range d1.length).map fun k => (((D.take (k + 1)).foldl (stepW ps) [List.replicate n none]).length : Int)).map PyData.int), a6, a7, a8, a9, a10, a11] ∧ (d1.foldl (stepW ps) [List.replicate n none]).length ≤ 2 ^ d1.length ∧ ∀ r ∈ d1.foldl (stepW ps) [List.replicate n none], r.length = n)
      (mI_of (iLst_of v_of)) ⟨.unk, .unk, .unk, .unk, .unk, .unk, .unk, rfl, by simp, by simp⟩ ?_ ?_
    · rintro d1 t d2 ρ hd ⟨a3, a6, a7, a8, a9, a10, a11, rfl, hlen, hrow⟩
      obtain ⟨t0, tn⟩ := hR t (by rw [hd]; simp)
      have d5 : d1.length < 5 := by rw [hd] at hl; simp at hl; omega
      have p5 : 2 ^ d1.length ≤ 2 ^ 5 := Nat.pow_le_pow_right (by decide) (by omega)
      have htake : D.take (d1.length + 1) = d1 ++ [t] := by rw [hd, List.take_append, List.take_of_length_le (by omega)]; simp
      generalize hfound : d1.foldl (stepW ps) [List.replicate n none] = found at hlen hrow
      have e1 : (d1 ++ [t]).foldl (stepW ps) [List.replicate n none] = stepW ps found t := by rw [List.foldl_append, hfound]; rfl
      generalize hcnt : (List.range d1.length).map (fun k => (((D.take (k + 1)).foldl (stepW ps) [List.replicate n none]).length : Int)) = cnt
      have cl : cnt.length = d1.length := by rw [← hcnt]; simp
      refine ⟨_, rfl, ?_⟩
      -- the letters
      have lets : eSortU (eLC2 (iLst (eVar 1)) (tgT [10, 11]) (bOf (eBin (dIn false) (eVar 3) (eVar 10))) (iLst (eVar 11)) (tgN 8) bYes (eBin dIx (eVar 8) (eMeth dIndex (eVar 10) (aCons (eVar 3) aNil))) [10, 11, 8] [8]) [.dat (.int (n : Nat)), .dat (eS ps), .dat (eI D), .dat (.int t), .dat (eRs found), .own false (cnt.map PyData.int), a6, a7, a8, a9, a10, a11] = some (eI (lettersW ps t)) := by
        refine eSortU_of (ns := (ps.filter fun p => decide (t ∈ p.1)).flatMap fun p => p.2.map fun l => l.getD (p.1.findIdx fun z => decide (z = t)) 0) ?_ ?_
        · refine eLC2_map eP (fun p => decide (t ∈ p.1)) eI (fun p => p.2) (fun _ _ => true) (fun p l => .int (l.getD (p.1.findIdx fun z => decide (z = t)) 0)) ps (iLst_of v_of) (fun p hp' => ⟨_, rfl, b_of (bin_of v_of v_of (dIn_int false _ _)), fun ht => ⟨iLst_of v_of, fun l hl' => ⟨_, rfl, rfl, fun _ => ?_⟩⟩⟩) ?_ ?_
          · have ht := of_decide_eq_true ht
            have hk : p.1.findIdx (fun z => decide (z = t)) < p.1.length := List.findIdx_lt_length_of_exists ⟨t, ht, by simp⟩
            have hk2 : p.1.findIdx (fun z => decide (z = t)) < l.length := by rw [← hf p hp' l hl']; exact hk
            have hi : (p.1.map PyData.int).findIdx (fun z => PyData.eqv z (.int t)) = p.1.findIdx fun z => decide (z = t) := by
              generalize p.1 = xs
              induction xs with
              | nil => rfl
              | cons x xs ih => rw [List.map_cons, List.findIdx_cons, List.findIdx_cons, ih, eqv_int]
            refine bin_of (d := eI l) v_of (e := .int (p.1.findIdx fun z => decide (z = t) : Nat)) ?_ (atI_nat (j := p.1.findIdx fun z => decide (z = t)) ?_ rfl)
            · have e2 : eVar 10 (((wipeR ((((wipeR [.dat (.int (n : Nat)), .dat (eS ps), .dat (eI D), .dat (.int t), .dat (eRs found), .own false (cnt.map PyData.int), a6, a7, a8, a9, a10, a11] [10, 11, 8]).set 10 (.dat (eI p.1))).set 11 (.dat (eL p.2)))) [8]).set 8 (.dat (eI l)))) = some (eI p.1) := v_of
              rw [eMeth_ev, e2]
              show (if _ then _ else _) = _
              rw [hi, if_pos ⟨(sh_eI _).shaped (by decide), (sh_int _).shaped (by decide), by rw [List.length_map]; exact hk⟩]
            · rw [List.getElem?_map, List.getD_eq_getElem?_getD, List.getElem?_eq_getElem hk2]
              rfl
          · refine Nat.le_trans (flat_len _ 4 _ fun p hp' => ?_) (Nat.le_trans (Nat.mul_le_mul_right 4 (List.length_filter_le _ _)) (by omega))
            rw [List.length_map]
            exact Nat.le_trans (List.length_filter_le _ _) (h4 p (List.mem_filter.mp hp').1)
          · refine congrArg PyData.list ?_
            rw [List.map_flatMap]
            refine congrArg (fun f => List.flatMap f _) (funext fun p => ?_)
            rw [List.map_map, List.filter_eq_self.mpr fun _ _ => rfl]
            rfl
        · refine Nat.lt_of_le_of_lt (flat_len _ 4 _ fun p hp' => ?_) (Nat.lt_of_le_of_lt (Nat.mul_le_mul_right 4 (List.length_filter_le _ _)) (by omega))
          rw [List.length_map]
          exact h4 p (List.mem_filter.mp hp').1
      refine seqN (setD_of lets) ?_
      have late : eLC2 (iLst (eVar 4)) (tgN 8) bYes (iLst (eVar 6)) (tgN 9) bYes (eBin dAdd (eBin dAdd (eCut (eVar 8) oN (oS (eVar 3))) (eLst (aCons (eVar 9) aNil))) (eCut (eVar 8) (oS (eBin dAdd (eVar 3) (eC (.int 1)))) oN)) [8, 9] [9] [.dat (.int (n : Nat)), .dat (eS ps), .dat (eI D), .dat (.int t), .dat (eRs found), .own false (cnt.map PyData.int), .dat (eI (lettersW ps t)), a7, a8, a9, a10, a11] = some (eRs (found.flatMap fun r => (lettersW ps t).map fun x => r.set t.toNat (some x))) := by
        refine eLC2_map eO (fun _ => true) PyData.int (fun _ => lettersW ps t) (fun _ _ => true) (fun r x => eO (r.set t.toNat (some x))) found (iLst_of v_of) (fun r hr => ⟨_, rfl, rfl, fun _ => ⟨iLst_of v_of, fun x hx => ⟨_, rfl, rfl, fun _ => ?_⟩⟩⟩) ?_ ?_
        · have rl := hrow r hr
          have et : t = ((t.toNat : Nat) : Int) := by omega
          have et1 : t + 1 = ((t.toNat + 1 : Nat) : Int) := by omega
          have tl : t.toNat < r.length := by omega
          refine bin_of (d := .list ((r.map eo).take t.toNat ++ [.int x])) (e := .list ((r.map eo).drop (t.toNat + 1))) (bin_of (d := .list ((r.map eo).take t.toNat)) (e := .list [.int x]) ?_ (lst_of (a1 v_of a0) (show 1 ≤ lim by decide)) ?_) ?_ ?_
          · rw [cut_of (l := none) (u := some t) (xs := r.map eo) v_of rfl (oS_of v_of), et, cut_take, ← et]
          · rw [dAdd_list (by simp; omega)]
          · rw [cut_of (l := some (t + 1)) (u := none) (xs := r.map eo) v_of (oS_of (bin_of v_of rfl rfl)) rfl, et1, cut_drop]
          · rw [dAdd_list (by simp; omega), set_cut _ _ _ (by rw [List.length_map]; exact tl), eo_set]
        · have e2 : (found.filter fun _ => true) = found := List.filter_eq_self.mpr fun _ _ => rfl
          rw [e2]
          refine Nat.le_trans (flat_len _ 2 found fun r _ => ?_) (by omega)
          rw [List.length_map]
          exact Nat.le_trans (List.length_filter_le _ _) (letters_bin hf hb t)
        · have e2 : (found.filter fun _ => true) = found := List.filter_eq_self.mpr fun _ _ => rfl
          have e3 : ((lettersW ps t).filter fun _ => true) = lettersW ps t := List.filter_eq_self.mpr fun _ _ => rfl
          rw [e2, e3]
          refine congrArg PyData.list ?_
          rw [List.map_flatMap]
          simp only [List.map_map]
          rfl
      refine seqN (setD_of late) ?_
      have fil : eLC (iLst (eVar 7)) (tgN 8) (bOf (eFn 2 m_fits_all (aCons (eVar 1) (aCons (eVar 8) aNil)))) (eVar 8) [8] [.dat (.int (n : Nat)), .dat (eS ps), .dat (eI D), .dat (.int t), .dat (eRs found), .own false (cnt.map PyData.int), .dat (eI (lettersW ps t)), .dat (eRs (found.flatMap fun r => (lettersW ps t).map fun x => r.set t.toNat (some x))), a8, a9, a10, a11] = some (eRs (stepW ps found t)) := by
        refine eLC_map eO (fitsB ps) eO (found.flatMap fun r => (lettersW ps t).map fun x => r.set t.toNat (some x)) (iLst_of v_of) (fun r hr => ⟨_, rfl, b_of (eFn_of (a1 v_of (a1 v_of a0)) (fits_all_ev (n := n) ?_ ok)), fun _ => v_of⟩) rfl
        obtain ⟨r0, h0, hr⟩ := List.mem_flatMap.mp hr
        obtain ⟨x, _, rfl⟩ := List.mem_map.mp hr
        rw [List.length_set]
        exact hrow r0 h0
      refine seqN (setD_of fil) ?_
      refine nextQ (app_of (t := false) (ds := cnt.map PyData.int) (d := .int ((stepW ps found t).length : Nat)) rfl (eCall_of (a1 v_of a0) (by rw [dLen_list, List.length_map])) (by rw [List.length_map, cl]; omega)) ⟨.dat (.int t), .dat (eI (lettersW ps t)), .dat (eRs (found.flatMap fun r => (lettersW ps t).map fun x => r.set t.toNat (some x))), a8, a9, a10, a11, ?_, ?_, ?_⟩
      · rw [e1, List.length_append, List.length_singleton, List.range_succ, List.map_append, List.map_append, hcnt, List.map_singleton, List.map_singleton, htake, e1]
        rfl
      · rw [e1, List.length_append, List.length_singleton, Nat.pow_succ]
        exact Nat.le_trans (stepW_len hf hb found t) (Nat.mul_le_mul_right 2 hlen)
      · rw [e1]
        exact stepW_rows hrow
    · rintro ρ ⟨a3, a6, a7, a8, a9, a10, a11, rfl, _, _⟩
      exact ⟨a3, a6, a7, a8, a9, a10, a11, rfl⟩
  refine runQ (seqQ first (seqQI loop fun ρ hρ => ?_))
  obtain ⟨a3, a6, a7, a8, a9, a10, a11, rfl⟩ := hρ
  exact retOwnQ (t := false) rfl
end K84
end

section
set_option Elab.async false
set_option linter.all false
set_option maxRecDepth 100000
set_option maxHeartbeats 1000000
namespace K84
open PySem PySem.Spec PyProof.Rows PD PM
/-! ### trees: the plain law -/
theorem cl_map (lot others : List Int) (f : Int → Int) : cl lot (lot.map f) others = (lot.filter fun t => decide (t ∈ others)).map f := by
  unfold cl
  have : lot.zip (lot.map f) = lot.map fun t => (t, f t) := by
    induction lot with
    | nil => rfl
    | cons t lot ih => rw [List.map_cons, List.zip_cons_cons, ih, List.map_cons]
  rw [this, List.filter_map, List.map_map]
  rfl
theorem pw_eq : ∀ {a b : List Int}, a.Pairwise (· < ·) → b.Pairwise (· < ·) → (∀ x, x ∈ a ↔ x ∈ b) → a = b := fun h1 h2 h => rising_eq h1 h2 h
theorem filter_same {a b : List Int} (ha : a.Pairwise (· < ·)) (hb : b.Pairwise (· < ·)) : (a.filter fun t => decide (t ∈ b)) = b.filter fun t => decide (t ∈ a) := by
  refine pw_eq (ha.filter _) (hb.filter _) fun x => ?_
  rw [List.mem_filter, List.mem_filter, decide_eq_true_eq, decide_eq_true_eq]
  exact And.comm
/-- the letter of a row at a thing -/
def val (lot m : List Int) (t : Int) : Int := m.getD (lot.findIdx fun z => decide (z = t)) 0
theorem map_val {lot m : List Int} (h : lot.length = m.length) (nd : lot.Nodup) : lot.map (val lot m) = m := by
  apply List.ext_getElem (by simp [h])
  intro i h1 h2
  have hi : i < lot.length := by simpa using h1
  rw [List.getElem_map]
  unfold val
  have hk : lot.findIdx (fun z => decide (z = lot[i])) < lot.length := List.findIdx_lt_length_of_exists ⟨lot[i], List.getElem_mem hi, by simp⟩
  have hk2 : lot[lot.findIdx (fun z => decide (z = lot[i]))] = lot[i] := by
    have := List.findIdx_getElem (w := hk)
    simpa using this
  have e : lot.findIdx (fun z => decide (z = lot[i])) = i := (List.getElem_inj nd).mp hk2
  rw [e, List.getD_eq_getElem?_getD, List.getElem?_eq_getElem h2]
  rfl
/-- each row of each part of I is that of some letters that go with all parts of I -/
def Claim (ps : List Part) (I : Nat → Prop) : Prop := ∀ (i : Nat) (p : Part), I i → ps[i]? = some p → ∀ l ∈ p.2, ∃ f : Int → Int, p.1.map f = l ∧ ∀ (k : Nat) (q : Part), I k → ps[k]? = some q → q.1.map f ∈ q.2
structure Good (ps : List Part) : Prop where
  inc : ∀ p ∈ ps, p.1.Pairwise (· < ·)
  fit : ∀ p ∈ ps, Fit p
  cons : Cons ps
theorem cons_at {ps : List Part} (h : Cons ps) {i j : Nat} {p o : Part} (hij : i ≠ j) (hi : ps[i]? = some p) (hj : ps[j]? = some o) : ∀ l ∈ p.2, keepsW p o l = true := by
  obtain ⟨hil, rfl⟩ := List.getElem?_eq_some_iff.mp hi
  have e : ps = ps.take i ++ ps[i] :: ps.drop (i + 1) := by rw [← List.drop_eq_getElem_cons hil, List.take_append_drop]
  refine h _ _ _ e o ?_
  rw [List.mem_append]
  by_cases hlt : j < i
  · left
    refine List.mem_of_getElem? (i := j) ?_
    rw [List.getElem?_take_of_lt hlt]
    exact hj
  · right
    refine List.mem_of_getElem? (i := j - (i + 1)) ?_
    rw [List.getElem?_drop]
    have : i + 1 + (j - (i + 1)) = j := by omega
    rw [this]
    exact hj
/-- one ear -/
theorem claim_ear {ps : List Part} (g : Good ps) {I : Nat → Prop} {e p : Nat} {E Pp : Part} (he : ps[e]? = some E) (hp : ps[p]? = some Pp) (hep : e ≠ p) (ie : I e) (ip : I p)
    (ear : ∀ (k : Nat) (q : Part), I k → k ≠ e → ps[k]? = some q → ∀ t ∈ E.1, t ∈ q.1 → t ∈ Pp.1) (h : Claim ps fun i => I i ∧ i ≠ e) : Claim ps I := by
  have mE := List.mem_of_getElem? he
  have mP := List.mem_of_getElem? hp
  have ndE : E.1.Nodup := pw_nodupI (g.inc E mE)
  -- letters of the rest and a row of E that goes with them
  have put : ∀ (f : Int → Int) (m : List Int), m ∈ E.2 → (∀ (k : Nat) (q : Part), (I k ∧ k ≠ e) → ps[k]? = some q → q.1.map f ∈ q.2) → (∀ t, t ∈ E.1 → t ∈ Pp.1 → val E.1 m t = f t) →
      ∃ g : Int → Int, E.1.map g = m ∧ (∀ (k : Nat) (q : Part), I k → k ≠ e → ps[k]? = some q → q.1.map g = q.1.map f) ∧ ∀ (k : Nat) (q : Part), I k → ps[k]? = some q → q.1.map g ∈ q.2 := fun f m hm hf hag => by
    have hfit := g.fit E mE m hm
    refine ⟨fun t => if t ∈ E.1 then val E.1 m t else f t, ?_, ?_, ?_⟩
    · rw [← map_val hfit ndE]
      refine List.map_congr_left fun t ht => ?_
      rw [if_pos ht, map_val hfit ndE]
    · intro k q hk hke hq
      refine List.map_congr_left fun t ht => ?_
      by_cases htE : t ∈ E.1
      · rw [if_pos htE]
        exact hag t htE (ear k q hk hke hq t htE ht)
      · rw [if_neg htE]
    · intro k q hk hq
      by_cases hke : k = e
      · subst hke
        rw [he] at hq
        cases hq
        have : E.1.map (fun t => if t ∈ E.1 then val E.1 m t else f t) = m := by
          rw [← map_val hfit ndE]
          refine List.map_congr_left fun t ht => ?_
          rw [if_pos ht, map_val hfit ndE]
        rw [this]
        exact hm
      · have : q.1.map (fun t => if t ∈ E.1 then val E.1 m t else f t) = q.1.map f := by
          refine List.map_congr_left fun t ht => ?_
          by_cases htE : t ∈ E.1
          · rw [if_pos htE]
            exact hag t htE (ear k q hk hke hq t htE ht)
          · rw [if_neg htE]
        rw [this]
        exact hf k q ⟨hk, hke⟩ hq
  -- what common letters say
  have agree : ∀ (f : Int → Int) (m : List Int), m ∈ E.2 → cl Pp.1 (Pp.1.map f) E.1 = cl E.1 m Pp.1 → ∀ t, t ∈ E.1 → t ∈ Pp.1 → val E.1 m t = f t := fun f m hm hc t h1 h2 => by
    have e1 : cl E.1 m Pp.1 = (E.1.filter fun t => decide (t ∈ Pp.1)).map (val E.1 m) := by
      rw [← cl_map, map_val (g.fit E mE m hm) ndE]
    rw [cl_map, e1, filter_same (g.inc Pp mP) (g.inc E mE)] at hc
    have := List.map_inj_left.mp hc t (List.mem_filter.mpr ⟨h1, decide_eq_true h2⟩)
    exact this.symm
  intro i q hi hq l hl
  by_cases hie : i = e
  · subst hie
    rw [he] at hq
    cases hq
    have kp := cons_at g.cons hep he hp l hl
    unfold keepsW at kp
    obtain ⟨lp, hlp, ec⟩ := List.mem_map.mp (of_decide_eq_true kp)
    obtain ⟨f, f1, f2⟩ := h p Pp ⟨ip, Ne.symm hep⟩ hp lp hlp
    obtain ⟨g', g1, _, g3⟩ := put f l hl (fun k q hk hq => f2 k q hk hq) (agree f l hl (by rw [f1]; exact ec))
    exact ⟨g', g1, g3⟩
  · obtain ⟨f, f1, f2⟩ := h i q ⟨hi, hie⟩ hq l hl
    have hlp : Pp.1.map f ∈ Pp.2 := f2 p Pp ⟨ip, Ne.symm hep⟩ hp
    have kp := cons_at g.cons (Ne.symm hep) hp he _ hlp
    unfold keepsW at kp
    obtain ⟨m, hm, ec⟩ := List.mem_map.mp (of_decide_eq_true kp)
    obtain ⟨g', g1, g2, g3⟩ := put f m hm (fun k q hk hq => f2 k q hk hq) (agree f m hm ec.symm)
    exact ⟨g', by rw [g2 i q hi hie hq, f1], g3⟩
/-! ### the tree's steps, typed -/
abbrev Item := Int × List Int
def thingsW (its : List Item) : List Int := its.flatMap fun p => p.2
def aloneW (its : List Item) : List Item := its.map fun p => (p.1, p.2.filter fun t => decide (1 < (thingsW its).count t))
def commonW (a b : List Int) : List Int := a.filter fun t => decide (t ∈ b)
def pairW (p q : Item) : Option (Int × Int) := if p.1 ≠ q.1 ∧ commonW p.2 q.2 = p.2 then some (p.1, q.1) else none
def withinW (its : List Item) : Option (Int × Int) := its.findSome? fun p => its.findSome? (pairW p)
def treeGo : Nat → List Item → List Item
  | 0, its => its
  | n + 1, its => match withinW (aloneW its) with
    | none => aloneW its
    | some ab => treeGo n ((aloneW its).filter fun p => !decide (p.1 = ab.1))
def itemsW (lots : List (List Int)) : List Item := lots.zipIdx.map fun q => ((q.2 : Nat), q.1)
def isTree (lots : List (List Int)) : Bool := decide ((treeGo lots.length (itemsW lots)).length = 1)
/-- what is left of each lot holds all that it shares -/
structure Left (lots : List (List Int)) (its : List Item) : Prop where
  nd : (its.map (·.1)).Nodup
  sub : ∀ a ∈ its, ∃ i : Nat, a.1 = (i : Nat) ∧ ∃ l, lots[i]? = some l ∧ ∀ t ∈ a.2, t ∈ l
  sh : ∀ a ∈ its, ∀ b ∈ its, a.1 ≠ b.1 → ∀ l m, lots[a.1.toNat]? = some l → lots[b.1.toNat]? = some m → ∀ t ∈ l, t ∈ m → t ∈ a.2
theorem count_two {its : List Item} {a b : Item} (ha : a ∈ its) (hb : b ∈ its) (nd : (its.map (·.1)).Nodup) (hab : a.1 ≠ b.1) {t : Int} (h1 : t ∈ a.2) (h2 : t ∈ b.2) : 1 < (thingsW its).count t := by
  unfold thingsW
  have pos : ∀ (xs : List Item) (c : Item), c ∈ xs → t ∈ c.2 → 0 < (xs.flatMap fun p => p.2).count t := fun xs c hc ht => List.count_pos_iff.mpr (List.mem_flatMap.mpr ⟨c, hc, ht⟩)
  clear nd
  induction its with
  | nil => cases ha
  | cons c its ih =>
    rw [List.flatMap_cons, List.count_append]
    rcases List.mem_cons.mp ha with ea | ha'
    · rcases List.mem_cons.mp hb with eb | hb'
      · exact absurd (by rw [ea, eb]) hab
      · subst ea
        have p1 : 0 < a.2.count t := List.count_pos_iff.mpr h1
        have p2 := pos its b hb' h2
        omega
    · rcases List.mem_cons.mp hb with eb | hb'
      · subst eb
        have p1 : 0 < b.2.count t := List.count_pos_iff.mpr h2
        have p2 := pos its a ha' h1
        omega
      · have := ih ha' hb'
        omega
theorem left_alone {lots : List (List Int)} {its : List Item} (h : Left lots its) : Left lots (aloneW its) := by
  have back : ∀ a ∈ aloneW its, ∃ c ∈ its, c.1 = a.1 ∧ a.2 = c.2.filter fun t => decide (1 < (thingsW its).count t) := fun a ha => by
    obtain ⟨c, hc, rfl⟩ := List.mem_map.mp ha
    exact ⟨c, hc, rfl, rfl⟩
  refine ⟨by have := h.nd; unfold aloneW; rw [List.map_map]; exact this, fun a ha => ?_, fun a ha b hb hab l m hl hm t h1 h2 => ?_⟩
  · obtain ⟨c, hc, e1, e2⟩ := back a ha
    obtain ⟨i, e3, l, hl, hs⟩ := h.sub c hc
    exact ⟨i, e1.symm.trans e3, l, hl, fun t ht => hs t (by rw [e2] at ht; exact (List.mem_filter.mp ht).1)⟩
  · obtain ⟨c, hc, e1, e2⟩ := back a ha
    obtain ⟨d, hd, e3, e4⟩ := back b hb
    have hcd : c.1 ≠ d.1 := by rw [e1, e3]; exact hab
    rw [e2, List.mem_filter, decide_eq_true_eq]
    have t1 := h.sh c hc d hd hcd l m (by rw [e1]; exact hl) (by rw [e3]; exact hm) t h1 h2
    have t2 := h.sh d hd c hc (Ne.symm hcd) m l (by rw [e3]; exact hm) (by rw [e1]; exact hl) t h2 h1
    exact ⟨t1, count_two hc hd h.nd hcd t1 t2⟩
theorem left_filter {lots : List (List Int)} {its : List Item} (h : Left lots its) (f : Item → Bool) : Left lots (its.filter f) := by
  refine ⟨?_, fun a ha => h.sub a (List.mem_filter.mp ha).1, fun a ha b hb => h.sh a (List.mem_filter.mp ha).1 b (List.mem_filter.mp hb).1⟩
  have := h.nd
  unfold List.Nodup at this ⊢
  rw [List.pairwise_map] at this ⊢
  exact this.filter f
theorem within_some {its : List Item} {a b : Int} (h : withinW its = some (a, b)) : ∃ p ∈ its, ∃ q ∈ its, p.1 = a ∧ q.1 = b ∧ a ≠ b ∧ ∀ t ∈ p.2, t ∈ q.2 := by
  unfold withinW at h
  obtain ⟨p, hp, h⟩ := List.exists_of_findSome?_eq_some h
  obtain ⟨q, hq, h⟩ := List.exists_of_findSome?_eq_some h
  unfold pairW at h
  split at h
  · rename_i hc
    cases h
    refine ⟨p, hp, q, hq, rfl, rfl, hc.1, fun t ht => ?_⟩
    have := List.filter_eq_self.mp hc.2 t ht
    exact of_decide_eq_true this
  · cases h
/-- the places that are left -/
def at_ (its : List Item) (i : Nat) : Prop := ((i : Nat) : Int) ∈ its.map (·.1)
theorem tree_claim {ps : List Part} (g : Good ps) : ∀ (n : Nat) (its : List Item), Left (ps.map (·.1)) its → (treeGo n its).length = 1 → its.length ≤ n → Claim ps (at_ its)
  | n, its, hL, h1, hn => by
    induction n generalizing its with
    | zero =>
      have : its = [] := List.length_eq_zero_iff.mp (by omega)
      subst this
      simp [treeGo] at h1
    | succ n ih =>
      have hA := left_alone hL
      have same : ∀ i, at_ (aloneW its) i ↔ at_ its i := fun i => by unfold at_ aloneW; rw [List.map_map]; exact Iff.rfl
      have goal : Claim ps (at_ (aloneW its)) → Claim ps (at_ its) := fun h i p hi hp l hl => by
        obtain ⟨f, f1, f2⟩ := h i p ((same i).mpr hi) hp l hl
        exact ⟨f, f1, fun k q hk hq => f2 k q ((same k).mpr hk) hq⟩
      refine goal ?_
      unfold treeGo at h1
      split at h1
      · -- one is left
        obtain ⟨a, ha⟩ := List.length_eq_one_iff.mp h1
        intro i p hi hp l hl
        have only : ∀ k, at_ (aloneW its) k → k = i := fun k hk => by
          unfold at_ at hk hi
          rw [ha] at hk hi
          simp at hk hi
          omega
        have mp := List.mem_of_getElem? hp
        refine ⟨val p.1 l, map_val (g.fit p mp l hl) (pw_nodupI (g.inc p mp)), fun k q hk hq => ?_⟩
        have := only k hk
        subst this
        rw [hp] at hq
        cases hq
        rw [map_val (g.fit p mp l hl) (pw_nodupI (g.inc p mp))]
        exact hl
      · rename_i ab hw
        obtain ⟨a, b⟩ := ab
        obtain ⟨x, hx, y, hy, ex, ey, hab, hsub⟩ := within_some hw
        have hF := left_filter hA fun p => !decide (p.1 = a)
        have hlen : ((aloneW its).filter fun p => !decide (p.1 = a)).length ≤ n := by
          have : ((aloneW its).filter fun p => !decide (p.1 = a)).length < (aloneW its).length := by
            rw [List.length_filter_lt_length_iff_exists]
            exact ⟨x, hx, by simp [ex]⟩
          have l2 : (aloneW its).length = its.length := by unfold aloneW; simp
          omega
        have hrec := ih _ hF h1 hlen
        obtain ⟨i, ei, li, hli, _⟩ := hA.sub x hx
        obtain ⟨j, ej, lj, hlj, hsj⟩ := hA.sub y hy
        rw [List.getElem?_map] at hli hlj
        obtain ⟨E, hE, rfl⟩ := Option.map_eq_some_iff.mp hli
        obtain ⟨Pp, hP, rfl⟩ := Option.map_eq_some_iff.mp hlj
        refine claim_ear g (e := i) (p := j) hE hP (by omega) ?_ ?_ ?_ ?_
        · unfold at_; rw [← ei]; exact List.mem_map.mpr ⟨x, hx, rfl⟩
        · unfold at_; rw [← ej]; exact List.mem_map.mpr ⟨y, hy, rfl⟩
        · intro k q hk hke hq t h1 h2
          unfold at_ at hk
          obtain ⟨z, hz, ez⟩ := List.mem_map.mp hk
          refine hsj t (hsub t ?_)
          refine hA.sh x hx z hz (by omega) E.1 q.1 ?_ ?_ t h1 h2
          · rw [List.getElem?_map, ei, Int.toNat_natCast, hE]; rfl
          · rw [List.getElem?_map, ez, Int.toNat_natCast, hq]; rfl
        · have st : ∀ k, (at_ (aloneW its) k ∧ k ≠ i) ↔ at_ ((aloneW its).filter fun p => !decide (p.1 = a)) k := fun k => by
            unfold at_
            rw [List.mem_map, List.mem_map]
            constructor
            · rintro ⟨⟨z, hz, ez⟩, hki⟩
              exact ⟨z, List.mem_filter.mpr ⟨hz, by simp; omega⟩, ez⟩
            · rintro ⟨z, hz, ez⟩
              obtain ⟨hz, hne⟩ := List.mem_filter.mp hz
              simp at hne
              exact ⟨⟨z, hz, ez⟩, by omega⟩
          intro k q hk hq l hl
          obtain ⟨f, f1, f2⟩ := hrec k q ((st k).mp hk) hq l hl
          exact ⟨f, f1, fun k' q' hk' hq' => f2 k' q' ((st k').mp hk') hq'⟩
theorem left_start (lots : List (List Int)) : Left lots (itemsW lots) := by
  have mem : ∀ a ∈ itemsW lots, ∃ i : Nat, a.1 = (i : Nat) ∧ lots[i]? = some a.2 := fun a ha => by
    obtain ⟨q, hq, rfl⟩ := List.mem_map.mp ha
    obtain ⟨l, i⟩ := q
    exact ⟨i, rfl, List.mem_zipIdx_iff_getElem?.mp hq⟩
  refine ⟨?_, fun a ha => ?_, fun a ha b hb hab l m hl hm t h1 h2 => ?_⟩
  · unfold itemsW
    rw [List.map_map]
    have : ((fun q : List Int × Nat => (((q.2 : Nat) : Int), q.1)) : List Int × Nat → Item) = fun q => (((q.2 : Nat) : Int), q.1) := rfl
    have e : (lots.zipIdx.map ((·.1) ∘ fun q : List Int × Nat => (((q.2 : Nat) : Int), q.1))) = (List.range lots.length).map fun i : Nat => (i : Int) := by
      apply List.ext_getElem?
      intro i
      rw [List.getElem?_map, List.getElem?_map, List.getElem?_zipIdx]
      by_cases hi : i < lots.length
      · rw [List.getElem?_range hi, List.getElem?_eq_getElem hi]
        simp
      · rw [List.getElem?_eq_none (by omega), List.getElem?_eq_none (by simp; omega)]
        rfl
    rw [e]
    show List.Pairwise _ _
    rw [List.pairwise_map]
    exact List.nodup_range.imp fun {a b} h e => h (by omega)
  · obtain ⟨i, e, hl⟩ := mem a ha
    exact ⟨i, e, a.2, hl, fun t ht => ht⟩
  · obtain ⟨i, e, hl'⟩ := mem a ha
    rw [e, Int.toNat_natCast, hl'] at hl
    cases hl
    exact h1
theorem tree_all {ps : List Part} (g : Good ps) (h : isTree (ps.map (·.1)) = true) : Claim ps fun _ => True := by
  have h1 := of_decide_eq_true h
  have len : (itemsW (ps.map (·.1))).length = (ps.map (·.1)).length := by unfold itemsW; simp
  have := tree_claim g _ _ (left_start (ps.map (·.1))) h1 (Nat.le_of_eq len)
  have all : ∀ (i : Nat) (p : Part), ps[i]? = some p → at_ (itemsW (ps.map (·.1))) i := fun i p hp => by
    unfold at_ itemsW
    rw [List.map_map, List.mem_map]
    exact ⟨(p.1, i), List.mem_zipIdx_iff_getElem?.mpr (by rw [List.getElem?_map, hp]; rfl), rfl⟩
  intro i p _ hp l hl
  obtain ⟨f, f1, f2⟩ := this i p (all i p hp) hp l hl
  exact ⟨f, f1, fun k q _ hq => f2 k q (all k q hq) hq⟩
end K84
end

section
set_option Elab.async false
set_option linter.all false
set_option maxRecDepth 100000
set_option maxHeartbeats 1000000
namespace K84
open PySem PySem.Spec PyProof.Rows PD PM
/-! ### trees: the mirrors -/
def eIt (a : Item) : PyData := .tuple [.int a.1, eI a.2]
def eIts (its : List Item) : PyData := .list (its.map eIt)
theorem common_ev (a b : List Int) : m_common [eI a, eI b] = some (eI (commonW a b)) := by
  refine runQ (retQ ?_)
  exact eLC_map PyData.int (fun t => decide (t ∈ b)) PyData.int a (iLst_of v_of) (fun t ht => ⟨_, rfl, b_of (bin_of v_of v_of (dIn_int false _ _)), fun _ => v_of⟩) rfl
theorem alone_left_ev (its : List Item) (hl : (thingsW its).length ≤ 1000) : m_alone_left [eIts its] = some (eIts (aloneW its)) := by
  have l6 : (1000000 : Nat) = lim := rfl
  have things : eLC2 (iLst (eVar 0)) (tgT [3, 4]) bYes (iLst (eVar 4)) (tgN 2) bYes (eVar 2) [3, 4, 2] [2] (start0 N_alone_left.length [eIts its]) = some (eI (thingsW its)) := by
    refine eLC2_map eIt (fun _ => true) PyData.int (fun p => p.2) (fun _ _ => true) (fun _ t => .int t) its (iLst_of v_of) (fun p hp => ⟨_, rfl, rfl, fun _ => ⟨iLst_of v_of, fun t ht => ⟨_, rfl, rfl, fun _ => v_of⟩⟩⟩) ?_ ?_
    · have e2 : (its.filter fun _ => true) = its := List.filter_eq_self.mpr fun _ _ => rfl
      rw [e2]
      have e3 : (its.flatMap fun x => ((x.2.filter fun _ => true).map fun t => PyData.int t)) = (thingsW its).map PyData.int := by
        unfold thingsW
        rw [List.map_flatMap]
        refine congrArg (fun f => List.flatMap f _) (funext fun p => ?_)
        rw [List.filter_eq_self.mpr fun _ _ => rfl]
      rw [e3, List.length_map]
      omega
    · have e2 : (its.filter fun _ => true) = its := List.filter_eq_self.mpr fun _ _ => rfl
      rw [e2]
      refine congrArg PyData.list ?_
      unfold thingsW
      rw [List.map_flatMap]
      refine congrArg (fun f => List.flatMap f _) (funext fun p => ?_)
      rw [List.filter_eq_self.mpr fun _ _ => rfl]
  refine runQ (seqQ (setD_of things) (retQ ?_))
  refine eLC_all eIt (fun p => eIt (p.1, p.2.filter fun t => decide (1 < (thingsW its).count t))) its (iLst_of v_of) (fun p hp => ⟨_, rfl, ?_⟩) (hz := ?_)
  · refine tup_of (a1 v_of (a1 (d := eI (p.2.filter fun t => decide (1 < (thingsW its).count t))) ?_ a0)) (show 2 ≤ lim by decide)
    refine eLC_map PyData.int (fun t => decide (1 < (thingsW its).count t)) PyData.int p.2 (iLst_of v_of) (fun t ht => ⟨_, rfl, b_of (bin_of (d := .int ((thingsW its).count t : Nat)) ?_ rfl ?_), fun _ => v_of⟩) rfl
    · have e2 : eVar 1 ((wipeR (((wipeR ((start0 N_alone_left.length [eIts its]).set 1 (.dat (eI (thingsW its)))) [5, 4]).set 5 (.dat (.int p.1))).set 4 (.dat (eI p.2))) [2]).set 2 (.dat (.int t))) = some (eI (thingsW its)) := v_of
      rw [eMeth_ev, e2]
      show ((intsOf ((thingsW its).map PyData.int)).map _) = _
      rw [intsOf_ints]
      rfl
    · rw [dGt_int]
      congr 2
      exact decide_eq_decide.mpr (by omega)
  · unfold eIts aloneW
    rw [List.map_map]
    rfl
def ePair : Option (Int × Int) → PyData
  | none => .none
  | some ab => .tuple [.int ab.1, .int ab.2]
theorem within_another_ev (its : List Item) : m_within_another [eIts its] = some (ePair (withinW its)) := by
  have l2 : (2 : Nat) ≤ lim := by decide
  -- the inner test
  have test : ∀ (p q : Item), bAnd (bOf (eBin dNe (eVar 1) (eVar 3))) (bOf (eBin dEq (eFn 2 m_common (aCons (eVar 2) (aCons (eVar 4) aNil))) (eVar 2))) [.dat (eIts its), .dat (.int p.1), .dat (eI p.2), .dat (.int q.1), .dat (eI q.2)] = some (decide (p.1 ≠ q.1 ∧ commonW p.2 q.2 = p.2)) := fun p q => by
    have e1 : eBin dNe (eVar 1) (eVar 3) [.dat (eIts its), .dat (.int p.1), .dat (eI p.2), .dat (.int q.1), .dat (eI q.2)] = some (.bool (!decide (p.1 = q.1))) := bin_of v_of v_of (dNe_int _ _)
    have e2 : eBin dEq (eFn 2 m_common (aCons (eVar 2) (aCons (eVar 4) aNil))) (eVar 2) [.dat (eIts its), .dat (.int p.1), .dat (eI p.2), .dat (.int q.1), .dat (eI q.2)] = some (.bool (decide (commonW p.2 q.2 = p.2))) := bin_of (eFn_of (a1 v_of (a1 v_of a0)) (common_ev _ _)) v_of (dEq_eI _ _)
    rw [bAnd_ev, bOf_ev, bOf_ev, e1, e2]
    by_cases h : p.1 = q.1 <;> simp [h]
  have outer := forGo_find (T := tgT [1, 2]) (B := sFor (mI (iLst (eVar 0))) (tgT [3, 4]) (sIf (bAnd (bOf (eBin dNe (eVar 1) (eVar 3))) (bOf (eBin dEq (eFn 2 m_common (aCons (eVar 2) (aCons (eVar 4) aNil))) (eVar 2)))) (sRet (eTup (aCons (eVar 1) (aCons (eVar 3) aNil)))) sNext)) eIt (fun p => (its.findSome? (pairW p)).map fun ab => ePair (some ab)) (fun ρ => ∃ a b c d, ρ = [.dat (eIts its), a, b, c, d]) its (start0 N_within_another.length [eIts its]) ⟨_, _, _, _, rfl⟩ (by
    rintro p hp ρ ⟨a, b, c, d, rfl⟩
    refine ⟨[.dat (eIts its), .dat (.int p.1), .dat (eI p.2), c, d], rfl, ?_⟩
    obtain ⟨i1, i2⟩ := forGo_find (T := tgT [3, 4]) (B := sIf (bAnd (bOf (eBin dNe (eVar 1) (eVar 3))) (bOf (eBin dEq (eFn 2 m_common (aCons (eVar 2) (aCons (eVar 4) aNil))) (eVar 2)))) (sRet (eTup (aCons (eVar 1) (aCons (eVar 3) aNil)))) sNext) eIt (fun q => (pairW p q).map fun ab => ePair (some ab)) (fun ρ => ∃ c d, ρ = [.dat (eIts its), .dat (.int p.1), .dat (eI p.2), c, d]) its [.dat (eIts its), .dat (.int p.1), .dat (eI p.2), c, d] ⟨c, d, rfl⟩ (by
      rintro q hq ρ ⟨c, d, rfl⟩
      refine ⟨[.dat (eIts its), .dat (.int p.1), .dat (eI p.2), .dat (.int q.1), .dat (eI q.2)], rfl, ?_⟩
      have t := test p q
      unfold pairW
      by_cases h : p.1 ≠ q.1 ∧ commonW p.2 q.2 = p.2
      · rw [decide_eq_true h] at t
        rw [if_pos h]
        refine ⟨(fun z => by cases z), fun d hd => ?_⟩
        cases hd
        exact ⟨_, if_t t (ret_of (tup_of (a1 v_of (a1 v_of a0)) l2))⟩
      · rw [decide_eq_false h] at t
        rw [if_neg h]
        exact ⟨fun _ => ⟨_, if_f (D := sNext) t rfl, _, _, rfl⟩, fun d hd => (by cases hd)⟩)
    have conv : ∀ xs : List Item, xs.findSome? (fun q => (pairW p q).map fun ab => ePair (some ab)) = (xs.findSome? (pairW p)).map fun ab => ePair (some ab) := fun xs => by
      induction xs with
      | nil => rfl
      | cons x xs ih =>
        cases hx : pairW p x with
        | none => rw [List.findSome?_cons_of_isNone (by simp [hx]), List.findSome?_cons_of_isNone (by simp [hx]), ih]
        | some ab => rw [List.findSome?_cons_of_isSome (by simp [hx]), List.findSome?_cons_of_isSome (by simp [hx]), hx]
    rw [conv] at i1 i2
    refine ⟨fun h => ?_, fun d' h => ?_⟩
    · obtain ⟨ρ', h1, c', d', rfl⟩ := i1 h
      exact ⟨_, for_of (mI_of (iLst_of v_of)) h1, _, _, _, _, rfl⟩
    · obtain ⟨ρ', h1⟩ := i2 d' h
      exact ⟨ρ', for_of (mI_of (iLst_of v_of)) h1⟩)
  have conv : ∀ xs : List Item, xs.findSome? (fun p => (its.findSome? (pairW p)).map fun ab => ePair (some ab)) = (xs.findSome? fun p => its.findSome? (pairW p)).map fun ab => ePair (some ab) := fun xs => by
    induction xs with
    | nil => rfl
    | cons x xs ih =>
      cases hx : its.findSome? (pairW x) with
      | none => rw [List.findSome?_cons_of_isNone (by simp [hx]), List.findSome?_cons_of_isNone (by simp [hx]), ih]
      | some ab => rw [List.findSome?_cons_of_isSome (by simp [hx]), List.findSome?_cons_of_isSome (by simp [hx]), hx]
  rw [conv] at outer
  obtain ⟨o1, o2⟩ := outer
  unfold withinW
  cases hw : its.findSome? fun p => its.findSome? (pairW p) with
  | none =>
    obtain ⟨ρ', h1, a, b, c, d, rfl⟩ := o1 (by rw [hw]; rfl)
    exact runQ (seqQ (for_of (mI_of (iLst_of v_of)) h1) (retQ rfl))
  | some ab =>
    obtain ⟨ρ', h1⟩ := o2 (ePair (some ab)) (by rw [hw]; rfl)
    exact runQ (seqQ_ret ⟨ρ', for_of (mI_of (iLst_of v_of)) h1⟩)
end K84
end

section
set_option Elab.async false
set_option linter.all false
set_option maxRecDepth 100000
set_option maxHeartbeats 1000000
namespace K84
open PySem PySem.Spec PyProof.Rows PD PM
/-! ### tree_or_core -/
theorem things_alone (its : List Item) : (thingsW (aloneW its)).length ≤ (thingsW its).length := by
  have : ∀ (c : Int → Bool) (xs : List Item), ((xs.map fun p => (p.1, p.2.filter c)).flatMap fun p => p.2).length ≤ (xs.flatMap fun p => p.2).length := fun c xs => by
    induction xs with
    | nil => simp
    | cons x xs ih =>
      rw [List.map_cons, List.flatMap_cons, List.flatMap_cons, List.length_append, List.length_append]
      have := List.length_filter_le c x.2
      simp only at *
      omega
  exact this _ its
theorem things_filter (f : Item → Bool) (its : List Item) : (thingsW (its.filter f)).length ≤ (thingsW its).length := by
  unfold thingsW
  induction its with
  | nil => simp
  | cons x xs ih =>
    rw [List.flatMap_cons, List.length_append]
    cases h : f x with
    | true => rw [List.filter_cons_of_pos h, List.flatMap_cons, List.length_append]; omega
    | false => rw [List.filter_cons_of_neg (by simp [h])]; omega
theorem enum_items (lots : List (List Int)) : enumD (lots.map eI) = (itemsW lots).map eIt := by
  unfold enumD itemsW
  rw [List.zipIdx_map, List.map_map, List.map_map]
  rfl
theorem tree_or_core_ev {n : Nat} {lots : List (List Int)} (h : VLots n lots) : ∃ d, m_tree_or_core [.int (n : Nat), eL lots] = some (.tuple [.str (if isTree lots then "tree" else "core"), d]) := by
  have l6 : (1000000 : Nat) = lim := rfl
  have l2 : (2 : Nat) ≤ lim := by decide
  have lp := h.len.2
  have len0 : (itemsW lots).length = lots.length := by unfold itemsW; simp
  have few : ∀ l ∈ lots, l.length ≤ 5 := fun l hl => by
    have v := (h.lot l hl).1
    have nd := pw_nodupI v.inc
    have := nodup_sub_len (m := (List.range n).map fun i : Nat => (i : Int)) nd fun t ht => by
      obtain ⟨h0, h1⟩ := v.rng t ht
      exact List.mem_map.mpr ⟨t.toNat, List.mem_range.mpr (by omega), by omega⟩
    simp at this
    have := h.n1
    omega
  have things0 : (thingsW (itemsW lots)).length ≤ 30 := by
    unfold thingsW
    refine Nat.le_trans (flat_len _ 5 _ fun p hp => ?_) (by omega)
    obtain ⟨q, hq, rfl⟩ := List.mem_map.mp hp
    exact few q.1 (List.fst_mem_of_mem_zipIdx hq)
  have first : sPar 2 3 (mD (eUn dEnum (eVar 1))) (mN (nOwn (eBin dMul (eLst (aCons (eC .none) aNil)) (eCall dLen (aCons (eVar 1) aNil))))) (start0 N_tree_or_core.length [.int (n : Nat), eL lots]) = some (.next, [.dat (.int (n : Nat)), .dat (eL lots), .dat (eIts (itemsW lots)), .own false (List.replicate lots.length .none), .unk, .unk, .unk, .unk, .unk]) := by
    have e1 : eUn dEnum (eVar 1) (start0 N_tree_or_core.length [.int (n : Nat), eL lots]) = some (eIts (itemsW lots)) := un_of v_of (by unfold eIts; rw [← enum_items]; rfl)
    have e2 : eBin dMul (eLst (aCons (eC .none) aNil)) (eCall dLen (aCons (eVar 1) aNil)) (start0 N_tree_or_core.length [.int (n : Nat), eL lots]) = some (.list (List.replicate lots.length .none)) := by
      refine bin_of (lst_of (a1 rfl a0) (show 1 ≤ lim by decide)) (eCall_of (a1 v_of a0) (dLen_list _)) ?_
      show (if _ then _ else _) = _
      rw [List.length_map, if_pos (by refine ⟨by omega, by omega, ?_⟩; simp; omega), Int.toNat_natCast]
      congr 2
      generalize lots.length = k
      induction k with
      | zero => rfl
      | succ k ih => rw [List.replicate_succ, List.flatten_cons, ih, List.replicate_succ]; rfl
    unfold sPar
    rw [mD_ev, e1]
    show ((mN _ _).map _) = _
    rw [mN_ev]
    unfold nOwn
    rw [e2]
    rfl
  have loop : ∃ o ρ', sWhile (bOf (eC (.bool true))) (sSeq
      (sSet 2 (mD (eFn 1 m_alone_left (aCons (eVar 2) aNil))))
      (sSeq
      (sSet 4 (mD (eFn 1 m_within_another (aCons (eVar 2) aNil))))
      (sSeq
      (sIf (bOf (eBin dIsN (eVar 4) (eC .none))) sBrk sNext)
      (sSeq
      (sPut 3 (eBin dIx (eVar 4) (eC (.int 0))) (mD (eBin dIx (eVar 4) (eC (.int 1)))))
      (sSet 2 (mD (eLC (iLst (eVar 2)) (tgT [5, 6]) (bOf (eBin dNe (eVar 5) (eBin dIx (eVar 4) (eC (.int 0))))) (eTup (aCons (eVar 5) (aCons (eVar 6) aNil))) [5, 6]))))))) 100000 [.dat (.int (n : Nat)), .dat (eL lots), .dat (eIts (itemsW lots)), .own false (List.replicate lots.length .none), .unk, .unk, .unk, .unk, .unk] = some (o, ρ') ∧
      (o = .next ∧ ∃ nx a4 a5 a6 a7 a8, ρ' = [.dat (.int (n : Nat)), .dat (eL lots), .dat (eIts (treeGo lots.length (itemsW lots))), .own false nx, a4, a5, a6, a7, a8] ∧ (thingsW (treeGo lots.length (itemsW lots))).length ≤ 30) := by
    refine while_inv (P := fun o ρ' => o = .next ∧ ∃ nx a4 a5 a6 a7 a8, ρ' = [.dat (.int (n : Nat)), .dat (eL lots), .dat (eIts (treeGo lots.length (itemsW lots))), .own false nx, a4, a5, a6, a7, a8] ∧ (thingsW (treeGo lots.length (itemsW lots))).length ≤ 30)
      (fun m ρ => ∃ its nx a4 a5 a6 a7 a8 k, ρ = [.dat (.int (n : Nat)), .dat (eL lots), .dat (eIts its), .own false nx, a4, a5, a6, a7, a8] ∧ m = its.length ∧ its.length ≤ k ∧ treeGo k its = treeGo lots.length (itemsW lots) ∧ nx.length = lots.length ∧ (∀ a ∈ its, ∃ i < lots.length, a.1 = ((i : Nat) : Int)) ∧ (thingsW its).length ≤ 30) ?_ 100000 lots.length _ (by omega)
      ⟨itemsW lots, _, _, _, _, _, _, lots.length, rfl, len0.symm, Nat.le_of_eq len0, rfl, by simp, fun a ha => ?_, things0⟩
    · rintro m ρ ⟨its, nx, a4, a5, a6, a7, a8, k, rfl, rfl, hk, hgo, hnx, hix, hth⟩
      refine ⟨rfl, ?_⟩
      have s1 : sSet 2 (mD (eFn 1 m_alone_left (aCons (eVar 2) aNil))) [.dat (.int (n : Nat)), .dat (eL lots), .dat (eIts its), .own false nx, a4, a5, a6, a7, a8] = some (.next, [.dat (.int (n : Nat)), .dat (eL lots), .dat (eIts (aloneW its)), .own false nx, a4, a5, a6, a7, a8]) := setD_of (eFn_of (a1 v_of a0) (alone_left_ev its (by omega)))
      have s2 : sSet 4 (mD (eFn 1 m_within_another (aCons (eVar 2) aNil))) [.dat (.int (n : Nat)), .dat (eL lots), .dat (eIts (aloneW its)), .own false nx, a4, a5, a6, a7, a8] = some (.next, [.dat (.int (n : Nat)), .dat (eL lots), .dat (eIts (aloneW its)), .own false nx, .dat (ePair (withinW (aloneW its))), a5, a6, a7, a8]) := setD_of (eFn_of (a1 v_of a0) (within_another_ev _))
      have tha := things_alone its
      have lenA : (aloneW its).length = its.length := by unfold aloneW; simp
      have ixA : ∀ a ∈ aloneW its, ∃ i < lots.length, a.1 = ((i : Nat) : Int) := fun a ha => by
        obtain ⟨c, hc, rfl⟩ := List.mem_map.mp ha
        exact hix c hc
      cases hw : withinW (aloneW its) with
      | none =>
        rw [hw] at s2
        have fin : treeGo lots.length (itemsW lots) = aloneW its := by
          rw [← hgo]
          cases k with
          | zero =>
            have : its = [] := List.length_eq_zero_iff.mp (by omega)
            subst this
            rfl
          | succ k => unfold treeGo; rw [hw]
        have s3 : sIf (bOf (eBin dIsN (eVar 4) (eC .none))) sBrk sNext [.dat (.int (n : Nat)), .dat (eL lots), .dat (eIts (aloneW its)), .own false nx, .dat (ePair none), a5, a6, a7, a8] = some (.brk, [.dat (.int (n : Nat)), .dat (eL lots), .dat (eIts (aloneW its)), .own false nx, .dat (ePair none), a5, a6, a7, a8]) := rfl
        refine .inr (.inl ⟨_, seq_of s1 (seq_of s2 ?_), rfl, nx, .dat (ePair none), a5, a6, a7, a8, by rw [fin], by rw [fin]; omega⟩)
        unfold sSeq
        rw [s3]
        rfl
      | some ab =>
        obtain ⟨a, b⟩ := ab
        rw [hw] at s2
        obtain ⟨x, hx, y, hy, ex, ey, hab, _⟩ := within_some hw
        obtain ⟨i, hi, ei⟩ := ixA x hx
        have ea : a = (i : Int) := by omega
        have s3 : sIf (bOf (eBin dIsN (eVar 4) (eC .none))) sBrk sNext [.dat (.int (n : Nat)), .dat (eL lots), .dat (eIts (aloneW its)), .own false nx, .dat (ePair (some (a, b))), a5, a6, a7, a8] = some (.next, [.dat (.int (n : Nat)), .dat (eL lots), .dat (eIts (aloneW its)), .own false nx, .dat (ePair (some (a, b))), a5, a6, a7, a8]) := rfl
        have s4 : sPut 3 (eBin dIx (eVar 4) (eC (.int 0))) (mD (eBin dIx (eVar 4) (eC (.int 1)))) [.dat (.int (n : Nat)), .dat (eL lots), .dat (eIts (aloneW its)), .own false nx, .dat (ePair (some (a, b))), a5, a6, a7, a8] = some (.next, [.dat (.int (n : Nat)), .dat (eL lots), .dat (eIts (aloneW its)), .own false (nx.set i (.int b)), .dat (ePair (some (a, b))), a5, a6, a7, a8]) :=
          put_of (d := .int b) (t := false) (ds := nx) (k := a) (j := i) (bin_of v_of rfl rfl) rfl (bin_of v_of rfl rfl) (by rw [ea]; exact ixN_nat (by omega))
        have s5 : eLC (iLst (eVar 2)) (tgT [5, 6]) (bOf (eBin dNe (eVar 5) (eBin dIx (eVar 4) (eC (.int 0))))) (eTup (aCons (eVar 5) (aCons (eVar 6) aNil))) [5, 6] [.dat (.int (n : Nat)), .dat (eL lots), .dat (eIts (aloneW its)), .own false (nx.set i (.int b)), .dat (ePair (some (a, b))), a5, a6, a7, a8] = some (eIts ((aloneW its).filter fun p => !decide (p.1 = a))) := by
          refine eLC_map eIt (fun p => !decide (p.1 = a)) eIt (aloneW its) (iLst_of v_of) (fun p hp => ⟨_, rfl, b_of (bin_of v_of (bin_of v_of rfl rfl) (dNe_int _ _)), fun _ => tup_of (a1 v_of (a1 v_of a0)) l2⟩) rfl
        refine .inl ⟨_, ((aloneW its).filter fun p => !decide (p.1 = a)).length, ?_, .inl (seq_of s1 (seq_of s2 (seq_of s3 (seq_of s4 (setD_of s5))))), (aloneW its).filter (fun p => !decide (p.1 = a)), nx.set i (.int b), .dat (ePair (some (a, b))), a5, a6, a7, a8, k - 1, rfl, rfl, ?_, ?_, by rw [List.length_set]; exact hnx, fun c hc => ixA c (List.mem_filter.mp hc).1, ?_⟩
        · have : ((aloneW its).filter fun p => !decide (p.1 = a)).length < (aloneW its).length := by
            rw [List.length_filter_lt_length_iff_exists]
            exact ⟨x, hx, by simp [ex]⟩
          omega
        · have : ((aloneW its).filter fun p => !decide (p.1 = a)).length < (aloneW its).length := by
            rw [List.length_filter_lt_length_iff_exists]
            exact ⟨x, hx, by simp [ex]⟩
          omega
        · have pos : 0 < its.length := by rw [← lenA]; exact List.length_pos_of_mem hx
          obtain ⟨k', rfl⟩ : ∃ k', k = k' + 1 := ⟨k - 1, by omega⟩
          rw [← hgo]
          rw [Nat.add_sub_cancel]
          conv => rhs; unfold treeGo
          rw [hw]
        · have := things_filter (fun p => !decide (p.1 = a)) (aloneW its)
          omega
    · obtain ⟨q, hq, rfl⟩ := List.mem_map.mp ha
      obtain ⟨l, i⟩ := q
      exact ⟨i, getElem_len (List.mem_zipIdx_iff_getElem?.mp hq), rfl⟩
  obtain ⟨o, ρ', hw, rfl, nx, a4, a5, a6, a7, a8, rfl, hth⟩ := loop
  have chk : sDrop (mD (eFn 2 m_check_joins (aCons (eVar 0) (aCons (eVar 1) aNil)))) (start0 N_tree_or_core.length [.int (n : Nat), eL lots]) = some (.next, start0 N_tree_or_core.length [.int (n : Nat), eL lots]) := dropD_of (eFn_of (a1 v_of (a1 v_of a0)) (check_joins_ev h))
  generalize hfin : treeGo lots.length (itemsW lots) = fin at hw hth
  have test : bOf (eBin dEq (eCall dLen (aCons (eVar 2) aNil)) (eC (.int 1))) [.dat (.int (n : Nat)), .dat (eL lots), .dat (eIts fin), .own false nx, a4, a5, a6, a7, a8] = some (isTree lots) := by
    refine b_of (bin_of (eCall_of (a1 v_of a0) (dLen_list _)) rfl ?_)
    rw [dEq_int]
    unfold isTree
    rw [hfin, List.length_map]
    congr 2
    exact decide_eq_decide.mpr (by omega)
  cases ht : isTree lots with
  | true =>
    rw [ht] at test
    refine ⟨.list nx, runQ (seqQ chk (seqQ first (seqQ hw (seqQ_ret (ifQ_t test ⟨[.dat (.int (n : Nat)), .dat (eL lots), .dat (eIts fin), .dat (.list nx), a4, a5, a6, a7, a8], ?_⟩)))))⟩
    unfold sRetM mTup mCons
    simp only [mD_ev, eC_ev, Option.map_some, Option.bind_some]
    unfold eFrz
    simp [mNil, l2]
  | false =>
    rw [ht] at test
    have hth2 : (thingsW fin).length < 60 := by omega
    have things : eLC2 (iLst (eVar 2)) (tgT [8, 6]) bYes (iLst (eVar 6)) (tgN 7) bYes (eVar 7) [8, 6, 7] [7] [.dat (.int (n : Nat)), .dat (eL lots), .dat (eIts fin), .own false nx, a4, a5, a6, a7, a8] = some (eI (thingsW fin)) := by
      have e2 : (fin.filter fun _ => true) = fin := List.filter_eq_self.mpr fun _ _ => rfl
      have e3 : (fin.flatMap fun x => ((x.2.filter fun _ => true).map fun t => PyData.int t)) = (thingsW fin).map PyData.int := by
        unfold thingsW
        rw [List.map_flatMap]
        refine congrArg (fun f => List.flatMap f _) (funext fun p => ?_)
        rw [List.filter_eq_self.mpr fun _ _ => rfl]
      refine eLC2_map eIt (fun _ => true) PyData.int (fun p => p.2) (fun _ _ => true) (fun _ t => .int t) fin (iLst_of v_of) (fun p hp => ⟨_, rfl, rfl, fun _ => ⟨iLst_of v_of, fun t ht => ⟨_, rfl, rfl, fun _ => v_of⟩⟩⟩) ?_ ?_
      · rw [e2, e3, List.length_map]; omega
      · rw [e2, e3]
    exact ⟨_, runQ (seqQ chk (seqQ first (seqQ hw (seqQ (if_f (D := sNext) test rfl) (retQ (tup_of (a1 rfl (a1 (eSortU_of things hth2) a0)) l2))))))⟩
end K84
end

section
set_option Elab.async false
set_option linter.all false
set_option maxRecDepth 100000
set_option maxHeartbeats 1000000
namespace K84
open PySem PySem.Spec PyProof.Rows PD PM
/-! ### draws -/
theorem dMul_ok {i j : Int} (h : L2.CMul i j) : dMul (.int i) (.int j) = some (.int (i * j)) := by
  show (if _ then _ else _) = _
  rw [if_pos h]
theorem cm_r {i j : Int} (h0 : 0 ≤ j) (h : j < 18446744073709551616) : L2.CMul i j := .inr ⟨by omega, by omega⟩
theorem cm_l {i j : Int} (h0 : 0 ≤ i) (h : i < 18446744073709551616) : L2.CMul i j := .inl ⟨by omega, by omega⟩
theorem dMod_ok {i j : Int} (h : 0 < j) : dMod (.int i) (.int j) = some (.int (i % j)) := by
  show (if _ then _ else _) = _
  rw [if_pos h]
theorem dFdiv_ok {i j : Int} (h : 0 < j) (h2 : j < 1073741824) : dFdiv (.int i) (.int j) = some (.int (i / j)) := by
  show (if _ then _ else _) = _
  rw [if_pos ⟨h, h2⟩]
theorem dInt1_int (i : Int) : dInt1 [.int i] = some (.int i) := rfl
theorem runQ_ex {N n : Nat} {B : SF} {ds : List PyData} (h : ∃ z : Int, RetQ B (start0 N ds) (.int z)) : ∃ z : Int, runP N n B ds = some (.int z) := let ⟨z, h⟩ := h; ⟨z, runQ h⟩
theorem seqQ_ex {B D : SF} {ρ ρ1 : Rho} (h : B ρ = some (.next, ρ1)) (h2 : ∃ z : Int, RetQ D ρ1 (.int z)) : ∃ z : Int, RetQ (sSeq B D) ρ (.int z) := let ⟨z, h2⟩ := h2; ⟨z, seqQ h h2⟩
theorem retQ_ex {F : Rho → Option PyData} {ρ : Rho} {z : Int} (h : F ρ = some (.int z)) : ∃ z : Int, RetQ (sRet F) ρ (.int z) := ⟨z, retQ h⟩
theorem hash_ev (s c : Int) (h0 : 0 ≤ c) (h1 : c < 1000000) : ∃ z, m__law_hash [.int s, .int c] = some (.int z) := by
  refine runQ_ex (seqQ_ex (setD_of (bin_of (eCall_of (a1 (bin_of (bin_of (bin_of (bin_of v_of rfl (dMul_ok (cm_r (by decide) (by decide)))) (bin_of (bin_of rfl v_of (dMul_ok (cm_l (by decide) (by decide)))) v_of (dMul_ok (cm_r h0 (by omega)))) rfl) (bin_of rfl v_of (dMul_ok (cm_l (by decide) (by decide)))) rfl) rfl rfl) a0) (dInt1_int _)) rfl (dMod_ok (by decide)))) ?_)
  generalize hm : (s * 1220147 + 16777903 * c * c + 223 * c + 97) % 2147483629 = m
  have m0 : 0 ≤ m := by omega
  have m1 : m < 2147483629 := by omega
  refine seqQ_ex (setD_of (bin_of (eCall_of (a1 (bin_of (bin_of (bin_of v_of v_of (dMul_ok (cm_r m0 (by omega)))) (bin_of rfl v_of (dMul_ok (cm_l (by decide) (by decide)))) rfl) rfl rfl) a0) (dInt1_int _)) rfl (dMod_ok (by decide)))) ?_
  exact retQ_ex (bin_of (eCall_of (a1 (bin_of v_of rfl (dMul_ok (cm_r (by decide) (by decide)))) a0) (dInt1_int _)) rfl (dMod_ok (by decide)))
/-- a generator that has been drawn from at most k times since .. -/
def Gen (k : Nat) (γ : List PyData) : Prop := ∃ a b c : Int, γ = [.int a, .int b, .int c] ∧ 0 ≤ a ∧ 0 ≤ c ∧ c ≤ k
theorem Gen.mono {j k : Nat} {γ : List PyData} (h : Gen j γ) (hk : j ≤ k) : Gen k γ := by
  obtain ⟨a, b, c, e, h0, h1, h2⟩ := h
  exact ⟨a, b, c, e, h0, h1, by omega⟩
theorem bits30 : ∀ b : Nat, b < 64 → (Builtin.Int.intBits ((b : Nat) : Int) : Int) / 30 = 0 := by decide +kernel
theorem random_ev {k : Nat} {γ : List PyData} (g : Gen k γ) (hk : k < 900000) (b : Nat) (hb : 1 ≤ b ∧ b < 64) : ∃ (r : Nat) (γ' : List PyData), m__law_random γ [.int (b : Nat)] = some (.int (r : Nat), γ') ∧ r < b ∧ Gen (k + 1) γ' := by
  obtain ⟨x, y, z, rfl, x0, z0, zk⟩ := g
  have test : bOf (eBin dGt (eOwnIx 0 (eC (.int 0))) (eC (.int 0))) (startG N__law_random.length [.int x, .int y, .int z] [.int (b : Nat)]) = some (decide (0 < x)) := rfl
  have modr : ∀ v : Int, v % (b : Int) = ((v % (b : Int)).toNat : Nat) ∧ (v % (b : Int)).toNat < b := fun v => by
    have h1 := Int.emod_nonneg v (b := (b : Int)) (by omega)
    have h2 := Int.emod_lt_of_pos v (b := (b : Int)) (by omega)
    omega
  by_cases hx : 0 < x
  · rw [decide_eq_true hx] at test
    have s1 : sSet 2 (mD (eBin dMod (eCall dInt1 (aCons (eOwnIx 0 (eC (.int 0))) aNil)) (eVar 1))) (startG N__law_random.length [.int x, .int y, .int z] [.int (b : Nat)]) = some (.next, [.own true [.int x, .int y, .int z], .dat (.int (b : Nat)), .dat (.int (x % (b : Nat))), .unk]) := setD_of (bin_of (d := .int x) rfl v_of (dMod_ok (by omega)))
    have s2 : sPut 0 (eC (.int 0)) (mD (eBin dFdiv (eOwnIx 0 (eC (.int 0))) (eVar 1))) [.own true [.int x, .int y, .int z], .dat (.int (b : Nat)), .dat (.int (x % (b : Nat))), .unk] = some (.next, [.own true [.int (x / (b : Nat)), .int y, .int z], .dat (.int (b : Nat)), .dat (.int (x % (b : Nat))), .unk]) := by
      have fd : eBin dFdiv (eOwnIx 0 (eC (.int 0))) (eVar 1) [.own true [.int x, .int y, .int z], .dat (.int (b : Nat)), .dat (.int (x % (b : Nat))), .unk] = some (.int (x / (b : Nat))) := bin_of (d := .int x) (e := .int (b : Nat)) rfl rfl (dFdiv_ok (by omega) (by omega))
      exact put_of (t := true) (ds := [.int x, .int y, .int z]) (k := 0) (j := 0) fd rfl rfl rfl
    refine ⟨(x % (b : Int)).toNat, [.int (x / (b : Nat)), .int y, .int z], ?_, (modr x).2, x / (b : Nat), y, z, rfl, Int.ediv_nonneg x0 (by omega), z0, by omega⟩
    unfold m__law_random runG b__law_random_
    rw [seq_ret (if_t test (seq_of s1 (seq_of s2 (ret_of (d := .int (x % (b : Nat))) v_of))))]
    rw [← (modr x).1]
    rfl
  · rw [decide_eq_false hx] at test
    have xe : x = 0 := by omega
    subst xe
    obtain ⟨h, hh⟩ := hash_ev y (z + 1) (by omega) (by omega)
    have s1 : sSet 2 (mD (eC (.int 0))) (startG N__law_random.length [.int 0, .int y, .int z] [.int (b : Nat)]) = some (.next, [.own true [.int 0, .int y, .int z], .dat (.int (b : Nat)), .dat (.int 0), .unk]) := rfl
    have src : mI (iRange1 (eBin dAdd (eC (.int 1)) (eBin dFdiv (eUn dBits (eVar 1)) (eC (.int 30))))) [.own true [.int 0, .int y, .int z], .dat (.int (b : Nat)), .dat (.int 0), .unk] = some ([.int 0], [.own true [.int 0, .int y, .int z], .dat (.int (b : Nat)), .dat (.int 0), .unk]) := by
      refine mI_of ?_
      have e : eBin dAdd (eC (.int 1)) (eBin dFdiv (eUn dBits (eVar 1)) (eC (.int 30))) [.own true [.int 0, .int y, .int z], .dat (.int (b : Nat)), .dat (.int 0), .unk] = some (.int ((1 : Nat) : Int)) := bin_of rfl (bin_of (d := .int (Builtin.Int.intBits ((b : Nat) : Int) : Nat)) rfl rfl (dFdiv_ok (by decide) (by decide))) (by rw [bits30 b hb.2]; rfl)
      rw [iRange1_of e (by decide)]
      rfl
    have t1 : sPut 0 (eC (.int 2)) (mD (eBin dAdd (eOwnIx 0 (eC (.int 2))) (eC (.int 1)))) [.own true [.int 0, .int y, .int z], .dat (.int (b : Nat)), .dat (.int 0), .dat (.int 0)] = some (.next, [.own true [.int 0, .int y, .int (z + 1)], .dat (.int (b : Nat)), .dat (.int 0), .dat (.int 0)]) := put_of (t := true) (ds := [.int 0, .int y, .int z]) (k := 2) (j := 2) (d := .int (z + 1)) rfl rfl rfl rfl
    have t2 : sSet 2 (mD (eBin dAdd (eBin dMul (eVar 2) (eC (.int 2147483587))) (eFn 2 m__law_hash (aCons (eOwnIx 0 (eC (.int 1))) (aCons (eOwnIx 0 (eC (.int 2))) aNil))))) [.own true [.int 0, .int y, .int (z + 1)], .dat (.int (b : Nat)), .dat (.int 0), .dat (.int 0)] = some (.next, [.own true [.int 0, .int y, .int (z + 1)], .dat (.int (b : Nat)), .dat (.int (0 * 2147483587 + h)), .dat (.int 0)]) :=
      setD_of (bin_of (bin_of v_of rfl (dMul_ok (cm_l (by decide) (by decide)))) (eFn_of (a1 (d := .int y) rfl (a1 (d := .int (z + 1)) rfl a0)) hh) rfl)
    have lp : sFor (mI (iRange1 (eBin dAdd (eC (.int 1)) (eBin dFdiv (eUn dBits (eVar 1)) (eC (.int 30)))))) (tgN 3) (sSeq
      (sPut 0 (eC (.int 2)) (mD (eBin dAdd (eOwnIx 0 (eC (.int 2))) (eC (.int 1)))))
      (sSet 2 (mD (eBin dAdd (eBin dMul (eVar 2) (eC (.int 2147483587))) (eFn 2 m__law_hash (aCons (eOwnIx 0 (eC (.int 1))) (aCons (eOwnIx 0 (eC (.int 2))) aNil))))))) [.own true [.int 0, .int y, .int z], .dat (.int (b : Nat)), .dat (.int 0), .unk] = some (.next, [.own true [.int 0, .int y, .int (z + 1)], .dat (.int (b : Nat)), .dat (.int (0 * 2147483587 + h)), .dat (.int 0)]) := by
      refine for_of src ?_
      rw [forGo]
      show ((sSeq _ _ [.own true [.int 0, .int y, .int z], .dat (.int (b : Nat)), .dat (.int 0), .dat (.int 0)]).bind _) = _
      rw [seq_of t1 t2]
      rfl
    refine ⟨((0 * 2147483587 + h) % (b : Int)).toNat, [.int 0, .int y, .int (z + 1)], ?_, (modr _).2, 0, y, z + 1, rfl, Int.le_refl 0, by omega, by omega⟩
    unfold m__law_random runG b__law_random_
    rw [seq_of (if_f (D := sNext) test rfl) (seq_of s1 (seq_of lp (ret_of (d := .int ((0 * 2147483587 + h) % (b : Int))) (bin_of (eCall_of (a1 v_of a0) (dInt1_int _)) v_of (dMod_ok (by omega))))))]
    rw [← (modr _).1]
    rfl
end K84
end

section
set_option Elab.async false
set_option linter.all false
set_option maxRecDepth 100000
set_option maxHeartbeats 1000000
namespace K84
open PySem PySem.Spec PyProof.Rows PD PM
/-! ### the generator, picks -/
abbrev scr (ns : List Int) : PyData := .dict [(.none, .list (ns.map .int))]
theorem cell_ev (ns : List Int) (i : Nat) (hl : ns.length ≤ 63) : ∃ z, m__law_cell [scr ns, .int (i : Nat)] = some (.int z) := by
  have l6 : (1000000 : Nat) = lim := rfl
  have test : bOf (eBin dLt (eVar 1) (eCall dLen (aCons (eVar 0) aNil))) (start0 N__law_cell.length [scr ns, .int (i : Nat)]) = some (decide ((i : Int) < ns.length)) := by
    refine b_of (bin_of v_of (eCall_of (d := .int ns.length) (a1 v_of a0) ?_) rfl)
    show some (PyData.int _) = _
    rw [List.length_map]
  by_cases h : (i : Int) < ns.length
  · rw [decide_eq_true h] at test
    have hi : i < ns.length := by omega
    refine ⟨ns[i], runQ (seqQ_ret (ifQ_t test (retQ (bin_of v_of v_of ?_))))⟩
    exact atI_nat (j := i) (by rw [List.getElem?_map, List.getElem?_eq_getElem hi]; rfl) rfl
  · rw [decide_eq_false h] at test
    refine ⟨(ns.take 1).sum % 1000003, runQ (seqQ (if_f (D := sNext) test rfl) (retQ (bin_of (eCall_of (a1 (d := eI (ns.take 1)) ?_ a0) (d := .int (ns.take 1).sum) ?_) rfl (dMod_ok (by decide)))))⟩
    · unfold eCut
      have e : eVar 0 (start0 N__law_cell.length [scr ns, .int (i : Nat)]) = some (scr ns) := v_of
      rw [e]
      show (if _ then _ else _) = _
      have e1 : PD.cutD (ns.map PyData.int) none (some 1) = (ns.map PyData.int).take 1 := cut_take _ 1
      rw [e1, if_pos (by simp; omega), ← List.map_take]
    · show ((intsOf ((ns.take 1).map PyData.int)).map _) = _
      rw [intsOf_ints]
      rfl
theorem pow_ok (i j : Int) (h : CPowD i j) : dPow (.int i) (.int j) = some (.int (i ^ j.toNat)) := by
  show (if _ then _ else _) = _
  rw [if_pos h]
theorem generator_ev (ns : List Int) (i : Nat) (hl : ns.length ≤ 63) (hi : i < 4) : ∃ γ, m__law_generator [scr ns, .int (i : Nat)] = some γ ∧ Gen 3000 γ := by
  obtain ⟨s, hs⟩ := cell_ev ns i hl
  have e1 : sSet 2 (mD (eFn 2 m__law_cell (aCons (eVar 0) (aCons (eVar 1) aNil)))) (start0 N__law_generator.length [scr ns, .int (i : Nat)]) = some (.next, [.dat (scr ns), .dat (.int (i : Nat)), .dat (.int s)]) := setD_of (eFn_of (a1 v_of (a1 v_of a0)) hs)
  have p1 : eBin dPow (eC (.int 10)) (eC (.int 18)) [.dat (scr ns), .dat (.int (i : Nat)), .dat (.int s)] = some (.int (10 ^ (18 : Int).toNat)) := bin_of rfl rfl (pow_ok _ _ (by decide +kernel))
  have p2 : eBin dPow (eBin dPow (eC (.int 10)) (eC (.int 60))) (eC (.int 10)) [.dat (scr ns), .dat (.int (i : Nat)), .dat (.int s)] = some (.int ((10 ^ (60 : Int).toNat) ^ (10 : Int).toNat)) := bin_of (bin_of rfl rfl (pow_ok _ _ (by decide +kernel))) rfl (pow_ok _ _ (by decide +kernel))
  have f1 : eBin dMod (eCall dInt1 (aCons (eCall dMax2 (aCons (eBin dSub (eVar 2) (eBin dPow (eC (.int 10)) (eC (.int 18)))) (aCons (eC (.int 0)) aNil))) aNil)) (eBin dPow (eBin dPow (eC (.int 10)) (eC (.int 60))) (eC (.int 10))) [.dat (scr ns), .dat (.int (i : Nat)), .dat (.int s)] = some (.int ((if (0 : Int) > s - 10 ^ (18 : Int).toNat then 0 else s - 10 ^ (18 : Int).toNat) % ((10 ^ (60 : Int).toNat) ^ (10 : Int).toNat))) :=
    bin_of (eCall_of (a1 (eCall_of (a1 (bin_of v_of p1 rfl) (a1 rfl a0)) rfl) a0) (dInt1_int _)) p2 (dMod_ok (by decide +kernel))
  have f2 : eBin dMod (eCall dInt1 (aCons (eVar 2) aNil)) (eC (.int 2147483647)) [.dat (scr ns), .dat (.int (i : Nat)), .dat (.int s)] = some (.int (s % 2147483647)) := bin_of (eCall_of (a1 v_of a0) (dInt1_int _)) rfl (dMod_ok (by decide))
  have f3 : eBin dMul (eC (.int 1000)) (eVar 1) [.dat (scr ns), .dat (.int (i : Nat)), .dat (.int s)] = some (.int (1000 * (i : Nat))) := bin_of rfl v_of (dMul_ok (cm_l (by decide) (by decide)))
  generalize hA : (if (0 : Int) > s - 10 ^ (18 : Int).toNat then 0 else s - 10 ^ (18 : Int).toNat) % ((10 ^ (60 : Int).toNat) ^ (10 : Int).toNat) = A at f1
  have A0 : 0 ≤ A := by rw [← hA]; exact Int.emod_nonneg _ (by decide +kernel)
  refine ⟨[.int A, .int (s % 2147483647), .int (1000 * (i : Nat))], ?_, A, _, _, rfl, A0, by omega, by omega⟩
  · show b__law_generator_ _ = _
    unfold b__law_generator_ fSeq
    rw [e1]
    simp only [Option.bind_some]
    unfold fRet
    rw [mN_ev]
    unfold nOwn
    rw [lst_of (a1 f1 (a1 f2 (a1 f3 a0))) (show 3 ≤ lim by decide)]
    simp only [Option.bind_some, Option.map_some]
theorem mGen_of {i n : Nat} {m : List PyData → List PyData → Option (PyData × List PyData)} {L : Rho → Option (List PyData × Rho)} {ρ ρ1 : Rho} {t t1 : Bool} {γ γ1 γ' ds : List PyData} {d : PyData} (h0 : ρ[i]? = some (.own t γ)) (hL : L ρ = some (ds, ρ1)) (h1 : ρ1[i]? = some (.own t1 γ1)) (hm : m γ1 ds = some (d, γ')) (hn : ds.length = n := by rfl) : mGen i n m L ρ = some (.dat d, ρ1.set i (.own t1 γ')) := by
  unfold mGen ownAt
  rw [h0]
  show ((L ρ).bind _) = _
  rw [hL]
  show (match ρ1[i]? with | some (.own t γ) => _ | _ => _) = _
  rw [h1]
  show (if _ then _ else _) = _
  rw [if_pos hn, hm]
  rfl
theorem mA_of {L : Rho → Option (List PyData)} {ρ : Rho} {ds : List PyData} (h : L ρ = some ds) : mA L ρ = some (ds, ρ) := by unfold mA; rw [h]; rfl
theorem mBin_of {f : PyData → PyData → Option PyData} {M N : Rho → Option (Ent × Rho)} {ρ ρ1 ρ2 : Rho} {d e z : PyData} (h1 : M ρ = some (.dat d, ρ1)) (h2 : N ρ1 = some (.dat e, ρ2)) (h3 : f d e = some z) : mBin f M N ρ = some (.dat z, ρ2) := by
  unfold mBin
  rw [h1]
  show ((N ρ1).bind _) = _
  rw [h2]
  show ((f d e).map _) = _
  rw [h3]
  rfl
theorem mD_of {F : Rho → Option PyData} {ρ : Rho} {d : PyData} (h : F ρ = some d) : mD F ρ = some (.dat d, ρ) := by rw [mD_ev, h]; rfl
theorem pick_ev {k : Nat} {γ : List PyData} (g : Gen k γ) (hk : k < 900000) (xs : List (List Int)) (h1 : 1 ≤ xs.length) (h2 : xs.length < 64) : ∃ (l : List Int) (γ' : List PyData), m__law_pick γ [eL xs] = some (eI l, γ') ∧ l ∈ xs ∧ Gen (k + 1) γ' := by
  obtain ⟨r, γ', e, hr, g'⟩ := random_ev g hk xs.length ⟨h1, h2⟩
  refine ⟨xs[r], γ', ?_, List.getElem_mem hr, g'⟩
  have em : mBin dIx (mD (eVar 1)) (mGen 0 1 m__law_random (mA (aCons (eCall dLen (aCons (eVar 1) aNil)) aNil))) (startG N__law_pick.length γ [eL xs]) = some (.dat (eI xs[r]), [.own true γ', .dat (eL xs)]) := by
    refine mBin_of (mD_of v_of) (mGen_of (t := true) (γ := γ) rfl (mA_of (ds := [.int (xs.length : Nat)]) (a1 (eCall_of (a1 v_of a0) (by rw [dLen_list, List.length_map])) a0)) (t1 := true) (γ1 := γ) rfl e) ?_
    exact atI_nat (j := r) (by rw [List.getElem?_map, List.getElem?_eq_getElem hr]; rfl) rfl
  unfold m__law_pick runG b__law_pick_ sRetM
  rw [em]
  rfl
end K84
end

section
set_option Elab.async false
set_option linter.all false
set_option maxRecDepth 100000
set_option maxHeartbeats 1000000
namespace K84
open PySem PySem.Spec PyProof.Rows PD PM
/-! ### drawn joins -/
theorem mRange1_of {M : Rho → Option (Ent × Rho)} {ρ ρ1 : Rho} {n : Nat} (h : M ρ = some (.dat (.int (n : Nat)), ρ1)) (hn : n ≤ 1000000) : mRange1 M ρ = some ((List.range n).map fun i => PyData.int (i : Nat), ρ1) := by
  unfold mRange1
  rw [h]
  show (if _ then _ else _) = _
  rw [if_pos (by omega), Int.toNat_natCast, rng_nat]
/-- found + [x] * int(x not in found) -/
def addW (found : List (List Int)) (x : List Int) : List (List Int) := if x ∈ found then found else found ++ [x]
theorem add_ev {ρ : Rho} {i j : Nat} {found : List (List Int)} {x : List Int} (hi : ρ[i]? = some (.dat (eL found))) (hj : ρ[j]? = some (.dat (eI x))) (hl : found.length ≤ 1000) : eBin dAdd (eVar i) (eBin dMul (eLst (aCons (eVar j) aNil)) (eCall dInt1 (aCons (eBin (dIn true) (eVar j) (eVar i)) aNil))) ρ = some (eL (addW found x)) := by
  have l6 : (1000000 : Nat) = lim := rfl
  have h1 : eLst (aCons (eVar j) aNil) ρ = some (.list [eI x]) := lst_of (a1 (v_of hj) a0) (show 1 ≤ lim by decide)
  have h2 : eBin (dIn true) (eVar j) (eVar i) ρ = some (.bool (!decide (x ∈ found))) := bin_of (v_of hj) (v_of hi) (dIn_eI true x found)
  unfold addW
  by_cases h : x ∈ found
  · rw [decide_eq_true h] at h2
    rw [if_pos h]
    refine bin_of (v_of hi) (bin_of (z := .list []) h1 (eCall_of (a1 h2 a0) (d := .int 0) rfl) rfl) ?_
    rw [dAdd_list (by simp; omega), List.append_nil]
  · rw [decide_eq_false h] at h2
    rw [if_neg h]
    refine bin_of (v_of hi) (bin_of (z := .list [eI x]) h1 (eCall_of (a1 h2 a0) (d := .int 1) rfl) rfl) ?_
    rw [dAdd_list (by simp; omega)]
    simp
theorem addW_nodup {f : List (List Int)} {x : List Int} (h : f.Nodup) : (addW f x).Nodup := by
  unfold addW
  split
  · exact h
  · rename_i hx
    rw [List.nodup_append]
    exact ⟨h, by simp, fun a ha b hb e => hx (by rw [List.mem_singleton.mp hb] at e; exact e ▸ ha)⟩
theorem addW_mem {f : List (List Int)} {x y : List Int} : y ∈ addW f x ↔ y ∈ f ∨ y = x := by
  unfold addW
  split
  · rename_i hx
    exact ⟨.inl, fun h => h.elim id fun e => e ▸ hx⟩
  · simp
theorem addW_len (f : List (List Int)) (x : List Int) : f.length ≤ (addW f x).length ∧ (addW f x).length ≤ f.length + 1 := by
  unfold addW
  split
  · omega
  · simp
/-! facts about the lots of few things -/
theorem lots_facts : ∀ n ∈ [1, 2, 3, 4], ((lawLots n).drop 1 = (isrt leN (subs n)).drop 1) ∧ (∀ l ∈ (isrt leN (subs n)).drop 1, l ≠ [] ∧ (∀ t ∈ l, 0 ≤ t ∧ t < (n : Int)) ∧ l.length ≤ 100) ∧ ((isrt leN (subs n)).drop 1).length < 64 ∧ 1 ≤ ((isrt leN (subs n)).drop 1).length := by decide +kernel
theorem lots_inc : ∀ n ∈ [1, 2, 3, 4], ∀ l ∈ isrt leN (subs n), l.Pairwise (· < ·) := by decide +kernel
theorem lots_place : ∀ n ∈ [1, 2, 3, 4], (((isrt leN (subs n)).drop 1).map (place n)).Pairwise (· < ·) := by decide +kernel
theorem lots_nodup : ∀ n ∈ [1, 2, 3, 4], ((isrt leN (subs n)).drop 1).Nodup := by decide +kernel
theorem lots_head : ∀ n ∈ [1, 2, 3, 4], (isrt leN (subs n)).take 1 = [[]] := by decide +kernel
theorem subs_go (c : Int → Bool) : ∀ (ts : List Nat) (f : List (List Int)) (x : List Int), x ∈ f → x ++ ((ts.map fun t : Nat => (t : Int)).filter c) ∈ ts.foldl subStep f
  | [], f, x, h => by simpa using h
  | t :: ts, f, x, h => by
    rw [List.foldl_cons, List.map_cons]
    cases hc : c t with
    | true =>
      rw [List.filter_cons_of_pos hc]
      have := subs_go c ts (subStep f t) (x ++ [(t : Int)]) (by unfold subStep; rw [List.mem_append]; exact .inr (List.mem_map.mpr ⟨x, h, rfl⟩))
      simpa using this
    | false =>
      rw [List.filter_cons_of_neg (by simp [hc])]
      exact subs_go c ts (subStep f t) x (by unfold subStep; rw [List.mem_append]; exact .inl h)
theorem filter_lot {n : Nat} (hn : n ∈ [1, 2, 3, 4]) (c : Int → Bool) (h : ((List.range n).map fun t : Nat => (t : Int)).filter c ≠ []) : ((List.range n).map fun t : Nat => (t : Int)).filter c ∈ (isrt leN (subs n)).drop 1 := by
  have h1 : ((List.range n).map fun t : Nat => (t : Int)).filter c ∈ subs n := by
    have := subs_go c (List.range n) [[]] [] (by simp)
    simpa [subs] using this
  have h2 := (isrt_perm leN (subs n)).mem_iff.mpr h1
  rw [← List.take_append_drop 1 (isrt leN (subs n)), lots_head n hn, List.mem_append] at h2
  rcases h2 with h2 | h2
  · exact absurd (List.mem_singleton.mp h2) h
  · exact h2
theorem joins_ev {k : Nat} {γ : List PyData} (g : Gen k γ) (hk : k < 800000) {n : Nat} (hn : n ∈ [1, 2, 3, 4]) : ∃ (js : List (List Int)) (γ' : List PyData), m__law_joins γ [.int (n : Nat)] = some (eL js, γ') ∧ VLots n js ∧ Gen (k + 6) γ' := by
  have l6 : (1000000 : Nat) = lim := rfl
  have l2 : (2 : Nat) ≤ lim := by decide
  have n4 : 1 ≤ n ∧ n ≤ 4 := by simp at hn; omega
  obtain ⟨f1, f2, f3, f4⟩ := lots_facts n hn
  generalize hLe : (isrt leN (subs n)).drop 1 = L at f1 f2 f3 f4
  have first : sUnp (tgT [5, 4]) (eTup (aCons (eCut (eFn 1 m__law_lots (aCons (eVar 1) aNil)) (oS (eC (.int 1))) oN) (aCons (eLst aNil) aNil))) (startG N__law_joins.length γ [.int (n : Nat)]) = some (.next, [.own true γ, .dat (.int (n : Nat)), .unk, .unk, .dat (eL []), .dat (eL L), .unk, .unk]) := by
    refine unp_of (d := .tuple [eL L, eL []]) (tup_of (a1 ?_ (a1 (lst_of a0 (by decide)) a0)) l2) rfl
    rw [cut_of (xs := (lawLots n).map eI) (l := some 1) (u := none) (eFn_of (a1 v_of a0) (law_lots_ev n (by omega))) rfl rfl]
    have := cut_drop ((lawLots n).map eI) 1
    rw [show (1 : Int) = ((1 : Nat) : Int) from rfl, this, ← List.map_drop, f1]
  obtain ⟨r, γ1, hr, hr5, g1⟩ := random_ev g (by omega) 5 ⟨by decide, by decide⟩
  have src : mRange1 (mBin dAdd (mD (eC (.int 1))) (mGen 0 1 m__law_random (mA (aCons (eC (.int 5)) aNil)))) [.own true γ, .dat (.int (n : Nat)), .unk, .unk, .dat (eL []), .dat (eL L), .unk, .unk] = some ((List.range (1 + r)).map fun i => PyData.int (i : Nat), [.own true γ1, .dat (.int (n : Nat)), .unk, .unk, .dat (eL []), .dat (eL L), .unk, .unk]) := by
    refine mRange1_of (mBin_of (mD_of rfl) (mGen_of (t := true) (t1 := true) (γ := γ) (γ1 := γ) rfl (mA_of (ds := [.int ((5 : Nat) : Int)]) rfl) rfl hr) ?_) (by omega)
    show some (PyData.int _) = _
    congr 2
  have loop : NextQ (sFor (mRange1 (mBin dAdd (mD (eC (.int 1))) (mGen 0 1 m__law_random (mA (aCons (eC (.int 5)) aNil))))) (tgN 2) (sSeq
      (sSet 6 (mGen 0 1 m__law_pick (mA (aCons (eVar 5) aNil))))
      (sSet 4 (mD (eBin dAdd (eVar 4) (eBin dMul (eLst (aCons (eVar 6) aNil)) (eCall dInt1 (aCons (eBin (dIn true) (eVar 6) (eVar 4)) aNil)))))))) [.own true γ, .dat (.int (n : Nat)), .unk, .unk, .dat (eL []), .dat (eL L), .unk, .unk]
      (fun ρ => ∃ γ2 a2 a6 found, ρ = [.own true γ2, .dat (.int (n : Nat)), a2, .unk, .dat (eL found), .dat (eL L), a6, .unk] ∧ Gen (k + 6) γ2 ∧ found.length ≤ 5 ∧ 1 ≤ found.length ∧ found.Nodup ∧ ∀ l ∈ found, l ∈ L) := by
    refine forN (fun i : Nat => PyData.int (i : Nat)) (List.range (1 + r)) (fun d1 ρ => ∃ γ2 a2 a6 found, ρ = [.own true γ2, .dat (.int (n : Nat)), a2, .unk, .dat (eL found), .dat (eL L), a6, .unk] ∧ Gen (k + 1 + d1.length) γ2 ∧ found.length ≤ d1.length ∧ (d1 ≠ [] → 1 ≤ found.length) ∧ found.Nodup ∧ ∀ l ∈ found, l ∈ L) src ⟨γ1, _, _, [], rfl, by simpa using g1, by simp, fun z => absurd rfl z, by simp, by simp⟩ ?_ ?_
    · rintro d1 t d2 ρ hd ⟨γ2, a2, a6, found, rfl, g2, h1, h2, h3, h4⟩
      have dl : d1.length < 1 + r := by
        have := congrArg List.length hd
        simp at this
        omega
      obtain ⟨l, γ3, e3, hl, g3⟩ := pick_ev g2 (by omega) L f4 f3
      have s1 : sSet 6 (mGen 0 1 m__law_pick (mA (aCons (eVar 5) aNil))) [.own true γ2, .dat (.int (n : Nat)), .dat (.int (t : Nat)), .unk, .dat (eL found), .dat (eL L), a6, .unk] = some (.next, [.own true γ3, .dat (.int (n : Nat)), .dat (.int (t : Nat)), .unk, .dat (eL found), .dat (eL L), .dat (eI l), .unk]) := set_of (mGen_of (t := true) (t1 := true) (γ := γ2) (γ1 := γ2) rfl (mA_of (a1 v_of a0)) rfl e3)
      have al := addW_len found l
      refine ⟨_, rfl, seqN s1 (nextQ (setD_of (add_ev (i := 4) (j := 6) rfl rfl (by omega))) ⟨γ3, .dat (.int (t : Nat)), .dat (eI l), addW found l, rfl, ?_, ?_, fun _ => ?_, addW_nodup h3, fun y hy => ?_⟩)⟩
      · rw [List.length_append, List.length_singleton]; exact g3.mono (by omega)
      · rw [List.length_append, List.length_singleton]; omega
      · unfold addW
        split
        · rename_i hm; exact List.length_pos_of_mem hm
        · simp
      · rcases addW_mem.mp hy with hy | rfl
        · exact h4 y hy
        · exact hl
    · rintro ρ ⟨γ2, a2, a6, found, rfl, g2, h1, h2, h3, h4⟩
      rw [List.length_range] at g2 h1
      exact ⟨γ2, a2, a6, found, rfl, g2.mono (by omega), by omega, h2 (fun z => by have := congrArg List.length z; simp at this), h3, h4⟩
  obtain ⟨ρ2, hloop, γ2, a2, a6, found, rfl, g2, h5, h1, hnd, hsub⟩ := loop
  -- what is missing
  obtain ⟨miss, hmiss⟩ : ∃ miss, miss = ((List.range n).map fun t : Nat => (t : Int)).filter fun t => decide (found.filter (fun l => decide (t ∈ l)) = []) := ⟨_, rfl⟩
  have s3 : sSet 3 (mD (eLC (iRange1 (eVar 1)) (tgN 7) (bOf (eBin dEq (eLC (iLst (eVar 4)) (tgN 6) (bOf (eBin (dIn false) (eVar 7) (eVar 6))) (eVar 6) [6]) (eLst aNil))) (eVar 7) [7])) [.own true γ2, .dat (.int (n : Nat)), a2, .unk, .dat (eL found), .dat (eL L), a6, .unk] = some (.next, [.own true γ2, .dat (.int (n : Nat)), a2, .dat (eI miss), .dat (eL found), .dat (eL L), a6, .unk]) := by
    refine setD_of (d := eI miss) (eLC_map (fun j : Nat => PyData.int (j : Nat)) (fun j : Nat => decide (found.filter (fun l => decide (((j : Nat) : Int) ∈ l)) = [])) (fun j : Nat => PyData.int (j : Nat)) (List.range n) (iRange1_of v_of (by omega)) (fun j hj => ⟨_, rfl, ?_, fun _ => v_of⟩) (hz := ?_))
    · refine b_of (bin_of (d := eL (found.filter (fun l => decide (((j : Nat) : Int) ∈ l)))) (e := eL []) (eLC_map eI (fun l => decide (((j : Nat) : Int) ∈ l)) eI found (iLst_of v_of) (fun l hl => ⟨_, rfl, b_of (bin_of v_of v_of (dIn_int false _ _)), fun _ => v_of⟩) rfl) (lst_of a0 (by decide)) (dEq_eL _ _))
    · rw [hmiss]
      show PyData.list _ = PyData.list _
      rw [List.filter_map, List.map_map]
      rfl
  obtain ⟨all, hall⟩ : ∃ all, all = found ++ if miss ≠ [] then [miss] else [] := ⟨_, rfl⟩
  have s4 : sSet 4 (mD (eBin dAdd (eVar 4) (eIf (bOf (eBin dNe (eVar 3) (eLst aNil))) (eLst (aCons (eVar 3) aNil)) (eLst aNil)))) [.own true γ2, .dat (.int (n : Nat)), a2, .dat (eI miss), .dat (eL found), .dat (eL L), a6, .unk] = some (.next, [.own true γ2, .dat (.int (n : Nat)), a2, .dat (eI miss), .dat (eL all), .dat (eL L), a6, .unk]) := by
    have test : bOf (eBin dNe (eVar 3) (eLst aNil)) [.own true γ2, .dat (.int (n : Nat)), a2, .dat (eI miss), .dat (eL found), .dat (eL L), a6, .unk] = some (!decide (miss = [])) := b_of (bin_of (e := eI []) v_of (lst_of a0 (by decide)) (dNe_eI _ _))
    refine setD_of (d := eL all) (bin_of (d := eL found) (e := eL (if miss ≠ [] then [miss] else [])) v_of ?_ ?_)
    · rw [eIf_ev, test]
      by_cases hm : miss = []
      · simp [hm]
      · have : (1 : Nat) ≤ lim := by decide
        simp [hm, this]
    · rw [dAdd_list (by
        simp only [List.length_map]
        split <;> simp <;> omega), hall]
      simp
  have ret : RetQ (sRet (eLC (iLst (eVar 5)) (tgN 6) (bOf (eBin (dIn false) (eVar 6) (eVar 4))) (eVar 6) [6])) [.own true γ2, .dat (.int (n : Nat)), a2, .dat (eI miss), .dat (eL all), .dat (eL L), a6, .unk] (eL (L.filter fun l => decide (l ∈ all))) := retQ (eLC_map eI (fun l => decide (l ∈ all)) eI L (iLst_of v_of) (fun l hl => ⟨_, rfl, b_of (bin_of v_of v_of (dIn_eI false _ _)), fun _ => v_of⟩) rfl)
  have allL : ∀ l ∈ all, l ∈ L := fun l hl => by
    rw [hall] at hl
    rcases List.mem_append.mp hl with hl | hl
    · exact hsub l hl
    · split at hl
      · rename_i hm
        rw [List.mem_singleton.mp hl, hmiss, ← hLe]
        exact filter_lot hn _ (hmiss ▸ hm)
      · cases hl
  have allen : all.length ≤ 6 := by
    rw [hall, List.length_append]
    split <;> simp <;> omega
  refine ⟨L.filter fun l => decide (l ∈ all), γ2, ?_, ⟨⟨n4.1, by omega⟩, ⟨?_, ?_⟩, fun l hl => ?_, fun l hl => ?_, ?_, fun j hj => ?_⟩, g2⟩
  · obtain ⟨ρ3, hret⟩ := ret
    -- the slot of the generator
    have : ρ3 = [.own true γ2, .dat (.int (n : Nat)), a2, .dat (eI miss), .dat (eL all), .dat (eL L), a6, .unk] := by
      rw [sRet_ev] at hret
      obtain ⟨d, _, e⟩ := Option.map_eq_some_iff.mp hret
      cases e
      rfl
    subst this
    unfold m__law_joins runG b__law_joins_
    rw [seq_of first (seq_of hloop (seq_of s3 (seq_of s4 hret)))]
    rfl
  · obtain ⟨l, hl⟩ := List.exists_mem_of_length_pos (l := found) (by omega)
    exact List.length_pos_of_mem (List.mem_filter.mpr ⟨hsub l hl, decide_eq_true (by rw [hall]; exact List.mem_append_left _ hl)⟩)
  · refine Nat.le_trans (nodup_sub_len (m := all) ?_ fun x hx => of_decide_eq_true (List.mem_filter.mp hx).2) allen
    have := lots_nodup n hn
    rw [hLe] at this
    exact this.filter _
  · have hL := (List.mem_filter.mp hl).1
    obtain ⟨e1, e2, e3⟩ := f2 l hL
    refine ⟨⟨lots_inc n hn l ?_, e2, e3⟩, e1⟩
    rw [← hLe] at hL
    exact List.mem_of_mem_drop hL
  · have hL := (List.mem_filter.mp hl).1
    rw [← hLe] at hL
    exact List.mem_of_mem_drop hL
  · have := lots_place n hn
    rw [hLe] at this
    exact this.sublist (List.filter_sublist.map _)
  · by_cases hx : found.filter (fun l => decide (((j : Nat) : Int) ∈ l)) = []
    · have hm : ((j : Nat) : Int) ∈ miss := by
        rw [hmiss, List.mem_filter]
        exact ⟨List.mem_map.mpr ⟨j, List.mem_range.mpr hj, rfl⟩, decide_eq_true hx⟩
      have hne : miss ≠ [] := List.ne_nil_of_mem hm
      have hin : miss ∈ all := by rw [hall, if_pos hne]; simp
      exact ⟨miss, List.mem_filter.mpr ⟨allL _ hin, decide_eq_true hin⟩, hm⟩
    · obtain ⟨l, hl⟩ := List.exists_mem_of_ne_nil _ hx
      obtain ⟨h1, h2⟩ := List.mem_filter.mp hl
      have hin : l ∈ all := by rw [hall]; exact List.mem_append_left _ h1
      exact ⟨l, List.mem_filter.mpr ⟨hsub l h1, decide_eq_true hin⟩, of_decide_eq_true h2⟩
end K84
end

section
set_option Elab.async false
set_option linter.all false
set_option maxRecDepth 100000
set_option maxHeartbeats 1000000
namespace K84
open PySem PySem.Spec PyProof.Rows PD PM
/-! ### drawn parts -/
theorem row_ev (j f m l r t w : Ent) : ∀ (lot : List Int) {k : Nat} {γ : List PyData}, Gen k γ → k + lot.length < 900000 → ∃ (row : List Int) (γ' : List PyData),
    lcGoM (tgN 9) bYes (mGen 0 1 m__law_random (mA (aCons (eVar 2) aNil))) [9] [.own true γ, j, .dat (.int 2), m, f, l, r, t, w, .unk] (lot.map .int) = some (row.map .int, [.own true γ', j, .dat (.int 2), m, f, l, r, t, w, .unk]) ∧ row.length = lot.length ∧ (∀ x ∈ row, x = 0 ∨ x = 1) ∧ Gen (k + lot.length) γ'
  | [], k, γ, g, hk => ⟨[], γ, rfl, rfl, by simp, g⟩
  | x :: lot, k, γ, g, hk => by
    rw [List.length_cons] at hk
    obtain ⟨v, γ1, e1, hv, g1⟩ := random_ev g (by omega) 2 ⟨by decide, by decide⟩
    obtain ⟨row, γ2, e2, hl, hb, g2⟩ := row_ev j f m l r t w lot (k := k + 1) g1 (by omega)
    refine ⟨(v : Nat) :: row, γ2, ?_, by simp [hl], fun y hy => ?_, g2.mono (by rw [List.length_cons]; omega)⟩
    · have em : mGen 0 1 m__law_random (mA (aCons (eVar 2) aNil)) [.own true γ, j, .dat (.int 2), m, f, l, r, t, w, .dat (.int x)] = some (.dat (.int (v : Nat)), [.own true γ1, j, .dat (.int 2), m, f, l, r, t, w, .dat (.int x)]) := mGen_of (t := true) (t1 := true) (γ := γ) (γ1 := γ) rfl (mA_of (ds := [.int ((2 : Nat) : Int)]) rfl) rfl e1
      rw [List.map_cons, List.map_cons]
      unfold lcGoM
      rw [if_pos (show vsOk _ [9] = true from rfl)]
      show (((mGen 0 1 m__law_random (mA (aCons (eVar 2) aNil)) [.own true γ, j, .dat (.int 2), m, f, l, r, t, w, .dat (.int x)]).bind _)) = _
      rw [em]
      show ((lcGoM (tgN 9) bYes (mGen 0 1 m__law_random (mA (aCons (eVar 2) aNil))) [9] [.own true γ1, j, .dat (.int 2), m, f, l, r, t, w, .unk] (lot.map .int)).map _) = _
      rw [e2]
      rfl
    · rcases List.mem_cons.mp hy with rfl | hy
      · omega
      · exact hb y hy
theorem sortL_lt {xs : List (List Int)} (h : xs.Nodup) : (sortL xs).Pairwise (· < ·) := by
  have h1 := isrt_pw leL_tr leL_to xs
  rw [← sortL_isrt] at h1
  have h2 := sortL_nodup h
  exact (h1.and h2).imp fun {a b} ⟨hab, hne⟩ => by
    have hle : a ≤ b := of_decide_eq_true hab
    apply Classical.byContradiction
    intro hlt
    exact hne (List.le_antisymm hle (List.not_lt.mp hlt))
theorem parts_ev {k : Nat} {γ : List PyData} (g : Gen k γ) (hk : k < 800000) {n : Nat} {js : List (List Int)} (hv : VLots n js) : ∃ (ps : List Part) (γ' : List PyData),
    m__law_parts γ [eL js, .int 2, .int 4] = some (eS ps, γ') ∧ ps.map (·.1) = js ∧ (∀ p ∈ ps, VPart n p ∧ p.2.length ≤ 4 ∧ ∀ l ∈ p.2, ∀ x ∈ l, x = 0 ∨ x = 1) ∧ Gen (k + 3000) γ' := by
  have l6 : (1000000 : Nat) = lim := rfl
  have first : sSet 4 (mN (nOwn (eLst aNil))) (startG N__law_parts.length γ [eL js, .int 2, .int 4]) = some (.next, [.own true γ, .dat (eL js), .dat (.int 2), .dat (.int 4), .own false [], .unk, .unk, .unk, .unk, .unk]) := rfl
  have loop : NextQ (sFor (mI (iLst (eVar 1))) (tgN 5) (sSeq
      (sSet 6 (mD (eLst aNil)))
      (sSeq
      (sFor (mRange1 (mBin dAdd (mD (eC (.int 1))) (mGen 0 1 m__law_random (mA (aCons (eVar 3) aNil))))) (tgN 7) (sSeq
      (sSet 8 (mLC (mI (iLst (eVar 5))) (tgN 9) bYes (mGen 0 1 m__law_random (mA (aCons (eVar 2) aNil))) [9]))
      (sSet 6 (mD (eBin dAdd (eVar 6) (eBin dMul (eLst (aCons (eVar 8) aNil)) (eCall dInt1 (aCons (eBin (dIn true) (eVar 8) (eVar 6)) aNil))))))))
      (sApp 4 (mD (eTup (aCons (eVar 5) (aCons (eCall dSorted (aCons (eVar 6) aNil)) aNil)))))))) [.own true γ, .dat (eL js), .dat (.int 2), .dat (.int 4), .own false [], .unk, .unk, .unk, .unk, .unk]
      (fun ρ => ∃ γ2 a5 a6 a7 a8, ∃ ps : List Part, ρ = [.own true γ2, .dat (eL js), .dat (.int 2), .dat (.int 4), .own false (ps.map eP), a5, a6, a7, a8, .unk] ∧ Gen (k + 3000) γ2 ∧ ps.map (·.1) = js ∧ (∀ p ∈ ps, VPart n p ∧ p.2.length ≤ 4 ∧ ∀ l ∈ p.2, ∀ x ∈ l, x = 0 ∨ x = 1)) := by
    refine forN eI js (fun d1 ρ => ∃ γ2 a5 a6 a7 a8, ∃ ps : List Part, ρ = [.own true γ2, .dat (eL js), .dat (.int 2), .dat (.int 4), .own false (ps.map eP), a5, a6, a7, a8, .unk] ∧ Gen (k + 500 * d1.length) γ2 ∧ ps.map (·.1) = d1 ∧ (∀ p ∈ ps, VPart n p ∧ p.2.length ≤ 4 ∧ ∀ l ∈ p.2, ∀ x ∈ l, x = 0 ∨ x = 1)) (mI_of (iLst_of v_of)) ⟨γ, _, _, _, _, [], rfl, by simpa using g, rfl, by simp⟩ ?_ ?_
    · rintro d1 lot d2 ρ hd ⟨γ2, a5, a6, a7, a8, ps, rfl, g2, hps, hok⟩
      have dl : d1.length < 6 := by
        have h6 := hv.len.2
        rw [hd] at h6
        simp at h6
        omega
      obtain ⟨vl, lne⟩ := hv.lot lot (by rw [hd]; simp)
      have few := vl.few
      have s1 : sSet 6 (mD (eLst aNil)) [.own true γ2, .dat (eL js), .dat (.int 2), .dat (.int 4), .own false (ps.map eP), .dat (eI lot), a6, a7, a8, .unk] = some (.next, [.own true γ2, .dat (eL js), .dat (.int 2), .dat (.int 4), .own false (ps.map eP), .dat (eI lot), .dat (eL []), a7, a8, .unk]) := rfl
      obtain ⟨r, γ3, hr, hr4, g3⟩ := random_ev g2 (by omega) 4 ⟨by decide, by decide⟩
      have src : mRange1 (mBin dAdd (mD (eC (.int 1))) (mGen 0 1 m__law_random (mA (aCons (eVar 3) aNil)))) [.own true γ2, .dat (eL js), .dat (.int 2), .dat (.int 4), .own false (ps.map eP), .dat (eI lot), .dat (eL []), a7, a8, .unk] = some ((List.range (1 + r)).map fun i => PyData.int (i : Nat), [.own true γ3, .dat (eL js), .dat (.int 2), .dat (.int 4), .own false (ps.map eP), .dat (eI lot), .dat (eL []), a7, a8, .unk]) := by
        refine mRange1_of (mBin_of (mD_of rfl) (mGen_of (t := true) (t1 := true) (γ := γ2) (γ1 := γ2) rfl (mA_of (ds := [.int ((4 : Nat) : Int)]) rfl) rfl hr) ?_) (by omega)
        show some (PyData.int _) = _
        congr 2
      have inner : NextQ (sFor (mRange1 (mBin dAdd (mD (eC (.int 1))) (mGen 0 1 m__law_random (mA (aCons (eVar 3) aNil))))) (tgN 7) (sSeq
          (sSet 8 (mLC (mI (iLst (eVar 5))) (tgN 9) bYes (mGen 0 1 m__law_random (mA (aCons (eVar 2) aNil))) [9]))
          (sSet 6 (mD (eBin dAdd (eVar 6) (eBin dMul (eLst (aCons (eVar 8) aNil)) (eCall dInt1 (aCons (eBin (dIn true) (eVar 8) (eVar 6)) aNil)))))))) [.own true γ2, .dat (eL js), .dat (.int 2), .dat (.int 4), .own false (ps.map eP), .dat (eI lot), .dat (eL []), a7, a8, .unk]
          (fun ρ => ∃ γ4 a7 a8 rows, ρ = [.own true γ4, .dat (eL js), .dat (.int 2), .dat (.int 4), .own false (ps.map eP), .dat (eI lot), .dat (eL rows), a7, a8, .unk] ∧ Gen (k + 500 * (d1.length + 1)) γ4 ∧ rows.length ≤ 4 ∧ 1 ≤ rows.length ∧ rows.Nodup ∧ ∀ l ∈ rows, l.length = lot.length ∧ ∀ x ∈ l, x = 0 ∨ x = 1) := by
        refine forN (fun i : Nat => PyData.int (i : Nat)) (List.range (1 + r)) (fun d3 ρ => ∃ γ4 a7 a8 rows, ρ = [.own true γ4, .dat (eL js), .dat (.int 2), .dat (.int 4), .own false (ps.map eP), .dat (eI lot), .dat (eL rows), a7, a8, .unk] ∧ Gen (k + 500 * d1.length + 1 + d3.length * 100) γ4 ∧ rows.length ≤ d3.length ∧ (d3 ≠ [] → 1 ≤ rows.length) ∧ rows.Nodup ∧ ∀ l ∈ rows, l.length = lot.length ∧ ∀ x ∈ l, x = 0 ∨ x = 1) src ⟨γ3, _, _, [], rfl, by simpa using g3, by simp, fun z => absurd rfl z, by simp, by simp⟩ ?_ ?_
        · rintro d3 t d4 ρ hd3 ⟨γ4, b7, b8, rows, rfl, g4, h1, h2, h3, h4⟩
          have dl3 : d3.length < 1 + r := by
            have := congrArg List.length hd3
            simp at this
            omega
          obtain ⟨row, γ5, e5, rl, rb, g5⟩ := row_ev (.dat (eL js)) (.own false (ps.map eP)) (.dat (.int 4)) (.dat (eI lot)) (.dat (eL rows)) (.dat (.int (t : Nat))) b8 lot g4 (by omega)
          have s2 : sSet 8 (mLC (mI (iLst (eVar 5))) (tgN 9) bYes (mGen 0 1 m__law_random (mA (aCons (eVar 2) aNil))) [9]) [.own true γ4, .dat (eL js), .dat (.int 2), .dat (.int 4), .own false (ps.map eP), .dat (eI lot), .dat (eL rows), .dat (.int (t : Nat)), b8, .unk] = some (.next, [.own true γ5, .dat (eL js), .dat (.int 2), .dat (.int 4), .own false (ps.map eP), .dat (eI lot), .dat (eL rows), .dat (.int (t : Nat)), .dat (eI row), .unk]) := by
            refine set_of (en := .dat (eI row)) (ρ1 := [.own true γ5, .dat (eL js), .dat (.int 2), .dat (.int 4), .own false (ps.map eP), .dat (eI lot), .dat (eL rows), .dat (.int (t : Nat)), b8, .unk]) ?_
            unfold mLC
            rw [mI_of (iLst_of (ds := lot.map .int) v_of)]
            show ((lcGoM _ _ _ _ _ (lot.map .int)).map _) = _
            rw [e5]
            rfl
          have al := addW_len rows row
          refine ⟨_, rfl, seqN s2 (nextQ (setD_of (add_ev (i := 6) (j := 8) rfl rfl (by omega))) ⟨γ5, .dat (.int (t : Nat)), .dat (eI row), addW rows row, rfl, ?_, ?_, fun _ => ?_, addW_nodup h3, fun y hy => ?_⟩)⟩
          · rw [List.length_append, List.length_singleton]; exact g5.mono (by omega)
          · rw [List.length_append, List.length_singleton]; omega
          · unfold addW
            split
            · rename_i hm; exact List.length_pos_of_mem hm
            · simp
          · rcases addW_mem.mp hy with hy | rfl
            · exact h4 y hy
            · exact ⟨rl, rb⟩
        · rintro ρ ⟨γ4, b7, b8, rows, rfl, g4, h1, h2, h3, h4⟩
          rw [List.length_range] at g4 h1
          exact ⟨γ4, b7, b8, rows, rfl, g4.mono (by omega), by omega, h2 (fun z => by have := congrArg List.length z; simp at this), h3, h4⟩
      obtain ⟨ρ3, hin, γ4, b7, b8, rows, rfl, g4, h4, h1, hnd, hrow⟩ := inner
      have pl : ps.length ≤ 6 := by
        have := congrArg List.length hps
        rw [List.length_map] at this
        omega
      have s3 : sApp 4 (mD (eTup (aCons (eVar 5) (aCons (eCall dSorted (aCons (eVar 6) aNil)) aNil)))) [.own true γ4, .dat (eL js), .dat (.int 2), .dat (.int 4), .own false (ps.map eP), .dat (eI lot), .dat (eL rows), b7, b8, .unk] = some (.next, [.own true γ4, .dat (eL js), .dat (.int 2), .dat (.int 4), .own false ((ps ++ [(lot, sortL rows)]).map eP), .dat (eI lot), .dat (eL rows), b7, b8, .unk]) := by
        unfold sApp
        rw [mD_of (d := eP (lot, sortL rows)) (tup_of (a1 v_of (a1 (eCall_of (a1 v_of a0) (dSorted_eL rows)) a0)) (show 2 ≤ lim by decide))]
        show (if (ps.map eP).length < lim then _ else _) = _
        rw [if_pos (by rw [List.length_map]; omega), List.map_append]
        rfl
      refine ⟨_, rfl, seqN s1 (seqN hin (nextQ s3 ⟨γ4, _, _, b7, b8, ps ++ [(lot, sortL rows)], rfl, ?_, by rw [List.map_append, hps]; rfl, fun p hp => ?_⟩))⟩
      · rw [List.length_append, List.length_singleton]; exact g4
      · rcases List.mem_append.mp hp with hp | hp
        · exact hok p hp
        · rw [List.mem_singleton.mp hp]
          refine ⟨⟨vl, lne, ⟨by rw [sortL_len]; exact h1, by rw [sortL_len]; omega⟩, fun l hl => ⟨(hrow l (sortL_mem.mp hl)).1, fun x hx => ?_⟩, sortL_lt hnd⟩, by rw [sortL_len]; exact h4, fun l hl => (hrow l (sortL_mem.mp hl)).2⟩
          have := (hrow l (sortL_mem.mp hl)).2 x hx
          omega
    · rintro ρ ⟨γ2, a5, a6, a7, a8, ps, rfl, g2, hps, hok⟩
      have h6 := hv.len.2
      exact ⟨γ2, a5, a6, a7, a8, ps, rfl, g2.mono (by omega), hps, hok⟩
  obtain ⟨ρ2, hloop, γ2, a5, a6, a7, a8, ps, rfl, g2, hps, hok⟩ := loop
  refine ⟨ps, γ2, ?_, hps, hok, g2⟩
  have ret : sRetOwn 4 [.own true γ2, .dat (eL js), .dat (.int 2), .dat (.int 4), .own false (ps.map eP), a5, a6, a7, a8, .unk] = some (.ret (.list (ps.map eP)), [.own true γ2, .dat (eL js), .dat (.int 2), .dat (.int 4), .dat (.list (ps.map eP)), a5, a6, a7, a8, .unk]) := rfl
  unfold m__law_parts runG b__law_parts_
  rw [seq_of first (seq_of hloop ret)]
  rfl
end K84
end

section
set_option Elab.async false
set_option linter.all false
set_option maxRecDepth 100000
set_option maxHeartbeats 1000000
namespace K84
open PySem PySem.Spec PyProof.Rows PD PM
/-! ### steps over the things, last first -/
def leI (a b : Int) : Bool := decide (a ≤ b)
theorem sortD_I (xs : List Int) : sortD (xs.map PyData.int) = (isrt leI xs).map PyData.int := by
  rw [← merge_isrt (le := leI) (fun a b c h h' => decide_eq_true (by have := of_decide_eq_true h; have := of_decide_eq_true h'; omega)) (fun a b => by unfold leI; rw [Bool.or_eq_true, decide_eq_true_eq, decide_eq_true_eq]; omega) (fun a b h h' => by have := of_decide_eq_true h; have := of_decide_eq_true h'; omega)]
  unfold sortD
  refine (List.map_mergeSort fun a _ b _ => ?_).symm
  have := congrFun (congrFun (PySem.W.dataLe_int (fun x : Int => x)) a) b
  exact this.symm
theorem dSorted_I (xs : List Int) : dSorted [eI xs] = some (eI (isrt leI xs)) := by
  show (if _ then _ else _) = _
  rw [if_pos, sortD_I]
  refine ⟨?_, .inl ?_, ?_⟩
  · unfold alikes
    rw [List.all_map, List.all_eq_true]
    intro x _
    simp only [Function.comp]
    rw [List.all_map, List.all_eq_true]
    intro y _
    simp [PySem.W.alike]
  · rw [List.all_map, List.all_eq_true]
    intro x _
    rfl
  · rw [List.all_map, List.all_eq_true]
    intro x _
    exact (sh_int x).shaped (by decide)
def ups (n : Nat) : List Int := (List.range n).map fun i : Nat => (i : Int)
theorem downs_facts : ∀ n ∈ [1, 2, 3, 4, 5], isrt leI (ups n).reverse = ups n ∧ (∀ t ∈ (ups n).reverse, 0 ≤ t ∧ t < (n : Int)) ∧ (((ups n).reverse).map Int.toNat).Nodup ∧ ((ups n).reverse).length = n ∧ (∀ j < n, ((j : Nat) : Int) ∈ (ups n).reverse) := by decide +kernel
theorem iRange1_ups {F : Rho → Option PyData} {ρ : Rho} {n : Nat} (h : F ρ = some (.int (n : Nat))) (hn : n ≤ 1000000) : iRange1 F ρ = some ((ups n).map PyData.int) := by
  rw [iRange1_of h hn]
  unfold ups
  rw [List.map_map]
  rfl
theorem is_order_by_ev {n : Nat} (hn : n ∈ [1, 2, 3, 4, 5]) : m_is_order_by [.int (n : Nat), eI (ups n).reverse] = some (.bool true) := by
  have n5 : n ≤ 5 := by simp at hn; omega
  obtain ⟨f1, _⟩ := downs_facts n hn
  have e2 : eCall dAll (aCons (eLC (iLst (eVar 1)) (tgN 2) bYes (eFn 1 m_is_whole (aCons (eVar 2) aNil)) [2]) aNil) (start0 N_is_order_by.length [.int (n : Nat), eI (ups n).reverse]) = some (.bool true) := by
    refine eCall_of (a1 (eLC_all PyData.int (fun _ => .bool true) (ups n).reverse (iLst_of v_of) (fun x _ => ⟨_, rfl, eFn_of (a1 v_of a0) (is_whole_int x)⟩) rfl) a0) ?_
    rw [dAll_map (fun _ => true)]
    simp
  have e3 : eBin dEq (eCall dSorted (aCons (eVar 1) aNil)) (fun ρ => (iRange1 (eVar 0) ρ).map .list) (start0 N_is_order_by.length [.int (n : Nat), eI (ups n).reverse]) = some (.bool true) := by
    refine bin_of (d := eI (ups n)) (e := eI (ups n)) (eCall_of (a1 v_of a0) (by rw [dSorted_I, f1])) ?_ ?_
    · show ((iRange1 (eVar 0) _).map PyData.list) = _
      rw [iRange1_ups (n := n) v_of (by omega)]
      rfl
    · rw [dEq_eI]
      simp
  refine runQ (retQ ?_)
  have e23 : eAnd (eCall dAll (aCons (eLC (iLst (eVar 1)) (tgN 2) bYes (eFn 1 m_is_whole (aCons (eVar 2) aNil)) [2]) aNil)) (eBin dEq (eCall dSorted (aCons (eVar 1) aNil)) (fun ρ => (iRange1 (eVar 0) ρ).map .list)) (start0 N_is_order_by.length [.int (n : Nat), eI (ups n).reverse]) = some (.bool true) := by
    rw [eAnd_ev, b_of e2, b_of e3]
    rfl
  rw [eAnd_ev, b_of e23]
  rfl
theorem last_ev {α : Type} {xs : List α} {x : α} (h : xs.getLast? = some x) : L2.atI xs (-1) = some x := by
  have hl : 1 ≤ xs.length := by
    cases xs with
    | nil => cases h
    | cons a as => simp
  rw [List.getLast?_eq_getElem?] at h
  unfold L2.atI L2.ixN
  rw [if_neg (by omega), if_pos (by omega)]
  show xs[((-1 : Int) + (xs.length : Nat)).toNat]? = some x
  rw [show ((-1 : Int) + (xs.length : Nat)).toNat = xs.length - 1 by omega]
  exact h
theorem steps_counted_ev {n : Nat} {ps : List Part} (hp : ∀ p ∈ ps, VPart n p) (h : VLots n (ps.map (·.1))) (h4 : ∀ p ∈ ps, p.2.length ≤ 4) (hb : Bin ps) :
    ∃ cs : List Int, m_steps_counted [.int (n : Nat), eS ps, eI (ups n).reverse] = some (eI cs) ∧ cs.getLast? = some ((fulls n ps).length : Int) := by
  have n1 := h.n1
  have hn : n ∈ [1, 2, 3, 4, 5] := by simp; omega
  obtain ⟨f1, f2, f3, f4, f5⟩ := downs_facts n hn
  obtain ⟨js, e1, e2, _⟩ := joined_rows_ev hp h h4 hb
  refine ⟨_, runQ (seqQ (dropD_of (eFn_of (a1 v_of (a1 v_of a0)) (check_parts_ev hp h))) (seqQ (if_f (D := sNext) ?_ rfl) (seqQ (dropD_of (eFn_of (a1 v_of (a1 v_of a0)) e2)) (retQ (eFn_of (a1 v_of (a1 v_of (a1 v_of a0))) (steps_by_ev hp h h4 hb (ups n).reverse f2 (by omega))))))), ?_⟩
  · rw [bNot_ev, b_of (eFn_of (a1 v_of (a1 v_of a0)) (is_order_by_ev hn))]
    rfl
  · have hc := steps_count (fun p hp' => ⟨vlot_ok (hp p hp').lot, (hp p hp').fit⟩) (fun p hp' e => by have := (hp p hp').rows.1; rw [e] at this; simp at this) (cover_of h) hb (D := (ups n).reverse) f5 f2 f3
    obtain ⟨m, rfl⟩ : ∃ m, n = m + 1 := ⟨n - 1, by omega⟩
    rw [f4, List.getLast?_map, List.range_succ, List.getLast?_append]
    simp only [List.getLast?_singleton, Option.some_or, Option.map_some]
    rw [List.take_of_length_le (by omega), hc]
end K84
end

section
set_option Elab.async false
set_option linter.all false
set_option maxRecDepth 100000
set_option maxHeartbeats 1000000
namespace K84
open PySem PySem.Spec PyProof.Rows PD PM
/-! ### the path, the ring and the odd letters -/
def pairs0 (w : Nat) : List (List Int) := (List.range (w - 1)).map fun a : Nat => [(a : Int), (a : Int) + 1]
def pairsW (w : Nat) : List (List Int) := isrt leL (pairs0 w)
def lastP (w : Nat) : List Int := [0, (w : Int) - 1]
def ringW (w : Nat) : List (List Int) := isrt leL (pairsW w ++ [lastP w])
def oddP (w : Nat) (lot : List Int) : Part := (lot, if lot ≠ lastP w then [[0, 0], [1, 1]] else [[0, 1], [1, 0]])
def oddW (w : Nat) : List Part := (ringW w).map (oddP w)
def pathW (w : Nat) : List Part := (oddW w).filter fun p => decide (p.1 ≠ lastP w)
theorem ring_part : ∀ w ∈ [3, 4, 5], ∀ p ∈ oddW w, p.1.Pairwise (· < ·) ∧ (∀ t ∈ p.1, 0 ≤ t ∧ t < (w : Int)) ∧ p.1.length = 2 ∧ p.2.length = 2 ∧ (∀ l ∈ p.2, l.length = 2 ∧ ∀ x ∈ l, x = 0 ∨ x = 1) ∧ p.2.Pairwise (· < ·) := by decide +kernel
theorem ring_lots : ∀ w ∈ [3, 4, 5], (oddW w).map (·.1) = ringW w ∧ (pathW w).map (·.1) = pairsW w ∧ (1 ≤ (ringW w).length ∧ (ringW w).length ≤ 6) ∧ (1 ≤ (pairsW w).length ∧ (pairsW w).length ≤ 6) ∧ (∀ j < w, ∃ l ∈ ringW w, ((j : Nat) : Int) ∈ l) ∧ (∀ j < w, ∃ l ∈ pairsW w, ((j : Nat) : Int) ∈ l) ∧ isTree (ringW w) = false ∧ isTree (pairsW w) = true ∧ (ringW w).Nodup := by decide +kernel
theorem ring_mem : ∀ w ∈ [3, 4, 5], ∀ l ∈ ringW w, l ∈ isrt leN (subs w) := by decide +kernel
theorem pairs_mem : ∀ w ∈ [3, 4, 5], ∀ l ∈ pairsW w, l ∈ ringW w := by decide +kernel
theorem ring_place : ∀ w ∈ [3, 4, 5], ((ringW w).map (place w)).Pairwise (· < ·) := by decide +kernel
theorem pairs_place : ∀ w ∈ [3, 4, 5], ((pairsW w).map (place w)).Pairwise (· < ·) := by decide +kernel
theorem ring_keeps : ∀ w ∈ [3, 4, 5], ∀ p ∈ oddW w, ∀ o ∈ oddW w, p.1 ≠ o.1 → ∀ l ∈ p.2, keepsW p o l = true := by decide +kernel
theorem ring_fulls : ∀ w ∈ [3, 4, 5], fulls w (oddW w) = [] ∧ (fulls w (pathW w)).length = 2 := by decide +kernel
theorem cons_dec {ps : List Part} (nd : (ps.map (·.1)).Nodup) (h : ∀ p ∈ ps, ∀ o ∈ ps, p.1 ≠ o.1 → ∀ l ∈ p.2, keepsW p o l = true) : Cons ps := by
  intro a p b e o ho l hl
  subst e
  have ho2 : o ∈ a ++ p :: b := by
    rcases List.mem_append.mp ho with ho | ho
    · exact List.mem_append_left _ ho
    · exact List.mem_append_right _ (List.mem_cons_of_mem _ ho)
  refine h p (by simp) o ho2 (fun e => ?_) l hl
  rw [List.map_append, List.map_cons, List.nodup_append, List.nodup_cons] at nd
  obtain ⟨_, ⟨n1, _⟩, n2⟩ := nd
  rcases List.mem_append.mp ho with ho | ho
  · exact n2 _ (List.mem_map_of_mem ho) p.1 List.mem_cons_self e.symm
  · exact n1 (e ▸ List.mem_map_of_mem ho)
theorem odd_part {w : Nat} (hw : w ∈ [3, 4, 5]) {p : Part} (hp : p ∈ oddW w) : VPart w p := by
  obtain ⟨h1, h2, h3, h4, h5, h6⟩ := ring_part w hw p hp
  exact ⟨⟨h1, h2, by omega⟩, (fun e => by rw [e] at h3; cases h3), (by omega), fun l hl => ⟨by rw [(h5 l hl).1, h3], fun x hx => by have := (h5 l hl).2 x hx; omega⟩, h6⟩
theorem ring_ok {w : Nat} (hw : w ∈ [3, 4, 5]) : VLots w (ringW w) := by
  obtain ⟨h1, h2, h3, h4, h5, h6, h7, h8, h9⟩ := ring_lots w hw
  refine ⟨by simp at hw; omega, h3, fun l hl => ?_, ring_mem w hw, ring_place w hw, h5⟩
  rw [← h1] at hl
  obtain ⟨p, hp, rfl⟩ := List.mem_map.mp hl
  exact ⟨(odd_part hw hp).lot, (odd_part hw hp).ne⟩
theorem pairs_ok {w : Nat} (hw : w ∈ [3, 4, 5]) : VLots w (pairsW w) := by
  obtain ⟨h1, h2, h3, h4, h5, h6, h7, h8, h9⟩ := ring_lots w hw
  exact ⟨by simp at hw; omega, h4, fun l hl => (ring_ok hw).lot l (pairs_mem w hw l hl), fun l hl => ring_mem w hw l (pairs_mem w hw l hl), pairs_place w hw, h6⟩
theorem odd_bin {w : Nat} (hw : w ∈ [3, 4, 5]) : Bin (oddW w) := fun p hp l hl => ((ring_part w hw p hp).2.2.2.2.1 l hl).2
theorem odd_evened {w : Nat} (hw : w ∈ [3, 4, 5]) : m_evened_parts [.int (w : Nat), eS (oddW w)] = some (eS (oddW w)) := by
  obtain ⟨h1, h2, h3, h4, h5, h6, h7, h8, h9⟩ := ring_lots w hw
  obtain ⟨res, e, _, _, hc, _⟩ := evened_parts_ev (n := w) (ps := oddW w) (fun p hp => odd_part hw hp) (by rw [h1]; exact ring_ok hw)
  rw [e, hc (cons_dec (by rw [h1]; exact h9) (ring_keeps w hw))]
theorem odd_joined {w : Nat} (hw : w ∈ [3, 4, 5]) : m_joined_rows [.int (w : Nat), eS (oddW w)] = some (eL []) := by
  obtain ⟨h1, h2, h3, h4, h5, h6, h7, h8, h9⟩ := ring_lots w hw
  obtain ⟨js, e, _, _, _, hl⟩ := joined_rows_ev (n := w) (ps := oddW w) (fun p hp => odd_part hw hp) (by rw [h1]; exact ring_ok hw) (fun p hp => by have := (ring_part w hw p hp).2.2.2.1; omega) (odd_bin hw)
  rw [(ring_fulls w hw).1] at hl
  rw [e, List.eq_nil_of_length_eq_zero hl]
theorem path_joined {w : Nat} (hw : w ∈ [3, 4, 5]) : ∃ js : List (List Int), m_joined_rows [.int (w : Nat), eS (pathW w)] = some (eL js) ∧ js.length = 2 := by
  obtain ⟨h1, h2, h3, h4, h5, h6, h7, h8, h9⟩ := ring_lots w hw
  have sub : ∀ p ∈ pathW w, p ∈ oddW w := fun p hp => (List.mem_filter.mp hp).1
  obtain ⟨js, e, _, _, _, hl⟩ := joined_rows_ev (n := w) (ps := pathW w) (fun p hp => odd_part hw (sub p hp)) (by rw [h2]; exact pairs_ok hw) (fun p hp => by have := (ring_part w hw p (sub p hp)).2.2.2.1; omega) (fun p hp => odd_bin hw p (sub p hp))
  exact ⟨js, e, hl.trans (ring_fulls w hw).2⟩
end K84
end

section
set_option Elab.async false
set_option linter.all false
set_option maxRecDepth 100000
set_option maxHeartbeats 1000000
namespace K84
open PySem PySem.Spec PyProof.Rows PD PM
/-! ### the plain law: evening keeps the joined rows -/
theorem restr_map (lot : List Int) (l : List Int) : restr lot l = lot.map fun t => l.getD t.toNat 0 := rfl
theorem full_keep {n : Nat} {ps res : List Part} (hp : ∀ p ∈ ps, VPart n p) (hg : ∀ lots G, lots = ps.map (·.1) → Sup lots G → In G ps → In G res) (hl : res.map (·.1) = ps.map (·.1)) {l : List Int} (h : Full n ps l) : Full n res l := by
  have inc : ∀ (i : Nat) (li : List Int), (ps.map (·.1))[i]? = some li → li.Pairwise (· < ·) := fun i li hi => by
    obtain ⟨p, hp', rfl⟩ := List.mem_map.mp (List.mem_of_getElem? hi)
    exact (hp p hp').lot.inc
  have k := hg (ps.map (·.1)) (fun i m => ∃ li, (ps.map (·.1))[i]? = some li ∧ m = restr li l) rfl (fun i j li lj hij hi hj m hm => by
    obtain ⟨li', hi', rfl⟩ := hm
    rw [hi] at hi'
    cases hi'
    refine ⟨restr lj l, ⟨lj, hj, rfl⟩, ?_⟩
    rw [restr_map, restr_map, cl_map, cl_map, filter_same (inc i li hi) (inc j lj hj)]) (fun i p hi m hm => by
    obtain ⟨li, hi', rfl⟩ := hm
    rw [List.getElem?_map, hi] at hi'
    cases hi'
    exact h.2 p (List.mem_of_getElem? hi))
  refine ⟨h.1, fun p hp' => ?_⟩
  obtain ⟨i, hi, e⟩ := List.getElem_of_mem hp'
  have hi2 : res[i]? = some p := by rw [List.getElem?_eq_getElem hi, e]
  refine k i p hi2 _ ⟨p.1, ?_, rfl⟩
  rw [← hl, List.getElem?_map, hi2]
  rfl
theorem under_full {n : Nat} {ps res : List Part} (u : Under res ps) {l : List Int} (h : Full n res l) : Full n ps l := by
  refine ⟨h.1, fun p hp => ?_⟩
  obtain ⟨i, hi, e⟩ := List.getElem_of_mem hp
  have hi2 : ps[i]? = some p := by rw [List.getElem?_eq_getElem hi, e]
  have hi3 : i < res.length := by rw [u.len]; exact hi
  have hi4 := List.getElem?_eq_getElem hi3
  obtain ⟨e1, e2⟩ := u.at_ i _ _ hi4 hi2
  have := h.2 _ (List.getElem_mem hi3)
  rw [e1] at this
  exact e2.mem this
theorem under_map {ps res : List Part} (u : Under res ps) : res.map (·.1) = ps.map (·.1) := by
  refine List.ext_getElem? fun i => ?_
  rw [List.getElem?_map, List.getElem?_map]
  by_cases hi : i < ps.length
  · have hi3 : i < res.length := by rw [u.len]; exact hi
    rw [List.getElem?_eq_getElem hi, List.getElem?_eq_getElem hi3]
    exact congrArg some (u.at_ i _ _ (List.getElem?_eq_getElem hi3) (List.getElem?_eq_getElem hi)).1
  · have := u.len
    rw [List.getElem?_eq_none (l := res) (by omega), List.getElem?_eq_none (l := ps) (by omega)]
theorem under_part {n : Nat} {ps res : List Part} (u : Under res ps) (hp : ∀ p ∈ ps, VPart n p) {q : Part} (hq : q ∈ res) (hne : q.2 ≠ []) : VPart n q := by
  obtain ⟨i, hi, e⟩ := List.getElem_of_mem hq
  have hi2 : i < ps.length := by rw [← u.len]; exact hi
  obtain ⟨e1, e2⟩ := u.at_ i q _ (by rw [List.getElem?_eq_getElem hi, e]) (List.getElem?_eq_getElem hi2)
  have v := hp _ (List.getElem_mem hi2)
  refine ⟨e1 ▸ v.lot, e1 ▸ v.ne, ⟨List.length_pos_iff.mpr hne, Nat.le_trans e2.length_le v.rows.2⟩, fun l hl => ?_, v.inc.sublist e2⟩
  rw [e1]
  exact v.let_ l (e2.mem hl)
/-- on a tree each row that stays is part of a joined row -/
theorem tree_row {n : Nat} {ps res : List Part} (u : Under res ps) (hp : ∀ p ∈ ps, VPart n p) (hc : Cons res) (ht : isTree (ps.map (·.1)) = true) {q : Part} (hq : q ∈ res) {l : List Int} (hl : l ∈ q.2) : ∃ r, Full n ps r ∧ restr q.1 r = l := by
  have rng : ∀ p ∈ res, p.1.Pairwise (· < ·) ∧ (∀ t ∈ p.1, 0 ≤ t ∧ t < (n : Int)) ∧ Fit p := fun p hp' => by
    obtain ⟨i, hi, e⟩ := List.getElem_of_mem hp'
    have hi2 : i < ps.length := by rw [← u.len]; exact hi
    obtain ⟨e1, e2⟩ := u.at_ i p _ (by rw [List.getElem?_eq_getElem hi, e]) (List.getElem?_eq_getElem hi2)
    have v := hp _ (List.getElem_mem hi2)
    exact ⟨e1 ▸ v.lot.inc, e1 ▸ v.lot.rng, fun m hm => by rw [e1]; exact ((v.let_ m (e2.mem hm)).1).symm⟩
  have good : Good res := ⟨fun p hp' => (rng p hp').1, fun p hp' => (rng p hp').2.2, hc⟩
  have cl := tree_all good (by rw [under_map u]; exact ht)
  obtain ⟨i, hi, e⟩ := List.getElem_of_mem hq
  obtain ⟨f, f1, f2⟩ := cl i q trivial (by rw [List.getElem?_eq_getElem hi, e]) l hl
  have rest : ∀ p ∈ res, restr p.1 ((ups n).map f) = p.1.map f := fun p hp' => by
    rw [restr_map]
    refine List.map_congr_left fun t htt => ?_
    obtain ⟨t0, tn⟩ := (rng p hp').2.1 t htt
    rw [List.getD_eq_getElem?_getD, List.getElem?_map]
    unfold ups
    rw [List.getElem?_map, List.getElem?_range (by omega)]
    show f ((t.toNat : Nat) : Int) = f t
    rw [show ((t.toNat : Nat) : Int) = t by omega]
  refine ⟨(ups n).map f, under_full u ⟨by simp [ups], fun p hp' => ?_⟩, (rest q hq).trans f1⟩
  rw [rest p hp']
  obtain ⟨j, hj, e⟩ := List.getElem_of_mem hp'
  exact f2 j p trivial (by rw [List.getElem?_eq_getElem hj, e])
theorem sorted_same {xs : List (List Int)} (h : xs.Pairwise (· < ·)) : sortL xs = xs := by
  unfold sortL
  exact List.mergeSort_of_pairwise (h.imp fun {a b} hab => decide_eq_true (List.le_of_lt hab))
end K84
end

section
set_option Elab.async false
set_option linter.all false
set_option maxRecDepth 100000
set_option maxHeartbeats 1000000
namespace K84
open PySem PySem.Spec PyProof.Rows PD PM
/-! ### the law's steps -/
theorem nFn_of {n : Nat} {m : List PyData → Option (List PyData)} {L : Rho → Option (List PyData)} {ρ : Rho} {ds γ : List PyData} (h : L ρ = some ds) (hm : m ds = some γ) (hn : ds.length = n := by rfl) : nFn n m L ρ = some (.own false γ) := by
  unfold nFn
  rw [h]
  show (if _ then _ else _) = _
  rw [if_pos hn, hm]
  rfl
theorem mCons_of {M : Rho → Option (Ent × Rho)} {L : Rho → Option (List PyData × Rho)} {ρ ρ1 ρ2 : Rho} {d : PyData} {ds : List PyData} (h : M ρ = some (.dat d, ρ1)) (h2 : L ρ1 = some (ds, ρ2)) : mCons M L ρ = some (d :: ds, ρ2) := by
  unfold mCons
  rw [h]
  show ((L ρ1).map _) = _
  rw [h2]
  rfl
/-- one more than a draw -/
theorem draw_ev {k : Nat} {γ : List PyData} (g : Gen k γ) (hk : k < 900000) (c b : Nat) (hb : 1 ≤ b ∧ b < 64) {ρ : Rho} {t : Bool} (h : ρ[2]? = some (.own t γ)) : ∃ (r : Nat) (γ' : List PyData), r < b ∧ Gen (k + 1) γ' ∧ mBin dAdd (mD (eC (.int (c : Nat)))) (mGen 2 1 m__law_random (mA (aCons (eC (.int (b : Nat))) aNil))) ρ = some (.dat (.int (c + r : Nat)), ρ.set 2 (.own t γ')) := by
  obtain ⟨r, γ', e, hr, g'⟩ := random_ev g hk b hb
  refine ⟨r, γ', hr, g', mBin_of (mD_of rfl) (mGen_of (t := t) (t1 := t) (γ := γ) (γ1 := γ) h (mA_of (ds := [.int (b : Nat)]) rfl) h e) ?_⟩
  show some (PyData.int _) = _
  rw [Int.natCast_add]
/-- the parts with rows, or without -/
theorem empties_ev {ρ : Rho} {ps : List Part} (h : (wipeR ρ [13]).length = ρ.length) (h9 : ρ[9]? = some (.dat (eS ps))) (h13 : 13 < ρ.length) : eLC (iLst (eVar 9)) (tgN 13) (bOf (eBin dEq (eBin dIx (eVar 13) (eC (.int 1))) (eLst aNil))) (eVar 13) [13] ρ = some (eS (ps.filter fun p => decide (p.2 = []))) := by
  have g : ∀ d : PyData, ((wipeR ρ [13]).set 13 (.dat d))[13]? = some (.dat d) := fun d => by rw [List.getElem?_set_self (by rw [h]; exact h13)]
  exact eLC_map eP (fun p => decide (p.2 = [])) eP ps (iLst_of (v_of h9)) (fun p hp => ⟨_, rfl, b_of (bin_of (d := eL p.2) (e := eL []) (bin_of (v_of (g _)) rfl rfl) (lst_of a0 (by decide)) (dEq_eL _ _)), fun _ => v_of (g _)⟩) rfl
theorem fulls_ev {ρ : Rho} {ps : List Part} (h : (wipeR ρ [13]).length = ρ.length) (h9 : ρ[9]? = some (.dat (eS ps))) (h13 : 13 < ρ.length) : eLC (iLst (eVar 9)) (tgN 13) (bOf (eBin dNe (eBin dIx (eVar 13) (eC (.int 1))) (eLst aNil))) (eVar 13) [13] ρ = some (eS (ps.filter fun p => !decide (p.2 = []))) := by
  have g : ∀ d : PyData, ((wipeR ρ [13]).set 13 (.dat d))[13]? = some (.dat d) := fun d => by rw [List.getElem?_set_self (by rw [h]; exact h13)]
  exact eLC_map eP (fun p => !decide (p.2 = [])) eP ps (iLst_of (v_of h9)) (fun p hp => ⟨_, rfl, b_of (bin_of (d := eL p.2) (e := eL []) (bin_of (v_of (g _)) rfl rfl) (lst_of a0 (by decide)) (dNe_eL _ _)), fun _ => v_of (g _)⟩) rfl
end K84
end

section
set_option Elab.async false
set_option linter.all false
set_option maxRecDepth 100000
set_option maxHeartbeats 0
namespace K84
open PySem PySem.Spec PyProof.Rows L2 PD
def dd__law_cell : He.DefD := ⟨("_law_cell", none), "_law_cell", "_law_cell", defArgs s__law_cell, defBody s__law_cell, defScope s__law_cell, [], []⟩
def dd__law_generator : He.DefD := ⟨("_law_generator", none), "_law_generator", "_law_generator", defArgs s__law_generator, defBody s__law_generator, defScope s__law_generator, [], []⟩
def dd__law_hash : He.DefD := ⟨("_law_hash", none), "_law_hash", "_law_hash", defArgs s__law_hash, defBody s__law_hash, defScope s__law_hash, [], []⟩
def dd__law_random : He.DefD := ⟨("_law_random", none), "_law_random", "_law_random", defArgs s__law_random, defBody s__law_random, defScope s__law_random, [], []⟩
def dd__law_parts : He.DefD := ⟨("_law_parts", none), "_law_parts", "_law_parts", defArgs s__law_parts, defBody s__law_parts, defScope s__law_parts, [], []⟩
def dd__law_pick : He.DefD := ⟨("_law_pick", none), "_law_pick", "_law_pick", defArgs s__law_pick, defBody s__law_pick, defScope s__law_pick, [], []⟩
def dd__law_lots : He.DefD := ⟨("_law_lots", none), "_law_lots", "_law_lots", defArgs s__law_lots, defBody s__law_lots, defScope s__law_lots, [], []⟩
def dd__law_joins : He.DefD := ⟨("_law_joins", none), "_law_joins", "_law_joins", defArgs s__law_joins, defBody s__law_joins, defScope s__law_joins, [], []⟩
def dd_is_whole : He.DefD := ⟨("is_whole", none), "is_whole", "is_whole", defArgs s_is_whole, defBody s_is_whole, defScope s_is_whole, [], []⟩
def dd_is_many : He.DefD := ⟨("is_many", none), "is_many", "is_many", defArgs s_is_many, defBody s_is_many, defScope s_is_many, [], []⟩
def dd_check_many : He.DefD := ⟨("check_many", none), "check_many", "check_many", defArgs s_check_many, defBody s_check_many, defScope s_check_many, [], []⟩
def dd_is_lot_by : He.DefD := ⟨("is_lot_by", none), "is_lot_by", "is_lot_by", defArgs s_is_lot_by, defBody s_is_lot_by, defScope s_is_lot_by, [], []⟩
def dd_are_letters : He.DefD := ⟨("are_letters", none), "are_letters", "are_letters", defArgs s_are_letters, defBody s_are_letters, defScope s_are_letters, [], []⟩
def dd_is_part_by : He.DefD := ⟨("is_part_by", none), "is_part_by", "is_part_by", defArgs s_is_part_by, defBody s_is_part_by, defScope s_is_part_by, [], []⟩
def dd_lots_of : He.DefD := ⟨("lots_of", none), "lots_of", "lots_of", defArgs s_lots_of, defBody s_lots_of, defScope s_lots_of, [], []⟩
def dd_are_parts_by : He.DefD := ⟨("are_parts_by", none), "are_parts_by", "are_parts_by", defArgs s_are_parts_by, defBody s_are_parts_by, defScope s_are_parts_by, [], []⟩
def dd_check_parts : He.DefD := ⟨("check_parts", none), "check_parts", "check_parts", defArgs s_check_parts, defBody s_check_parts, defScope s_check_parts, [], []⟩
def dd_common_letters : He.DefD := ⟨("common_letters", none), "common_letters", "common_letters", defArgs s_common_letters, defBody s_common_letters, defScope s_common_letters, [], []⟩
def dd_stays : He.DefD := ⟨("stays", none), "stays", "stays", defArgs s_stays, defBody s_stays, defScope s_stays, [], []⟩
def dd_evened_by : He.DefD := ⟨("evened_by", none), "evened_by", "evened_by", defArgs s_evened_by, defBody s_evened_by, defScope s_evened_by, [], []⟩
def dd_evened_parts : He.DefD := ⟨("evened_parts", none), "evened_parts", "evened_parts", defArgs s_evened_parts, defBody s_evened_parts, defScope s_evened_parts, [], []⟩
def dd_put_in : He.DefD := ⟨("put_in", none), "put_in", "put_in", defArgs s_put_in, defBody s_put_in, defScope s_put_in, [], []⟩
def dd_joined_by : He.DefD := ⟨("joined_by", none), "joined_by", "joined_by", defArgs s_joined_by, defBody s_joined_by, defScope s_joined_by, [], []⟩
def dd_check_few : He.DefD := ⟨("check_few", none), "check_few", "check_few", defArgs s_check_few, defBody s_check_few, defScope s_check_few, [], []⟩
def dd_joined_rows : He.DefD := ⟨("joined_rows", none), "joined_rows", "joined_rows", defArgs s_joined_rows, defBody s_joined_rows, defScope s_joined_rows, [], []⟩
def dd_are_joins_by : He.DefD := ⟨("are_joins_by", none), "are_joins_by", "are_joins_by", defArgs s_are_joins_by, defBody s_are_joins_by, defScope s_are_joins_by, [], []⟩
def dd_check_joins : He.DefD := ⟨("check_joins", none), "check_joins", "check_joins", defArgs s_check_joins, defBody s_check_joins, defScope s_check_joins, [], []⟩
def dd_alone_left : He.DefD := ⟨("alone_left", none), "alone_left", "alone_left", defArgs s_alone_left, defBody s_alone_left, defScope s_alone_left, [], []⟩
def dd_common : He.DefD := ⟨("common", none), "common", "common", defArgs s_common, defBody s_common, defScope s_common, [], []⟩
def dd_within_another : He.DefD := ⟨("within_another", none), "within_another", "within_another", defArgs s_within_another, defBody s_within_another, defScope s_within_another, [], []⟩
def dd_tree_or_core : He.DefD := ⟨("tree_or_core", none), "tree_or_core", "tree_or_core", defArgs s_tree_or_core, defBody s_tree_or_core, defScope s_tree_or_core, [], []⟩
def dd_fits_all : He.DefD := ⟨("fits_all", none), "fits_all", "fits_all", defArgs s_fits_all, defBody s_fits_all, defScope s_fits_all, [], []⟩
def dd_steps_by : He.DefD := ⟨("steps_by", none), "steps_by", "steps_by", defArgs s_steps_by, defBody s_steps_by, defScope s_steps_by, [], []⟩
def dd_is_order_by : He.DefD := ⟨("is_order_by", none), "is_order_by", "is_order_by", defArgs s_is_order_by, defBody s_is_order_by, defScope s_is_order_by, [], []⟩
def dd_steps_counted : He.DefD := ⟨("steps_counted", none), "steps_counted", "steps_counted", defArgs s_steps_counted, defBody s_steps_counted, defScope s_steps_counted, [], []⟩
def dd_law : He.DefD := ⟨("law", none), "law", "law", defArgs s_law, defBody s_law, defScope s_law, [], []⟩
def fn : List He.DefD := [dd__law_cell, dd__law_generator, dd__law_hash, dd__law_random, dd__law_parts, dd__law_pick, dd__law_lots, dd__law_joins, dd_is_whole, dd_is_many, dd_check_many, dd_is_lot_by, dd_are_letters, dd_is_part_by, dd_lots_of, dd_are_parts_by, dd_check_parts, dd_common_letters, dd_stays, dd_evened_by, dd_evened_parts, dd_put_in, dd_joined_by, dd_check_few, dd_joined_rows, dd_are_joins_by, dd_check_joins, dd_alone_left, dd_common, dd_within_another, dd_tree_or_core, dd_fits_all, dd_steps_by, dd_is_order_by, dd_steps_counted, dd_law]
def fa : List He.Fa := [.glo "_law_cell", .glo "_law_generator", .glo "_law_hash", .glo "_law_random", .glo "_law_parts", .glo "_law_pick", .glo "_law_lots", .glo "_law_joins", .glo "is_whole", .glo "is_many", .glo "check_many", .glo "is_lot_by", .glo "are_letters", .glo "is_part_by", .glo "lots_of", .glo "are_parts_by", .glo "check_parts", .glo "common_letters", .glo "stays", .glo "evened_by", .glo "evened_parts", .glo "put_in", .glo "joined_by", .glo "check_few", .glo "joined_rows", .glo "are_joins_by", .glo "check_joins", .glo "alone_left", .glo "common", .glo "within_another", .glo "tree_or_core", .glo "fits_all", .glo "steps_by", .glo "is_order_by", .glo "steps_counted", .glo "law", .free "len", .free "sum", .free "int", .free "max", .free "range", .free "sorted", .free "isinstance", .free "bool", .free "list", .free "all", .free "tuple", .free "any", .free "zip", .free "enumerate", .free "set", .int "MOST_THINGS" 5, .int "MOST_LETTER" 9, .int "MOST_PART" 12, .int "MOST_JOINS" 6, .int "MOST_JOINED" 500]
abbrev R : PySem.W.OpenRow := PySem.W.OpenLaw.row PySem.Challenge.rw_lotstell_k84_whole_parts_evened_by_trees
abbrev hk : PySem.W.Hook := He.hookD 4 fa fn
def ob (s : PySem.W.SharedT) : He.AlD := He.obsDG 4 fa fn (HandSHeadRun.getT s)
theorem ob_eq (s : PySem.W.SharedT) : ob s = hk.obs s.abs := He.obsDG_eq (HandSHeadRun.getT_eq s)
def loose0 : List PySem.Str := ["__name__", "LotError", "InvalidMany", "InvalidJoin", "InvalidList", "TooMany", "is_whole", "MOST_THINGS", "is_many", "check_many", "lots_of", "is_lot_by", "common", "MOST_LETTER", "are_letters", "MOST_JOINS", "MOST_PART", "MOST_JOINED", "are_joins_by", "check_joins", "is_part_by", "are_parts_by", "check_parts", "put_in", "joined_by", "check_few", "joined_rows", "common_letters", "stays", "evened_by"]
def loose1 : List PySem.Str := ["evened_parts", "is_order_by", "fits_all", "steps_by", "steps_counted", "alone_left", "within_another", "tree_or_core", "_law_hash", "_law_random", "_law_cell", "_law_generator", "_law_pick", "_law_exact", "_law_lists", "_law_lots", "_law_joins", "_law_parts"]
def loose : List PySem.Str := loose0 ++ loose1
theorem run (w : World) : HandSHeadRun.RunEq R (PySem.W.view R.prog [54]) hk ob 20000 loose w := by
  intro os
  kernel_rfl
theorem facts {P : Program} {w : World} {K : PySem.W.Frag} {h : Heap} {mg : Str → Option Value} {f : Addr} (X : K.In h) (G : h.Ns mainGlobals mg) (hfa : mg ("law" : Str) = some (.ref f)) (c : He.SaysD fa fn K) :
    ∃ fd : FuncData, (∀ (s : Shared) (v : Value), BindsTo s fd ⟨[v], []⟩ [("script", v)]) ∧ ∀ base : Heap, K.In base → base.Ns mainGlobals mg → FnOk P w K mg base CX0 8 f fd ["script"] (spP K 1 m_law) := by
  obtain ⟨fd__law_cell, F__law_cell⟩ := c.def_ 0 (d := dd__law_cell) rfl
  obtain ⟨fd__law_generator, F__law_generator⟩ := c.def_ 1 (d := dd__law_generator) rfl
  obtain ⟨fd__law_hash, F__law_hash⟩ := c.def_ 2 (d := dd__law_hash) rfl
  obtain ⟨fd__law_random, F__law_random⟩ := c.def_ 3 (d := dd__law_random) rfl
  obtain ⟨fd__law_parts, F__law_parts⟩ := c.def_ 4 (d := dd__law_parts) rfl
  obtain ⟨fd__law_pick, F__law_pick⟩ := c.def_ 5 (d := dd__law_pick) rfl
  obtain ⟨fd__law_lots, F__law_lots⟩ := c.def_ 6 (d := dd__law_lots) rfl
  obtain ⟨fd__law_joins, F__law_joins⟩ := c.def_ 7 (d := dd__law_joins) rfl
  obtain ⟨fd_is_whole, F_is_whole⟩ := c.def_ 8 (d := dd_is_whole) rfl
  obtain ⟨fd_is_many, F_is_many⟩ := c.def_ 9 (d := dd_is_many) rfl
  obtain ⟨fd_check_many, F_check_many⟩ := c.def_ 10 (d := dd_check_many) rfl
  obtain ⟨fd_is_lot_by, F_is_lot_by⟩ := c.def_ 11 (d := dd_is_lot_by) rfl
  obtain ⟨fd_are_letters, F_are_letters⟩ := c.def_ 12 (d := dd_are_letters) rfl
  obtain ⟨fd_is_part_by, F_is_part_by⟩ := c.def_ 13 (d := dd_is_part_by) rfl
  obtain ⟨fd_lots_of, F_lots_of⟩ := c.def_ 14 (d := dd_lots_of) rfl
  obtain ⟨fd_are_parts_by, F_are_parts_by⟩ := c.def_ 15 (d := dd_are_parts_by) rfl
  obtain ⟨fd_check_parts, F_check_parts⟩ := c.def_ 16 (d := dd_check_parts) rfl
  obtain ⟨fd_common_letters, F_common_letters⟩ := c.def_ 17 (d := dd_common_letters) rfl
  obtain ⟨fd_stays, F_stays⟩ := c.def_ 18 (d := dd_stays) rfl
  obtain ⟨fd_evened_by, F_evened_by⟩ := c.def_ 19 (d := dd_evened_by) rfl
  obtain ⟨fd_evened_parts, F_evened_parts⟩ := c.def_ 20 (d := dd_evened_parts) rfl
  obtain ⟨fd_put_in, F_put_in⟩ := c.def_ 21 (d := dd_put_in) rfl
  obtain ⟨fd_joined_by, F_joined_by⟩ := c.def_ 22 (d := dd_joined_by) rfl
  obtain ⟨fd_check_few, F_check_few⟩ := c.def_ 23 (d := dd_check_few) rfl
  obtain ⟨fd_joined_rows, F_joined_rows⟩ := c.def_ 24 (d := dd_joined_rows) rfl
  obtain ⟨fd_are_joins_by, F_are_joins_by⟩ := c.def_ 25 (d := dd_are_joins_by) rfl
  obtain ⟨fd_check_joins, F_check_joins⟩ := c.def_ 26 (d := dd_check_joins) rfl
  obtain ⟨fd_alone_left, F_alone_left⟩ := c.def_ 27 (d := dd_alone_left) rfl
  obtain ⟨fd_common, F_common⟩ := c.def_ 28 (d := dd_common) rfl
  obtain ⟨fd_within_another, F_within_another⟩ := c.def_ 29 (d := dd_within_another) rfl
  obtain ⟨fd_tree_or_core, F_tree_or_core⟩ := c.def_ 30 (d := dd_tree_or_core) rfl
  obtain ⟨fd_fits_all, F_fits_all⟩ := c.def_ 31 (d := dd_fits_all) rfl
  obtain ⟨fd_steps_by, F_steps_by⟩ := c.def_ 32 (d := dd_steps_by) rfl
  obtain ⟨fd_is_order_by, F_is_order_by⟩ := c.def_ 33 (d := dd_is_order_by) rfl
  obtain ⟨fd_steps_counted, F_steps_counted⟩ := c.def_ 34 (d := dd_steps_counted) rfl
  obtain ⟨fd_law, F_law⟩ := c.def_ 35 (d := dd_law) rfl
  have e := hfa.symm.trans (He.glo_ok X G (c.fact 35 (f := .glo "law") rfl))
  cases e
  have b := FunD.bindsA (ps := ["script"]) F_law fun _ _ _ _ _ _ us hl => match us, hl with | [_], _ => rfl
  exact ⟨fd_law, fun s v => b s [v] rfl, fun base _ _ => ok_law (Gs.mk (K := K) (mg := mg)
    (a__law_cell := _)
    (d__law_cell := fd__law_cell)
    (F__law_cell := F__law_cell)
    (g__law_cell := He.glo_ok X G (c.fact 0 (f := .glo "_law_cell") rfl))
    (a__law_generator := _)
    (d__law_generator := fd__law_generator)
    (F__law_generator := F__law_generator)
    (g__law_generator := He.glo_ok X G (c.fact 1 (f := .glo "_law_generator") rfl))
    (a__law_hash := _)
    (d__law_hash := fd__law_hash)
    (F__law_hash := F__law_hash)
    (g__law_hash := He.glo_ok X G (c.fact 2 (f := .glo "_law_hash") rfl))
    (a__law_random := _)
    (d__law_random := fd__law_random)
    (F__law_random := F__law_random)
    (g__law_random := He.glo_ok X G (c.fact 3 (f := .glo "_law_random") rfl))
    (a__law_parts := _)
    (d__law_parts := fd__law_parts)
    (F__law_parts := F__law_parts)
    (g__law_parts := He.glo_ok X G (c.fact 4 (f := .glo "_law_parts") rfl))
    (a__law_pick := _)
    (d__law_pick := fd__law_pick)
    (F__law_pick := F__law_pick)
    (g__law_pick := He.glo_ok X G (c.fact 5 (f := .glo "_law_pick") rfl))
    (a__law_lots := _)
    (d__law_lots := fd__law_lots)
    (F__law_lots := F__law_lots)
    (g__law_lots := He.glo_ok X G (c.fact 6 (f := .glo "_law_lots") rfl))
    (a__law_joins := _)
    (d__law_joins := fd__law_joins)
    (F__law_joins := F__law_joins)
    (g__law_joins := He.glo_ok X G (c.fact 7 (f := .glo "_law_joins") rfl))
    (a_is_whole := _)
    (d_is_whole := fd_is_whole)
    (F_is_whole := F_is_whole)
    (g_is_whole := He.glo_ok X G (c.fact 8 (f := .glo "is_whole") rfl))
    (a_is_many := _)
    (d_is_many := fd_is_many)
    (F_is_many := F_is_many)
    (g_is_many := He.glo_ok X G (c.fact 9 (f := .glo "is_many") rfl))
    (a_check_many := _)
    (d_check_many := fd_check_many)
    (F_check_many := F_check_many)
    (g_check_many := He.glo_ok X G (c.fact 10 (f := .glo "check_many") rfl))
    (a_is_lot_by := _)
    (d_is_lot_by := fd_is_lot_by)
    (F_is_lot_by := F_is_lot_by)
    (g_is_lot_by := He.glo_ok X G (c.fact 11 (f := .glo "is_lot_by") rfl))
    (a_are_letters := _)
    (d_are_letters := fd_are_letters)
    (F_are_letters := F_are_letters)
    (g_are_letters := He.glo_ok X G (c.fact 12 (f := .glo "are_letters") rfl))
    (a_is_part_by := _)
    (d_is_part_by := fd_is_part_by)
    (F_is_part_by := F_is_part_by)
    (g_is_part_by := He.glo_ok X G (c.fact 13 (f := .glo "is_part_by") rfl))
    (a_lots_of := _)
    (d_lots_of := fd_lots_of)
    (F_lots_of := F_lots_of)
    (g_lots_of := He.glo_ok X G (c.fact 14 (f := .glo "lots_of") rfl))
    (a_are_parts_by := _)
    (d_are_parts_by := fd_are_parts_by)
    (F_are_parts_by := F_are_parts_by)
    (g_are_parts_by := He.glo_ok X G (c.fact 15 (f := .glo "are_parts_by") rfl))
    (a_check_parts := _)
    (d_check_parts := fd_check_parts)
    (F_check_parts := F_check_parts)
    (g_check_parts := He.glo_ok X G (c.fact 16 (f := .glo "check_parts") rfl))
    (a_common_letters := _)
    (d_common_letters := fd_common_letters)
    (F_common_letters := F_common_letters)
    (g_common_letters := He.glo_ok X G (c.fact 17 (f := .glo "common_letters") rfl))
    (a_stays := _)
    (d_stays := fd_stays)
    (F_stays := F_stays)
    (g_stays := He.glo_ok X G (c.fact 18 (f := .glo "stays") rfl))
    (a_evened_by := _)
    (d_evened_by := fd_evened_by)
    (F_evened_by := F_evened_by)
    (g_evened_by := He.glo_ok X G (c.fact 19 (f := .glo "evened_by") rfl))
    (a_evened_parts := _)
    (d_evened_parts := fd_evened_parts)
    (F_evened_parts := F_evened_parts)
    (g_evened_parts := He.glo_ok X G (c.fact 20 (f := .glo "evened_parts") rfl))
    (a_put_in := _)
    (d_put_in := fd_put_in)
    (F_put_in := F_put_in)
    (g_put_in := He.glo_ok X G (c.fact 21 (f := .glo "put_in") rfl))
    (a_joined_by := _)
    (d_joined_by := fd_joined_by)
    (F_joined_by := F_joined_by)
    (g_joined_by := He.glo_ok X G (c.fact 22 (f := .glo "joined_by") rfl))
    (a_check_few := _)
    (d_check_few := fd_check_few)
    (F_check_few := F_check_few)
    (g_check_few := He.glo_ok X G (c.fact 23 (f := .glo "check_few") rfl))
    (a_joined_rows := _)
    (d_joined_rows := fd_joined_rows)
    (F_joined_rows := F_joined_rows)
    (g_joined_rows := He.glo_ok X G (c.fact 24 (f := .glo "joined_rows") rfl))
    (a_are_joins_by := _)
    (d_are_joins_by := fd_are_joins_by)
    (F_are_joins_by := F_are_joins_by)
    (g_are_joins_by := He.glo_ok X G (c.fact 25 (f := .glo "are_joins_by") rfl))
    (a_check_joins := _)
    (d_check_joins := fd_check_joins)
    (F_check_joins := F_check_joins)
    (g_check_joins := He.glo_ok X G (c.fact 26 (f := .glo "check_joins") rfl))
    (a_alone_left := _)
    (d_alone_left := fd_alone_left)
    (F_alone_left := F_alone_left)
    (g_alone_left := He.glo_ok X G (c.fact 27 (f := .glo "alone_left") rfl))
    (a_common := _)
    (d_common := fd_common)
    (F_common := F_common)
    (g_common := He.glo_ok X G (c.fact 28 (f := .glo "common") rfl))
    (a_within_another := _)
    (d_within_another := fd_within_another)
    (F_within_another := F_within_another)
    (g_within_another := He.glo_ok X G (c.fact 29 (f := .glo "within_another") rfl))
    (a_tree_or_core := _)
    (d_tree_or_core := fd_tree_or_core)
    (F_tree_or_core := F_tree_or_core)
    (g_tree_or_core := He.glo_ok X G (c.fact 30 (f := .glo "tree_or_core") rfl))
    (a_fits_all := _)
    (d_fits_all := fd_fits_all)
    (F_fits_all := F_fits_all)
    (g_fits_all := He.glo_ok X G (c.fact 31 (f := .glo "fits_all") rfl))
    (a_steps_by := _)
    (d_steps_by := fd_steps_by)
    (F_steps_by := F_steps_by)
    (g_steps_by := He.glo_ok X G (c.fact 32 (f := .glo "steps_by") rfl))
    (a_is_order_by := _)
    (d_is_order_by := fd_is_order_by)
    (F_is_order_by := F_is_order_by)
    (g_is_order_by := He.glo_ok X G (c.fact 33 (f := .glo "is_order_by") rfl))
    (a_steps_counted := _)
    (d_steps_counted := fd_steps_counted)
    (F_steps_counted := F_steps_counted)
    (g_steps_counted := He.glo_ok X G (c.fact 34 (f := .glo "steps_counted") rfl))
    (a_law := _)
    (d_law := fd_law)
    (F_law := F_law)
    (g_law := He.glo_ok X G (c.fact 35 (f := .glo "law") rfl))
    (z_len := He.free_ok X G (c.fact 36 (f := .free "len") rfl))
    (z_sum := He.free_ok X G (c.fact 37 (f := .free "sum") rfl))
    (z_int := He.free_ok X G (c.fact 38 (f := .free "int") rfl))
    (z_max := He.free_ok X G (c.fact 39 (f := .free "max") rfl))
    (z_range := He.free_ok X G (c.fact 40 (f := .free "range") rfl))
    (z_sorted := He.free_ok X G (c.fact 41 (f := .free "sorted") rfl))
    (z_isinstance := He.free_ok X G (c.fact 42 (f := .free "isinstance") rfl))
    (z_bool := He.free_ok X G (c.fact 43 (f := .free "bool") rfl))
    (z_list := He.free_ok X G (c.fact 44 (f := .free "list") rfl))
    (z_all := He.free_ok X G (c.fact 45 (f := .free "all") rfl))
    (z_tuple := He.free_ok X G (c.fact 46 (f := .free "tuple") rfl))
    (z_any := He.free_ok X G (c.fact 47 (f := .free "any") rfl))
    (z_zip := He.free_ok X G (c.fact 48 (f := .free "zip") rfl))
    (z_enumerate := He.free_ok X G (c.fact 49 (f := .free "enumerate") rfl))
    (z_set := He.free_ok X G (c.fact 50 (f := .free "set") rfl))
    (i_MOST_THINGS := He.int_ok X G (c.fact 51 (f := .int "MOST_THINGS" 5) rfl))
    (i_MOST_LETTER := He.int_ok X G (c.fact 52 (f := .int "MOST_LETTER" 9) rfl))
    (i_MOST_PART := He.int_ok X G (c.fact 53 (f := .int "MOST_PART" 12) rfl))
    (i_MOST_JOINS := He.int_ok X G (c.fact 54 (f := .int "MOST_JOINS" 6) rfl))
    (i_MOST_JOINED := He.int_ok X G (c.fact 55 (f := .int "MOST_JOINED" 500) rfl))
    )⟩
/-- the law, plainly -/
def Plain : Prop := ∀ ns : List Int, ns.length ≤ 63 → m_law [.dict [(.none, .list (ns.map .int))]] = some (.bool true)
theorem sp_law {K : PySem.W.Frag} (hp : Plain) {H : Hp} {a : Addr} {ns : List Int} {Q : VK} {E : XK} (hl : ns.length ≤ 63) (hS : SqL K H a (ns.map V.int)) (hQ : ∀ G : Hp, Q (.bl true) G) : spP K 1 m_law [.ref a] H Q E := by
  refine ⟨fun _ => False, _, _, rfl, .cons (.scr (sqL_same (fun a o e => er_some.mpr ⟨fun z => z, e⟩) hS)) .nil, fun _ z => z.elim, hp ns hl, fun v G s q => ?_⟩
  cases q
  exact hQ G
end K84
open PySem PySem.W PySem.Calls PyProof.Rows
theorem K84.holds (hp : K84.Plain) : PySem.Challenge.rw_lotstell_k84_whole_parts_evened_by_trees.Holds := by
  w_on; o_law
  refine HandSHeadRun.head_any (r := OpenLaw.row PySem.Challenge.rw_lotstell_k84_whole_parts_evened_by_trees) (q := view (OpenLaw.row PySem.Challenge.rw_lotstell_k84_whole_parts_evened_by_trees).prog [54]) (H := K84.hk) (ob := K84.ob) (M := 20000) (loose := K84.loose) (d := HandSHeadRun.topDef (OpenLaw.row PySem.Challenge.rw_lotstell_k84_whole_parts_evened_by_trees).prog 54) (kwd := []) K84.ob_eq
    (by kernel_rfl) (fun s => by kernel_rfl) K84.run (by kernel_rfl) (by kernel_rfl) (by kernel_rfl) (by rfl) (by first | assumption | decide +kernel) (by decide +kernel) ⟨rfl, rfl, rfl, rfl, rfl, by decide +kernel⟩ ?hw ?hc
  case hw => w_witness2
  case hc =>
    refine L2.walk_ofE (l := PySem.Challenge.rw_lotstell_k84_whole_parts_evened_by_trees) (n := 63) (k := 8) (x := "script") (CX := L2.CX0) rfl (by decide) (by kernel_rfl) ⟨rfl, by decide, by decide⟩ ?F (fun _ _ _ _ z => z)
    intro w mg fa h Y G hmg0
    obtain ⟨K, KX, c⟩ := Y
    have hmg : mg ("law" : PySem.Str) = some (.ref fa) := by
      have e : (HandSHeadRun.topDef (OpenLaw.row PySem.Challenge.rw_lotstell_k84_whole_parts_evened_by_trees).prog 54).name = ("law" : PySem.Str) := by kernel_rfl
      rw [← e]
      exact hmg0
    obtain ⟨fd, hb, hF⟩ := K84.facts (P := (PySem.Challenge.rw_lotstell_k84_whole_parts_evened_by_trees).prog) (w := w) KX G hmg c
    exact ⟨K, fd, PD.spP K 1 K84.m_law, KX, hb, fun H a ns hl _ hS => K84.sp_law hp hl hS (fun _ => rfl), hF⟩
end

section
set_option Elab.async false
set_option linter.all false
set_option maxRecDepth 100000
set_option maxHeartbeats 1000000
namespace K84
open PySem PySem.Spec PyProof.Rows PD PM
/-! ### the law -/
theorem emp_none {ps : List Part} : (ps.filter fun p => decide (p.2 = [])) = [] ↔ ∀ p ∈ ps, p.2 ≠ [] := by
  rw [List.filter_eq_nil_iff]
  simp
theorem eqv_eP (a b : Part) : PyData.eqv (eP a) (eP b) = decide (a = b) := by
  obtain ⟨a1, a2⟩ := a
  obtain ⟨b1, b2⟩ := b
  show PyData.eqv (.tuple _) (.tuple _) = _
  rw [PyData.eqv, PyData.eqvAll, PyData.eqvAll, PyData.eqvAll, eqv_eI, eqv_eL]
  simp [Prod.ext_iff]
theorem eqv_eS (a b : List Part) : PyData.eqv (eS a) (eS b) = decide (a = b) := by
  show PyData.eqv (.list _) (.list _) = _
  rw [PyData.eqv]
  exact eqvAll_map eP eqv_eP a b
theorem sh_eP (p : Part) : Sh 3 (eP p) := sh_tuple fun d hd => by
  simp only [List.mem_cons, List.not_mem_nil, or_false] at hd
  rcases hd with rfl | rfl
  · exact (sh_eI _).mono (by decide)
  · exact sh_eL _
theorem sh_eS (ps : List Part) : Sh 4 (eS ps) := sh_list fun d hd => by
  obtain ⟨p, _, rfl⟩ := List.mem_map.mp hd
  exact sh_eP p
theorem dEq_eS (a b : List Part) : dEq (eS a) (eS b) = some (.bool (decide (a = b))) := by rw [dEq_sh (sh_eS a) (sh_eS b), eqv_eS]
theorem dNe_eS (a b : List Part) : dNe (eS a) (eS b) = some (.bool (!decide (a = b))) := by rw [dNe_sh (sh_eS a) (sh_eS b), eqv_eS]
/-- the rows that stay and are part of a joined row, in order -/
theorem lines_ev {n : Nat} {rows late : List (List Int)} {lot : List Int} {e0 e1 e2 e3 e4 x5 x6 x7 x8 e9 x13 x14 x15 x16 x17 : Ent} (hr : ∀ r ∈ rows, r.length = n) (hl : ∀ t ∈ lot, 0 ≤ t ∧ t < (n : Int)) :
    eCall dSorted (aCons (eLC (iLst (eVar 12)) (tgN 15) (bOf (eBin dNe (eLC (iLst (eVar 10)) (tgN 16) (bOf (eBin dEq (eLC (iLst (eVar 11)) (tgN 17) bYes (eBin dIx (eVar 16) (eVar 17)) [17]) (eVar 15))) (eVar 16) [16]) (eLst aNil))) (eVar 15) [15]) aNil) [e0, e1, e2, e3, e4, x5, x6, x7, x8, e9, .dat (eL rows), .dat (eI lot), .dat (eL late), x13, x14, x15, x16, x17] = some (eL (sortL (late.filter fun line => !decide ((rows.filter fun r => decide (restr lot r = line)) = [])))) := by
  refine eCall_of (a1 (eLC_map eI (fun line => !decide ((rows.filter fun r => decide (restr lot r = line)) = [])) eI late (iLst_of v_of) fun line _ => ⟨_, rfl, ?_, fun _ => v_of⟩) a0) (dSorted_eL _)
  refine b_of (bin_of (d := eL (rows.filter fun r => decide (restr lot r = line))) (e := eL []) ?_ (lst_of a0 (by decide)) (dNe_eL _ _))
  refine eLC_map eI (fun r => decide (restr lot r = line)) eI rows (iLst_of v_of) fun r hr' => ⟨_, rfl, ?_, fun _ => v_of⟩
  refine b_of (bin_of (d := eI (restr lot r)) (e := eI line) ?_ v_of (dEq_eI _ _))
  refine eLC_all PyData.int (fun t => .int (r.getD t.toNat 0)) lot (iLst_of v_of) (fun t ht => ⟨_, rfl, ?_⟩) (by show PyData.list _ = PyData.list _; rw [restr_map, List.map_map]; rfl)
  refine bin_of (d := eI r) v_of v_of ?_
  show L2.atI _ _ = _
  obtain ⟨t0, t1⟩ := hl t ht
  have h1 := hr r hr'
  refine atI_in t0 ?_
  rw [List.getElem?_map, List.getD_eq_getElem?_getD, List.getElem?_eq_getElem (by omega)]
  rfl
theorem lines_all {n : Nat} {ps stay : List Part} {rows : List (List Int)} {q : Part} (u : Under stay ps) (hp : ∀ p ∈ ps, VPart n p) (hc : Cons stay) (ht : isTree (ps.map (·.1)) = true) (hq : q ∈ stay) (rm : ∀ l, l ∈ rows ↔ Full n ps l) (hs : q.2.Pairwise (· < ·)) :
    sortL (q.2.filter fun line => !decide ((rows.filter fun r => decide (restr q.1 r = line)) = [])) = q.2 := by
  rw [List.filter_eq_self.mpr, sorted_same hs]
  intro line hl
  obtain ⟨r, f, e⟩ := tree_row u hp hc ht hq hl
  have h : r ∈ rows.filter fun r => decide (restr q.1 r = line) := List.mem_filter.mpr ⟨(rm r).mpr f, decide_eq_true e⟩
  cases hh : rows.filter fun r => decide (restr q.1 r = line) with
  | nil => rw [hh] at h; cases h
  | cons a as => simp
theorem plain : Plain := fun ns hl => by
  unfold m_law b_law_
  refine runQ (seqQI (I := fun _ => True) (forN (fun i : Nat => PyData.int (i : Nat)) (List.range 4) (fun _ ρ => ∃ x1 x2 x3 x4 x5 x6 x7 x8 x9 x10 x11 x12 x13 x14 x15 x16 x17, ρ = [.dat (scr ns), x1, x2, x3, x4, x5, x6, x7, x8, x9, x10, x11, x12, x13, x14, x15, x16, x17]) (mI_of (iRange1_of (n := 4) rfl (by omega))) ⟨_, _, _, _, _, _, _, _, _, _, _, _, _, _, _, _, _, rfl⟩ ?_ (fun _ _ => trivial)) fun ρ1 _ => retQ rfl)
  rintro d1 i d2 ρ hd ⟨x1, x2, x3, x4, x5, x6, x7, x8, x9, x10, x11, x12, x13, x14, x15, x16, x17, rfl⟩
  have hi : i < 4 := by
    have : i ∈ List.range 4 := by rw [hd]; simp
    simpa using this
  refine ⟨_, rfl, ?_⟩
  obtain ⟨γ, hγ, g⟩ := generator_ev ns i hl hi
  refine seqN (setN_of (nFn_of (a1 v_of (a1 v_of a0)) hγ)) ?_
  obtain ⟨r, γ1, hr, g1, e1⟩ := draw_ev (ρ := [.dat (scr ns), .dat (.int (i : Nat)), .own false γ, x3, x4, x5, x6, x7, x8, x9, x10, x11, x12, x13, x14, x15, x16, x17]) g (by omega) 1 4 ⟨by decide, by decide⟩ rfl
  refine seqN (set_of e1) ?_
  obtain ⟨n, hn⟩ : ∃ n, n = 1 + r := ⟨_, rfl⟩
  rw [← hn]
  have hn4 : n ∈ [1, 2, 3, 4] := by simp; omega
  show NextQ _ [.dat (scr ns), .dat (.int (i : Nat)), .own false γ1, .dat (.int (n : Nat)), x4, x5, x6, x7, x8, x9, x10, x11, x12, x13, x14, x15, x16, x17] _
  obtain ⟨js, γ2, e2, hv, g2⟩ := joins_ev g1 (by omega) hn4
  obtain ⟨ps, γ3, e3, hps, hok, g3⟩ := parts_ev g2 (by omega) hv
  refine seqN (set_of (mGen_of (t := false) (t1 := false) (γ := γ1) (γ1 := γ2) (ds := [eL js, .int 2, .int 4]) (d := eS ps) rfl (mCons_of (mGen_of (t := false) (t1 := false) (γ := γ1) (γ1 := γ1) rfl (mA_of (ds := [.int (n : Nat)]) rfl) rfl e2) (mA_of rfl)) rfl e3)) ?_
  show NextQ _ [.dat (scr ns), .dat (.int (i : Nat)), .own false γ3, .dat (.int (n : Nat)), .dat (eS ps), x5, x6, x7, x8, x9, x10, x11, x12, x13, x14, x15, x16, x17] _
  have hp : ∀ p ∈ ps, VPart n p := fun p h => (hok p h).1
  have hb : Bin ps := fun p h => (hok p h).2.2
  have h4 : ∀ p ∈ ps, p.2.length ≤ 4 := fun p h => (hok p h).2.1
  have hv2 : VLots n (ps.map (·.1)) := hps.symm ▸ hv
  obtain ⟨stay, es, u, hc, _, hg⟩ := evened_parts_ev hp hv2
  obtain ⟨rows, er, _, rnd, rmem, rlen⟩ := joined_rows_ev hp hv2 h4 hb
  refine seqN (unp_of (d := .tuple [eS stay, eL rows]) (tup_of (a1 (eFn_of (a1 v_of (a1 v_of a0)) es) (a1 (eFn_of (a1 v_of (a1 v_of a0)) er) a0)) (show 2 ≤ lim by decide)) rfl) ?_
  show NextQ _ [.dat (scr ns), .dat (.int (i : Nat)), .own false γ3, .dat (.int (n : Nat)), .dat (eS ps), x5, x6, x7, x8, .dat (eS stay), .dat (eL rows), x11, x12, x13, x14, x15, x16, x17] _
  -- the parts with no row
  have em : eLC (iLst (eVar 9)) (tgN 13) (bOf (eBin dEq (eBin dIx (eVar 13) (eC (.int 1))) (eLst aNil))) (eVar 13) [13] [.dat (scr ns), .dat (.int (i : Nat)), .own false γ3, .dat (.int (n : Nat)), .dat (eS ps), x5, x6, x7, x8, .dat (eS stay), .dat (eL rows), x11, x12, x13, x14, x15, x16, x17] = some (eS (stay.filter fun p => decide (p.2 = []))) := empties_ev rfl rfl (by simp)
  have nem : eLC (iLst (eVar 9)) (tgN 13) (bOf (eBin dNe (eBin dIx (eVar 13) (eC (.int 1))) (eLst aNil))) (eVar 13) [13] [.dat (scr ns), .dat (.int (i : Nat)), .own false γ3, .dat (.int (n : Nat)), .dat (eS ps), x5, x6, x7, x8, .dat (eS stay), .dat (eL rows), x11, x12, x13, x14, x15, x16, x17] = some (eS (stay.filter fun p => !decide (p.2 = []))) := fulls_ev rfl rfl (by simp)
  have t0 := b_of (bin_of em (lst_of (ds := []) a0 (by decide)) (dEq_eS _ []))
  have vs : (∀ p ∈ stay, p.2 ≠ []) → (∀ p ∈ stay, VPart n p) ∧ VLots n (stay.map (·.1)) := fun h => ⟨fun p hp' => under_part u hp hp' (h p hp'), by rw [under_map u]; exact hv2⟩
  refine seqN (if_f (D := sNext) ?_ rfl) ?_
  · by_cases hne : ∀ p ∈ stay, p.2 ≠ []
    · obtain ⟨v1, v2⟩ := vs hne
      obtain ⟨res, e5, _, _, e6, _⟩ := evened_parts_ev v1 v2
      rw [e6 hc] at e5
      have fe : (stay.filter fun p => !decide (p.2 = [])) = stay := List.filter_eq_self.mpr fun p hp' => by simp [hne p hp']
      rw [fe] at nem
      rw [decide_eq_true (emp_none.mpr hne)] at t0
      rw [bIf_ev, t0]
      show bOf _ _ = _
      refine b_of (bin_of (eFn_of (a1 v_of (a1 nem a0)) e5) v_of ?_)
      rw [dNe_eS]
      simp
    · have z : rows = [] := List.eq_nil_iff_forall_not_mem.mpr fun l hl' => by
        have fl := full_keep hp hg (under_map u) ((rmem l).mp hl')
        refine hne fun p hp' e => ?_
        have := fl.2 p hp'
        rw [e] at this
        cases this
      rw [decide_eq_false (fun h => hne (emp_none.mp h))] at t0
      rw [bIf_ev, t0]
      show bOf _ _ = _
      refine b_of (bin_of (d := eL rows) (e := eL []) v_of (lst_of a0 (by decide)) ?_)
      rw [dNe_eL, z]
      rfl
  -- on a tree nothing more goes
  obtain ⟨td, et⟩ := tree_or_core_ev hv2
  have lots : eLC (iLst (eVar 4)) (tgT [11, 12]) bYes (eVar 11) [11, 12] [.dat (scr ns), .dat (.int (i : Nat)), .own false γ3, .dat (.int (n : Nat)), .dat (eS ps), x5, x6, x7, x8, .dat (eS stay), .dat (eL rows), x11, x12, x13, x14, x15, x16, x17] = some (eL (ps.map (·.1))) :=
    eLC_all eP (fun p => eI p.1) ps (iLst_of v_of) (fun p _ => ⟨_, rfl, v_of⟩) (by show PyData.list _ = PyData.list (List.map eI _); rw [List.map_map]; rfl)
  have tt : bOf (eBin dEq (eBin dIx (eFn 2 m_tree_or_core (aCons (eVar 3) (aCons (eLC (iLst (eVar 4)) (tgT [11, 12]) bYes (eVar 11) [11, 12]) aNil))) (eC (.int 0))) (eC (.str "tree"))) [.dat (scr ns), .dat (.int (i : Nat)), .own false γ3, .dat (.int (n : Nat)), .dat (eS ps), x5, x6, x7, x8, .dat (eS stay), .dat (eL rows), x11, x12, x13, x14, x15, x16, x17] = some (isTree (ps.map (·.1))) := by
    refine b_of (bin_of (bin_of (eFn_of (a1 v_of (a1 lots a0)) et) rfl rfl) rfl ?_)
    cases isTree (ps.map (·.1)) <;> kernel_rfl
  refine seqNI (J := fun ρ => ∃ x11 x12, ρ = [.dat (scr ns), .dat (.int (i : Nat)), .own false γ3, .dat (.int (n : Nat)), .dat (eS ps), x5, x6, x7, x8, .dat (eS stay), .dat (eL rows), x11, x12, x13, x14, x15, x16, x17]) ?_ ?_
  · cases hT : isTree (ps.map (·.1)) with
    | false => exact ifN_f (tt.trans (by rw [hT])) ⟨_, rfl, x11, x12, rfl⟩
    | true =>
      refine ifN_t (tt.trans (by rw [hT])) ?_
      refine forN eP stay (fun _ ρ => ∃ x11 x12, ρ = [.dat (scr ns), .dat (.int (i : Nat)), .own false γ3, .dat (.int (n : Nat)), .dat (eS ps), x5, x6, x7, x8, .dat (eS stay), .dat (eL rows), x11, x12, x13, x14, x15, x16, x17]) (mI_of (iLst_of v_of)) ⟨_, _, rfl⟩ ?_ (fun _ h => h)
      rintro d3 p d4 ρ hd3 ⟨y11, y12, rfl⟩
      have hp4 : p ∈ stay := by rw [hd3]; simp
      refine ⟨_, rfl, ?_⟩
      refine ifN_f (D := sNext) ?_ ⟨_, rfl, .dat (eI p.1), .dat (eL p.2), rfl⟩
      have em2 : eLC (iLst (eVar 9)) (tgN 13) (bOf (eBin dEq (eBin dIx (eVar 13) (eC (.int 1))) (eLst aNil))) (eVar 13) [13] [.dat (scr ns), .dat (.int (i : Nat)), .own false γ3, .dat (.int (n : Nat)), .dat (eS ps), x5, x6, x7, x8, .dat (eS stay), .dat (eL rows), .dat (eI p.1), .dat (eL p.2), x13, x14, x15, x16, x17] = some (eS (stay.filter fun p => decide (p.2 = []))) := empties_ev rfl rfl (by simp)
      have t2 := b_of (bin_of em2 (lst_of (ds := []) a0 (by decide)) (dEq_eS _ []))
      by_cases hne : ∀ p ∈ stay, p.2 ≠ []
      · obtain ⟨v1, v2⟩ := vs hne
        rw [decide_eq_true (emp_none.mpr hne)] at t2
        have hla := lines_all (rows := rows) u hp hc hT hp4 rmem (v1 p hp4).inc
        have le := lines_ev (n := n) (rows := rows) (late := p.2) (lot := p.1) (e0 := .dat (scr ns)) (e1 := .dat (.int (i : Nat))) (e2 := .own false γ3) (e3 := .dat (.int (n : Nat))) (e4 := .dat (eS ps)) (x5 := x5) (x6 := x6) (x7 := x7) (x8 := x8) (e9 := .dat (eS stay)) (x13 := x13) (x14 := x14) (x15 := x15) (x16 := x16) (x17 := x17) (fun r hr => ((rmem r).mp hr).1) (v1 p hp4).lot.rng
        rw [hla] at le
        have t3 := b_of (bin_of (F := eVar 12) v_of le (dNe_eL _ _))
        rw [bAnd_ev]
        refine (congrArg (fun z => Option.bind z _) t2).trans ?_
        refine t3.trans ?_
        simp
      · rw [decide_eq_false (fun h => hne (emp_none.mp h))] at t2
        rw [bAnd_ev]
        exact (congrArg (fun z => Option.bind z _) t2).trans rfl
  · rintro ρ ⟨y11, y12, rfl⟩
    -- the last count of the steps
    obtain ⟨cs, e8, e9⟩ := steps_counted_ev hp hv2 h4 hb
    have hups : (fun ρ => (iRange1 (eVar 3) ρ).map PyData.list) [.dat (scr ns), .dat (.int (i : Nat)), .own false γ3, .dat (.int (n : Nat)), .dat (eS ps), x5, x6, x7, x8, .dat (eS stay), .dat (eL rows), y11, y12, x13, x14, x15, x16, x17] = some (eI (ups n)) := by
      show ((iRange1 (eVar 3) _).map PyData.list) = _
      rw [iRange1_ups (n := n) v_of (by omega)]
      rfl
    refine seqN (if_f (D := sNext) (b_of (bin_of (d := .int ((fulls n ps).length : Int)) (e := .int (rows.length : Int)) (bin_of (d := eI cs) (eFn_of (a1 v_of (a1 v_of (a1 (un_of hups (d := eI (ups n)) ?_) a0))) e8) rfl ?_) (eCall_of (a1 v_of a0) (by rw [dLen_list, List.length_map])) ?_)) rfl) ?_
    · show some (PyData.list _) = some (PyData.list _)
      rw [List.map_reverse]
    · show L2.atI (cs.map PyData.int) (-1) = _
      refine last_ev ?_
      rw [List.getLast?_map, e9]
      rfl
    · rw [dNe_int, rlen]
      simp
    -- the path, the ring and the odd letters
    obtain ⟨r2, γ4, hr2, g4, e10⟩ := draw_ev (ρ := [.dat (scr ns), .dat (.int (i : Nat)), .own false γ3, .dat (.int (n : Nat)), .dat (eS ps), x5, x6, x7, x8, .dat (eS stay), .dat (eL rows), y11, y12, x13, x14, x15, x16, x17]) g3 (by omega) 3 3 ⟨by decide, by decide⟩ rfl
    refine seqN (set_of e10) ?_
    obtain ⟨w, hw⟩ : ∃ w, w = 3 + r2 := ⟨_, rfl⟩
    rw [← hw]
    have hw3 : w ∈ [3, 4, 5] := by simp; omega
    have hw1 : ((w : Int) - 1) = ((w - 1 : Nat) : Int) := by omega
    obtain ⟨k1, k2, k3, k4, k5, k6, k7, k8, k9⟩ := ring_lots w hw3
    show NextQ _ [.dat (scr ns), .dat (.int (i : Nat)), .own false γ4, .dat (.int (n : Nat)), .dat (eS ps), .dat (.int (w : Nat)), x6, x7, x8, .dat (eS stay), .dat (eL rows), y11, y12, x13, x14, x15, x16, x17] _
    refine seqN (setD_of (d := eL (pairsW w)) (bin_of (d := eL (pairsW w)) (e := eL []) (eCall_of (a1 (d := eL (pairs0 w)) (eLC_all (fun a : Nat => PyData.int (a : Nat)) (fun a : Nat => eI [(a : Int), (a : Int) + 1]) (List.range (w - 1)) ?_ (fun a _ => ⟨_, rfl, lst_of (a1 v_of (a1 (bin_of v_of rfl rfl) a0)) (show 2 ≤ lim by decide)⟩) ?_) a0) ?_) (lst_of a0 (by decide)) ?_)) ?_
    · exact iRange1_of (n := w - 1) (bin_of v_of rfl (by show some (PyData.int _) = _; rw [hw1])) (by omega)
    · show PyData.list _ = PyData.list (List.map eI (pairs0 w))
      unfold pairs0
      rw [List.map_map]
      rfl
    · rw [dSorted_eL, sortL_isrt]
      rfl
    · rw [dAdd_list (by rw [List.length_map]; have := k4.2; show _ + 0 ≤ 1000000; omega)]
      show some (PyData.list (_ ++ [])) = _
      rw [List.append_nil]
    show NextQ _ [.dat (scr ns), .dat (.int (i : Nat)), .own false γ4, .dat (.int (n : Nat)), .dat (eS ps), .dat (.int (w : Nat)), .dat (eL (pairsW w)), x7, x8, .dat (eS stay), .dat (eL rows), y11, y12, x13, x14, x15, x16, x17] _
    refine seqN (setD_of (d := eL (ringW w)) (eCall_of (a1 (d := eL (pairsW w ++ [lastP w])) (bin_of (d := eL (pairsW w)) (e := eL [lastP w]) v_of (lst_of (a1 (lst_of (a1 rfl (a1 (bin_of v_of rfl rfl) a0)) (show 2 ≤ lim by decide)) a0) (show 1 ≤ lim by decide)) ?_) a0) ?_)) ?_
    · rw [dAdd_list (by rw [List.length_map]; have := k4.2; show _ + 1 ≤ 1000000; omega), ← List.map_append]
    · rw [dSorted_eL, sortL_isrt]
      rfl
    show NextQ _ [.dat (scr ns), .dat (.int (i : Nat)), .own false γ4, .dat (.int (n : Nat)), .dat (eS ps), .dat (.int (w : Nat)), .dat (eL (pairsW w)), .dat (eL (ringW w)), x8, .dat (eS stay), .dat (eL rows), y11, y12, x13, x14, x15, x16, x17] _
    refine seqN (setD_of (d := eS (oddW w)) (eLC_all eI (fun lot => eP (oddP w lot)) (ringW w) (iLst_of v_of) (fun lot _ => ⟨_, rfl, tup_of (ds := [eI lot, eL (oddP w lot).2]) (a1 v_of (a1 ?_ a0)) (show 2 ≤ lim by decide)⟩) ?_)) ?_
    · have t5 : eBin dNe (eVar 11) (eLst (aCons (eC (.int 0)) (aCons (eBin dSub (eVar 5) (eC (.int 1))) aNil))) [.dat (scr ns), .dat (.int (i : Nat)), .own false γ4, .dat (.int (n : Nat)), .dat (eS ps), .dat (.int (w : Nat)), .dat (eL (pairsW w)), .dat (eL (ringW w)), x8, .dat (eS stay), .dat (eL rows), .dat (eI lot), y12, x13, x14, x15, x16, x17] = some (.bool (!decide (lot = lastP w))) := bin_of (d := eI lot) (e := eI (lastP w)) v_of (lst_of (a1 rfl (a1 (bin_of v_of rfl rfl) a0)) (show 2 ≤ lim by decide)) (dNe_eI _ _)
      refine (congrArg (fun z => Option.bind z _) (b_of t5)).trans ?_
      show (if _ then _ else _) = some (eL (if lot ≠ lastP w then [[0, 0], [1, 1]] else [[0, 1], [1, 0]]))
      by_cases hl : lot = lastP w
      · rw [if_neg (by simp [hl]), if_neg (by simp [hl])]
        rfl
      · rw [if_pos (by simp [hl]), if_pos hl]
        rfl
    · show PyData.list _ = PyData.list (List.map eP (oddW w))
      unfold oddW
      rw [List.map_map]
      rfl
    show NextQ _ [.dat (scr ns), .dat (.int (i : Nat)), .own false γ4, .dat (.int (n : Nat)), .dat (eS ps), .dat (.int (w : Nat)), .dat (eL (pairsW w)), .dat (eL (ringW w)), .dat (eS (oddW w)), .dat (eS stay), .dat (eL rows), y11, y12, x13, x14, x15, x16, x17] _
    have oe := odd_evened hw3
    have oj := odd_joined hw3
    obtain ⟨pj, pe, pl⟩ := path_joined hw3
    obtain ⟨rd, re⟩ := tree_or_core_ev (ring_ok hw3)
    obtain ⟨qd, qe⟩ := tree_or_core_ev (pairs_ok hw3)
    rw [k7] at re
    rw [k8] at qe
    refine seqN (if_f (D := sNext) ?_ rfl) ?_
    · rw [bOr_ev, b_of (bin_of (bin_of (eFn_of (a1 v_of (a1 v_of a0)) re) rfl rfl) rfl (z := .bool false) (by kernel_rfl))]
      show bOr _ _ _ = _
      rw [bOr_ev, b_of (bin_of (eFn_of (a1 v_of (a1 v_of a0)) oe) v_of (show dNe (eS (oddW w)) (eS (oddW w)) = some (.bool false) by rw [dNe_eS]; simp))]
      exact b_of (bin_of (eFn_of (a1 v_of (a1 v_of a0)) oj) (lst_of a0 (by decide)) rfl)
    · refine ifN_f (D := sNext) ?_ ⟨_, rfl, ?_⟩
      · rw [bOr_ev, b_of (bin_of (bin_of (eFn_of (a1 v_of (a1 v_of a0)) qe) rfl rfl) rfl (z := .bool false) (by kernel_rfl))]
        show bOf _ _ = _
        have pw : eLC (iLst (eVar 8)) (tgN 13) (bOf (eBin dNe (eBin dIx (eVar 13) (eC (.int 0))) (eLst (aCons (eC (.int 0)) (aCons (eBin dSub (eVar 5) (eC (.int 1))) aNil))))) (eVar 13) [13] [.dat (scr ns), .dat (.int (i : Nat)), .own false γ4, .dat (.int (n : Nat)), .dat (eS ps), .dat (.int (w : Nat)), .dat (eL (pairsW w)), .dat (eL (ringW w)), .dat (eS (oddW w)), .dat (eS stay), .dat (eL rows), y11, y12, x13, x14, x15, x16, x17] = some (eS (pathW w)) := by
          refine eLC_map eP (fun p => decide (p.1 ≠ lastP w)) eP (oddW w) (iLst_of v_of) (fun p _ => ⟨_, rfl, ?_, fun _ => v_of⟩)
          refine (b_of (bin_of (d := eI p.1) (e := eI (lastP w)) (bin_of v_of rfl rfl) (lst_of (a1 rfl (a1 (bin_of v_of rfl rfl) a0)) (show 2 ≤ lim by decide)) (dNe_eI _ _))).trans ?_
          simp
        exact b_of (bin_of (eCall_of (a1 (eFn_of (a1 v_of (a1 pw a0)) pe) a0) (by rw [dLen_list, List.length_map, pl])) rfl (by rw [dNe_int]; rfl))
      · exact ⟨_, _, _, _, _, _, _, _, _, _, _, _, _, _, _, _, _, rfl⟩
end K84
end
open PySem PySem.W PyProof.Rows
set_option maxRecDepth 100000 in
set_option maxHeartbeats 8000000 in
theorem PySem.Challenge.cw_lotstell_k84_whole_parts_evened_by_trees_holds : PySem.Challenge.rw_lotstell_k84_whole_parts_evened_by_trees.Holds :=
  K84.holds K84.plain
