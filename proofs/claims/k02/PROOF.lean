import PyProof.Rows.All
import HandS.ForSpec
import HandS.ForMost
import HandS.Gcd
import HandS.Rev
import HandS.TupAny
import HandS.TupMul
import HandS.IsInst
import HandS.Wide
import HandS.Flow
import HandS.Deep
import KE.KMathGC
import KE.GoesMore
import KE.GoesEnum
import KE.KRevSl
import PySem.Challenge.RW_gapsproved_k02_whole_polynomials_of_move
section
set_option Elab.async false
set_option linter.all false
set_option maxRecDepth 100000
set_option maxHeartbeats 4000000
/-! PDa: judgements over an environment of pure data. -/
namespace PD
open PySem PySem.Spec PyProof.Rows L2
abbrev Dat := PyData
abbrev Frag := PySem.W.Frag

/-! ### data as it stands in tracked lists and tuples -/
mutual
inductive Dv (H : Hp) : V → Dat → Prop
  | non : Dv H .non .none
  | bl (b : Bool) : Dv H (.bl b) (.bool b)
  | int (i : Int) : Dv H (.int i) (.int i)
  | str (x : Str) : Dv H (.str x) (.str x)
  | lst {a : Addr} {xs : List V} {ds : List Dat} : H a = some (.lst xs) → Ds H xs ds → Dv H (.ref a) (.list ds)
  | tup {a : Addr} {xs : List V} {ds : List Dat} : H a = some (.tup xs) → Ds H xs ds → Dv H (.ref a) (.tuple ds)
inductive Ds (H : Hp) : List V → List Dat → Prop
  | nil : Ds H [] []
  | cons {v : V} {vs : List V} {d : Dat} {ds : List Dat} : Dv H v d → Ds H vs ds → Ds H (v :: vs) (d :: ds)
end
mutual
theorem dmono {H H' : Hp} (e : Same H H') : ∀ {d : Dat} {v : V}, Dv H v d → Dv H' v d
  | .none, _, h => by cases h; exact .non
  | .bool b, _, h => by cases h; exact .bl b
  | .int i, _, h => by cases h; exact .int i
  | .str x, _, h => by cases h; exact .str x
  | .list ds, _, h => by
    cases h with
    | lst hs ha => exact .lst (e _ _ hs) (dmonoA e ha)
  | .tuple ds, _, h => by
    cases h with
    | tup hs ha => exact .tup (e _ _ hs) (dmonoA e ha)
  | .dict _, _, h => by cases h
theorem dmonoA {H H' : Hp} (e : Same H H') : ∀ {ds : List Dat} {vs : List V}, Ds H vs ds → Ds H' vs ds
  | [], _, h => by cases h; exact .nil
  | d :: ds, _, h => by
    cases h with
    | cons h1 h2 => exact .cons (dmono e h1) (dmonoA e h2)
end
mutual
theorem dv_dp {K : Frag} {H : Hp} : ∀ {d : Dat} {v : V}, Dv H v d → Dp K H v d
  | .none, _, h => by cases h; exact .non
  | .bool b, _, h => by cases h; exact .bl b
  | .int i, _, h => by cases h; exact .int i
  | .str x, _, h => by cases h; exact .str x
  | .list ds, _, h => by
    cases h with
    | lst hs ha => exact .lst (.inl (.inl hs)) (ds_dp ha)
  | .tuple ds, _, h => by
    cases h with
    | tup hs ha => exact .tup (.inl (.inl hs)) (ds_dp ha)
  | .dict _, _, h => by cases h
theorem ds_dp {K : Frag} {H : Hp} : ∀ {ds : List Dat} {vs : List V}, Ds H vs ds → DpAll K H vs ds
  | [], _, h => by cases h; exact .nil
  | d :: ds, _, h => by
    cases h with
    | cons h1 h2 => exact .cons (dv_dp h1) (ds_dp h2)
end
theorem dlen {H : Hp} : ∀ {vs : List V} {ds : List Dat}, Ds H vs ds → vs.length = ds.length
  | _, _, .nil => rfl
  | _, _, .cons _ t => by simp only [List.length_cons]; rw [dlen t]
theorem dget {H : Hp} : ∀ {vs : List V} {ds : List Dat}, Ds H vs ds → ∀ {i : Nat} {d : Dat}, ds[i]? = some d → ∃ v, vs[i]? = some v ∧ Dv H v d
  | _, _, .nil, _, _, h => by simp at h
  | _, _, .cons r t, 0, d, h => by
    simp at h; subst h
    exact ⟨_, rfl, r⟩
  | _, _, .cons r t, i + 1, d, h => by
    simp at h
    obtain ⟨v, h1, h2⟩ := dget t h
    exact ⟨v, by simpa using h1, h2⟩
theorem dgetV {H : Hp} : ∀ {vs : List V} {ds : List Dat}, Ds H vs ds → ∀ {i : Nat} {v : V}, vs[i]? = some v → ∃ d, ds[i]? = some d ∧ Dv H v d
  | _, _, .nil, _, _, h => by simp at h
  | _, _, .cons r t, 0, d, h => by
    simp at h; subst h
    exact ⟨_, rfl, r⟩
  | _, _, .cons r t, i + 1, d, h => by
    simp at h
    obtain ⟨v, h1, h2⟩ := dgetV t h
    exact ⟨v, by simpa using h1, h2⟩
theorem dapp {H : Hp} : ∀ {vs ws : List V} {ds es : List Dat}, Ds H vs ds → Ds H ws es → Ds H (vs ++ ws) (ds ++ es)
  | _, _, _, _, .nil, s => s
  | _, _, _, _, .cons r t, s => .cons r (dapp t s)
theorem dtake {H : Hp} : ∀ {vs : List V} {ds : List Dat} (n : Nat), Ds H vs ds → Ds H (vs.take n) (ds.take n)
  | _, _, 0, _ => .nil
  | _, _, _ + 1, .nil => .nil
  | _, _, n + 1, .cons r t => .cons r (dtake n t)
theorem ddrop {H : Hp} : ∀ {vs : List V} {ds : List Dat} (n : Nat), Ds H vs ds → Ds H (vs.drop n) (ds.drop n)
  | _, _, 0, h => h
  | _, _, _ + 1, .nil => .nil
  | _, _, n + 1, .cons _ t => ddrop n t
theorem dset {H : Hp} {v : V} {d : Dat} (hv : Dv H v d) : ∀ {vs : List V} {ds : List Dat} (j : Nat), Ds H vs ds → Ds H (vs.set j v) (ds.set j d)
  | _, _, _, .nil => .nil
  | _, _, 0, .cons _ t => .cons hv t
  | _, _, j + 1, .cons r t => .cons r (dset hv j t)
theorem drev {H : Hp} : ∀ {vs : List V} {ds : List Dat}, Ds H vs ds → Ds H vs.reverse ds.reverse
  | _, _, .nil => .nil
  | _, _, .cons r t => by
    simp only [List.reverse_cons]
    exact dapp (drev t) (.cons r .nil)
theorem drep {H : Hp} {vs : List V} {ds : List Dat} (h : Ds H vs ds) : ∀ k : Nat, Ds H (List.replicate k vs).flatten (List.replicate k ds).flatten
  | 0 => .nil
  | k + 1 => by
    simp only [List.replicate_succ, List.flatten_cons]
    exact dapp h (drep h k)
theorem dints {H : Hp} : ∀ {ns : List Int} {vs : List V}, Ds H vs (ns.map PyData.int) → vs = ns.map V.int
  | [], _, h => by cases h; rfl
  | n :: ns, _, h => by
    cases h with
    | cons h1 h2 =>
      cases h1
      rw [dints h2]
      rfl
theorem intsd {H : Hp} : ∀ (ns : List Int), Ds H (ns.map V.int) (ns.map PyData.int)
  | [] => .nil
  | n :: ns => .cons (.int n) (intsd ns)

/-! ### the pool -/
structure Pool (F H : Hp) (a : Addr) : Prop where
  fa : F a = none
  at_ : ∃ (c : Addr) (cells : List Int) (i d m : Int), H a = some (.lst [.ref c, .int i, .int d, .int m]) ∧ F c = some (.lst (cells.map V.int)) ∧ (∀ x ∈ cells, 0 ≤ x) ∧ 0 ≤ i ∧ 0 ≤ d ∧ 0 ≤ m ∧ m < 2147483647
def PoolOk (po : Option Addr) (F H : Hp) : Prop := ∀ a, po = some a → Pool F H a
theorem PoolOk.none {F H : Hp} : PoolOk .none F H := fun _ h => by cases h

/-! ### F: what stands for good; H: all. An advance -/
structure Adv (po : Option Addr) (F H F' H' : Hp) : Prop where
  keep : ∀ b o, po ≠ some b → H b = some o → H' b = some o
  frz : Same F F'
  sub : Same F' H'
  new : ∀ b, F b = none → H b ≠ none → F' b = none
  pool : PoolOk po F' H'
theorem Adv.refl {po : Option Addr} {F H : Hp} (s : Same F H) (p : PoolOk po F H) : Adv po F H F H :=
  ⟨fun _ _ _ h => h, Same.refl F, s, fun _ h _ => h, p⟩
theorem ne_none_of {H : Hp} {b : Addr} {o : HO} (h : H b = some o) : H b ≠ none := by rw [h]; exact fun z => nomatch z
theorem Adv.trans {po : Option Addr} {F H F1 H1 F2 H2 : Hp} (a : Adv po F H F1 H1) (b : Adv po F1 H1 F2 H2) : Adv po F H F2 H2 where
  keep := fun c o n h => b.keep c o n (a.keep c o n h)
  frz := a.frz.trans b.frz
  sub := b.sub
  new := fun c h1 h2 => b.new c (a.new c h1 h2) (by
    by_cases n : po = some c
    · obtain ⟨_, d, cs, i, e, m, h, _⟩ := a.pool c n
      exact ne_none_of h
    · cases q : H c with
      | none => exact absurd q h2
      | some o => exact ne_none_of (a.keep c o n q))
  pool := b.pool
theorem Adv.up {po : Option Addr} {F H F' H' : Hp} (a : Adv .none F H F' H') (p : PoolOk po F H) : Adv po F H F' H' where
  keep := fun b o _ h => a.keep b o (fun z => by cases z) h
  frz := a.frz
  sub := a.sub
  new := a.new
  pool := fun b hb => by
    obtain ⟨f, c, cs, i, d, m, h, hc, r⟩ := p b hb
    exact ⟨a.new b f (ne_none_of h), c, cs, i, d, m, a.keep b _ (fun z => by cases z) h, a.frz _ _ hc, r⟩
/-- a new object that stands for good -/
theorem Adv.newF {F H : Hp} {p : Addr} {o : HO} (s : Same F H) (n : H p = none) : Adv .none F H (upd F p o) (upd H p o) where
  keep := fun b u _ h => by rw [upd_ne (ne_of_none h n)]; exact h
  frz := fun b u h => by rw [upd_ne (ne_of_none (s _ _ h) n)]; exact h
  sub := fun b u h => by
    by_cases e : b = p
    · subst e; rw [upd_same] at h ⊢; exact h
    · rw [upd_ne e] at h ⊢; exact s _ _ h
  new := fun b h1 h2 => by
    by_cases e : b = p
    · subst e; exact absurd n h2
    · rw [upd_ne e]; exact h1
  pool := .none
/-- a new object that does not stand for good -/
theorem Adv.newO {F H : Hp} {p : Addr} {o : HO} (s : Same F H) (n : H p = none) : Adv .none F H F (upd H p o) where
  keep := fun b u _ h => by rw [upd_ne (ne_of_none h n)]; exact h
  frz := Same.refl F
  sub := fun b u h => by rw [upd_ne (ne_of_none (s _ _ h) n)]; exact s _ _ h
  new := fun b h1 _ => h1
  pool := .none

/-! ### slots -/
inductive Sl where
  | x | d (v : Dat) | own (vs : List Dat) | pool
abbrev Env' := List Sl
def SlOk (po : Option Addr) (F H : Hp) : Option V → Sl → Prop
  | _, .x => True
  | some v, .d d => Dv F v d
  | some v, .own ds => ∃ a vs, v = .ref a ∧ F a = none ∧ po ≠ some a ∧ H a = some (.lst vs) ∧ Ds F vs ds
  | some v, .pool => ∃ a, v = .ref a ∧ po = some a
  | none, _ => False
structure Stt (po : Option Addr) (σ : L2.St) (F H : Hp) (ρ : Env') : Prop where
  len : σ.length = ρ.length
  sl : ∀ (i : Nat) (s : Sl), ρ[i]? = some s → ∃ o, σ[i]? = some o ∧ SlOk po F H o s
  sep : ∀ (i j : Nat) (a : Addr) (ds es : List Dat), ρ[i]? = some (.own ds) → ρ[j]? = some (.own es) → σ[i]? = some (some (.ref a)) → σ[j]? = some (some (.ref a)) → i = j
  sub : Same F H
  pool : PoolOk po F H
theorem SlOk.adv {po : Option Addr} {F H F' H' : Hp} (a : Adv po F H F' H') {o : Option V} {s : Sl} (h : SlOk po F H o s) : SlOk po F' H' o s := by
  cases s with
  | x => cases o <;> exact trivial
  | d d =>
    cases o with
    | none => exact h.elim
    | some v => exact dmono a.frz h
  | own ds =>
    cases o with
    | none => exact h.elim
    | some v =>
      obtain ⟨b, vs, rfl, f, n, e, r⟩ := h
      exact ⟨b, vs, rfl, a.new b f (ne_none_of e), n, a.keep b _ n e, dmonoA a.frz r⟩
  | pool =>
    cases o with
    | none => exact h.elim
    | some v => exact h
theorem Stt.adv {po : Option Addr} {σ : L2.St} {F H F' H' : Hp} {ρ : Env'} (S : Stt po σ F H ρ) (a : Adv po F H F' H') : Stt po σ F' H' ρ :=
  ⟨S.len, fun i s h => let ⟨o, e, q⟩ := S.sl i s h; ⟨o, e, q.adv a⟩, S.sep, a.sub, a.pool⟩
theorem Stt.dat {po : Option Addr} {σ : L2.St} {F H : Hp} {ρ : Env'} (S : Stt po σ F H ρ) {i : Nat} {d : Dat} (h : ρ[i]? = some (.d d)) : ∃ v, σ[i]? = some (some v) ∧ Dv F v d := by
  obtain ⟨o, e, q⟩ := S.sl i _ h
  cases o with
  | none => exact q.elim
  | some v => exact ⟨v, e, q⟩
theorem Stt.owned {po : Option Addr} {σ : L2.St} {F H : Hp} {ρ : Env'} (S : Stt po σ F H ρ) {i : Nat} {ds : List Dat} (h : ρ[i]? = some (.own ds)) :
    ∃ a vs, σ[i]? = some (some (.ref a)) ∧ F a = none ∧ po ≠ some a ∧ H a = some (.lst vs) ∧ Ds F vs ds := by
  obtain ⟨o, e, q⟩ := S.sl i _ h
  cases o with
  | none => exact q.elim
  | some v =>
    obtain ⟨a, vs, rfl, r⟩ := q
    exact ⟨a, vs, e, r⟩
/-- a slot is set to data -/
theorem Stt.set {po : Option Addr} {σ : L2.St} {F H : Hp} {ρ : Env'} (S : Stt po σ F H ρ) {i : Nat} {v : V} {d : Dat} (hv : Dv F v d) : Stt po (σ.set i (some v)) F H (ρ.set i (.d d)) where
  len := by simp [S.len]
  sl := fun j s h => by
    by_cases e : i = j
    · subst e
      by_cases l : i < ρ.length
      · rw [List.getElem?_set_self l] at h; cases h
        exact ⟨some v, List.getElem?_set_self (by rw [S.len]; exact l), hv⟩
      · rw [List.getElem?_eq_none (by simp; omega)] at h; cases h
    · rw [List.getElem?_set_ne e] at h ⊢
      exact S.sl j s h
  sep := fun j k a ds es h1 h2 h3 h4 => by
    have n : ∀ {m : Nat} {ds : List Dat}, (ρ.set i (.d d))[m]? = some (.own ds) → i ≠ m ∧ ρ[m]? = some (.own ds) := fun {m ds} h => by
      by_cases e : i = m
      · subst e
        by_cases l : i < ρ.length
        · rw [List.getElem?_set_self l] at h; cases h
        · rw [List.getElem?_eq_none (by simp; omega)] at h; cases h
      · rw [List.getElem?_set_ne e] at h
        exact ⟨e, h⟩
    obtain ⟨e1, q1⟩ := n h1
    obtain ⟨e2, q2⟩ := n h2
    rw [List.getElem?_set_ne e1] at h3
    rw [List.getElem?_set_ne e2] at h4
    exact S.sep j k a ds es q1 q2 h3 h4
  sub := S.sub
  pool := S.pool
/-- slots forgotten -/
def Le (ρ ρ' : Env') : Prop := ρ.length = ρ'.length ∧ ∀ (i : Nat) (s : Sl), ρ'[i]? = some s → s = .x ∨ ρ[i]? = some s
theorem Stt.le {po : Option Addr} {σ : L2.St} {F H : Hp} {ρ ρ' : Env'} (S : Stt po σ F H ρ) (h : Le ρ ρ') : Stt po σ F H ρ' where
  len := S.len.trans h.1
  sl := fun i s q => by
    rcases h.2 i s q with rfl | q'
    · have hi : i < σ.length := by rw [S.len, h.1]; exact (List.getElem?_eq_some_iff.mp q).1
      refine ⟨σ[i], List.getElem?_eq_getElem hi, ?_⟩
      cases σ[i] <;> exact trivial
    · exact S.sl i s q'
  sep := fun i j a ds es h1 h2 h3 h4 => by
    rcases h.2 i _ h1 with z | q1
    · cases z
    · rcases h.2 j _ h2 with z | q2
      · cases z
      · exact S.sep i j a ds es q1 q2 h3 h4
  sub := S.sub
  pool := S.pool
theorem Le.nil : Le [] [] := ⟨rfl, fun i s h => by simp at h⟩
theorem Le.x {a : Sl} {ρ ρ' : Env'} (h : Le ρ ρ') : Le (a :: ρ) (.x :: ρ') := ⟨by simp [h.1], fun i s q => by
  cases i with
  | zero => simp at q; exact .inl q.symm
  | succ i => exact h.2 i s (by simpa using q)⟩
theorem Le.c {a b : Sl} {ρ ρ' : Env'} (e : a = b) (h : Le ρ ρ') : Le (a :: ρ) (b :: ρ') := ⟨by simp [h.1], fun i s q => by
  cases i with
  | zero => simp at q; subst e; exact .inr (by simp [q])
  | succ i => exact h.2 i s (by simpa using q)⟩
theorem Le.refl (ρ : Env') : Le ρ ρ := ⟨rfl, fun _ _ h => .inr h⟩
theorem Le.trans {ρ ρ' ρ2 : Env'} (a : Le ρ ρ') (b : Le ρ' ρ2) : Le ρ ρ2 := ⟨a.1.trans b.1, fun i s h => by
  rcases b.2 i s h with e | q
  · exact .inl e
  · exact a.2 i s q⟩

/-! ### judgements -/
def JE (X : Cx) (po : Option Addr) (e : Expr) (ρ : Env') (Φ : Dat → Prop) : Prop :=
  ∀ (pins : List (Addr × Obj)) (s : Shared) (σ : L2.St) (F H : Hp) (Q : VK), Inv X pins σ H s → Stt po σ F H ρ →
    (∀ v F' H' d, Φ d → Adv po F H F' H' → Dv F' v d → Q v H') → wpAny (model X.prog X.w) X.A (eval e X.env) (EP X pins σ Q) X.xe s
def JT (X : Cx) (po : Option Addr) (e : Expr) (ρ : Env') (Φ : Bool → Prop) : Prop :=
  ∀ (pins : List (Addr × Obj)) (s : Shared) (σ : L2.St) (F H : Hp) (Q : Bool → Hp → Prop), Inv X pins σ H s → Stt po σ F H ρ →
    (∀ b F' H', Φ b → Adv po F H F' H' → Q b H') → wpAny (model X.prog X.w) X.A (isTrue e X.env (eval e X.env)) (TP X pins σ Q) X.xe s
def JA (X : Cx) (po : Option Addr) (es : List Expr) (ρ : Env') (Φ : List Dat → Prop) : Prop :=
  ∀ (pos : Pos) (pins : List (Addr × Obj)) (s : Shared) (σ : L2.St) (F H : Hp) (Q : List V → Hp → Prop), Inv X pins σ H s → Stt po σ F H ρ →
    (∀ vs F' H' ds, Φ ds → Adv po F H F' H' → Ds F' vs ds → Q vs H') → wpAny (model X.prog X.w) X.A (spliced (backTo pos (starEach es X.env))) (AP X pins σ Q) X.xe s
structure Post where
  nx : Env' → Prop
  rt : Dat → Prop
  bk : Env' → Prop := fun _ => False
  ct : Env' → Prop := fun _ => False
/-- the state of a statement: entry heaps F0, H0 -/
structure SS (po : Option Addr) (F0 H0 : Hp) (σ : L2.St) (F H : Hp) (ρ : Env') : Prop where
  st : Stt po σ F H ρ
  adv : Adv po F0 H0 F H
  own : ∀ (i : Nat) (ds : List Dat) (a : Addr), ρ[i]? = some (.own ds) → σ[i]? = some (some (.ref a)) → H0 a = none
/-- what is wanted behind: linked -/
structure Lk (po : Option Addr) (F0 H0 : Hp) (P : Post) (D : Ends) : Prop where
  nx : ∀ σ F H ρ, P.nx ρ → SS po F0 H0 σ F H ρ → D.nx σ H
  rt : ∀ v F H d, P.rt d → Adv po F0 H0 F H → Dv F v d → D.rt v H
  bk : ∀ σ F H ρ, P.bk ρ → SS po F0 H0 σ F H ρ → D.bk σ H
  ct : ∀ σ F H ρ, P.ct ρ → SS po F0 H0 σ F H ρ → D.ct σ H
def JS (X : Cx) (po : Option Addr) (st : Stmt) (ρ : Env') (P : Post) : Prop :=
  ∀ (pins : List (Addr × Obj)) (s : Shared) (σ : L2.St) (F0 H0 F H : Hp) (D : Ends), Inv X pins σ H s → SS po F0 H0 σ F H ρ → Lk po F0 H0 P D →
    wpAny (model X.prog X.w) X.A (exec st X.env) (SP X pins D) X.xe s
def JSs (X : Cx) (po : Option Addr) (sts : List Stmt) (ρ : Env') (P : Post) : Prop :=
  ∀ (pins : List (Addr × Obj)) (s : Shared) (σ : L2.St) (F0 H0 F H : Hp) (D : Ends), Inv X pins σ H s → SS po F0 H0 σ F H ρ → Lk po F0 H0 P D →
    wpAny (model X.prog X.w) X.A (execs sts X.env) (SP X pins D) X.xe s
theorem SS.advd {po : Option Addr} {F0 H0 : Hp} {σ : L2.St} {F H F' H' : Hp} {ρ : Env'} (S : SS po F0 H0 σ F H ρ) (a : Adv po F H F' H') : SS po F0 H0 σ F' H' ρ :=
  ⟨S.st.adv a, S.adv.trans a, S.own⟩
theorem SS.le {po : Option Addr} {F0 H0 : Hp} {σ : L2.St} {F H : Hp} {ρ ρ' : Env'} (S : SS po F0 H0 σ F H ρ) (h : Le ρ ρ') : SS po F0 H0 σ F H ρ' :=
  ⟨S.st.le h, S.adv, fun i ds a q r => by
    rcases h.2 i _ q with z | q'
    · cases z
    · exact S.own i ds a q' r⟩

/-! canonical readings -/
section
variable {X : Cx} {po : Option Addr} {e : Expr} {es : List Expr} {ρ : Env'} {Φ : Dat → Prop}
def tJ (X : Cx) (po : Option Addr) (e : Expr) : TE := fun σ H Q => ∃ F ρ Φ, JE X po e ρ Φ ∧ Stt po σ F H ρ ∧ ∀ v F' H' d, Φ d → Adv po F H F' H' → Dv F' v d → Q v H'
theorem pe_J : PE X e (tJ X po e) := ⟨fun pins s σ H Q I ⟨F, ρ, Φ, j, S, k⟩ => j pins s σ F H Q I S k⟩
def ttJ (X : Cx) (po : Option Addr) (e : Expr) : TT := fun σ H Q => ∃ F ρ Φ, JT X po e ρ Φ ∧ Stt po σ F H ρ ∧ ∀ b F' H', Φ b → Adv po F H F' H' → Q b H'
theorem pt_J : PT X e (ttJ X po e) := ⟨fun pins s σ H Q I ⟨F, ρ, Φ, j, S, k⟩ => j pins s σ F H Q I S k⟩
def taJ (X : Cx) (po : Option Addr) (es : List Expr) : TA := fun σ H Q => ∃ F ρ Φ, JA X po es ρ Φ ∧ Stt po σ F H ρ ∧ ∀ vs F' H' ds, Φ ds → Adv po F H F' H' → Ds F' vs ds → Q vs H'
theorem pa_J : PA X es (taJ X po es) := ⟨fun pos pins s σ H Q I ⟨F, ρ, Φ, j, S, k⟩ => j pos pins s σ F H Q I S k⟩
def tsJ (X : Cx) (po : Option Addr) (sts : List Stmt) : TS := fun D σ H => ∃ F0 H0 F ρ P, JSs X po sts ρ P ∧ SS po F0 H0 σ F H ρ ∧ Lk po F0 H0 P D
theorem pss_J {sts : List Stmt} : PSs X sts (tsJ X po sts) := ⟨fun pins s σ H D I ⟨F0, H0, F, ρ, P, j, S, k⟩ => j pins s σ F0 H0 F H D I S k⟩
theorem JE.of {t : TE} (h : PE X e t) (hw : ∀ σ F H (Q : VK), Stt po σ F H ρ → (∀ v F' H' d, Φ d → Adv po F H F' H' → Dv F' v d → Q v H') → t σ H Q) : JE X po e ρ Φ :=
  fun pins s σ F H Q I S k => h.run pins s σ H Q I (hw σ F H Q S k)
theorem JT.of {t : TT} {Ψ : Bool → Prop} (h : PT X e t) (hw : ∀ σ F H (Q : Bool → Hp → Prop), Stt po σ F H ρ → (∀ b F' H', Ψ b → Adv po F H F' H' → Q b H') → t σ H Q) : JT X po e ρ Ψ :=
  fun pins s σ F H Q I S k => h.run pins s σ H Q I (hw σ F H Q S k)
theorem JS.of {st : Stmt} {t : TS} {P : Post} (h : PS X st t) (hw : ∀ σ F0 H0 F H (D : Ends), SS po F0 H0 σ F H ρ → Lk po F0 H0 P D → t D σ H) : JS X po st ρ P :=
  fun pins s σ F0 H0 F H D I S k => h.run pins s σ H D I (hw σ F0 H0 F H D S k)
theorem JE.mono {Φ' : Dat → Prop} (h : JE X po e ρ Φ) (k : ∀ d, Φ d → Φ' d) : JE X po e ρ Φ' :=
  fun pins s σ F H Q I S q => h pins s σ F H Q I S fun v F' H' d p => q v F' H' d (k d p)
theorem JT.mono {Φ Φ' : Bool → Prop} (h : JT X po e ρ Φ) (k : ∀ d, Φ d → Φ' d) : JT X po e ρ Φ' :=
  fun pins s σ F H Q I S q => h pins s σ F H Q I S fun v F' H' p => q v F' H' (k v p)
end
end PD
end

section
set_option Elab.async false
set_option linter.all false
set_option maxRecDepth 100000
set_option maxHeartbeats 4000000
/-! PDb: expressions. -/
namespace PD
open PySem PySem.Spec PyProof.Rows L2

theorem unT {A B : Prop} (h : if true = true then A else B) : A := by rw [if_pos rfl] at h; exact h
theorem unF {A B : Prop} (h : if false = true then A else B) : B := by rw [if_neg Bool.false_ne_true] at h; exact h
section
variable {X : Cx} {po : Option Addr} {a b c e : Expr} {es : List Expr} {ρ : Env'} {Φ : Dat → Prop} {pos : Pos}

/-! ### constants, names -/
theorem JE.int {i : Int} {j pos} (k : Φ (.int i)) : JE X po (.Constant (.int i) j pos) ρ Φ := .of pe_int fun σ F H Q S q => q _ F H _ k (.refl S.sub S.pool) (.int i)
theorem JE.bl {i : Bool} {j pos} (k : Φ (.bool i)) : JE X po (.Constant (.bool i) j pos) ρ Φ := .of pe_bl fun σ F H Q S q => q _ F H _ k (.refl S.sub S.pool) (.bl i)
theorem JE.non {j pos} (k : Φ .none) : JE X po (.Constant .none j pos) ρ Φ := .of pe_non fun σ F H Q S q => q _ F H _ k (.refl S.sub S.pool) .non
theorem JE.str {x : Str} {j pos} (k : Φ (.str x)) : JE X po (.Constant (.str x) j pos) ρ Φ := .of pe_str fun σ F H Q S q => q _ F H _ k (.refl S.sub S.pool) (.str x)
theorem JE.var (i : Nat) {d : Dat} {x : Str} {pos : Pos} (h : ρ[i]? = some (.d d)) (k : Φ d) (hN : X.N[i]? = some x := by rfl) (hv : Vis X.env.scope x := by first | exact Or.inl rfl | exact Or.inr (Or.inl rfl) | exact Or.inr (Or.inr rfl)) (hd : (x == ("__debug__" : Str)) = false := by decide)
    (hcd : (x == ("__classdict__" : Str)) = false := by decide) : JE X po (.Name x pos) ρ Φ :=
  .of (pe_var hN hv hd hcd) fun σ F H Q S q => let ⟨v, e, r⟩ := S.dat h; ⟨v, e, q v F H d k (.refl S.sub S.pool) r⟩

/-! ### operators by data -/
def rJ (X : Cx) (f : Value → Value → Sem Value) : R2 := fun v u H Q => ∃ r, OpR X f r ∧ r v u H Q
theorem opr_J {f : Value → Value → Sem Value} : OpR X f (rJ X f) := fun pins s σ H x y v u Q I rx ry ⟨_, hr, h⟩ => hr pins s σ H x y v u Q I rx ry h
/-- the operation on data of the values x, y gives what Φ says -/
def OpD (X : Cx) (po : Option Addr) (f : Value → Value → Sem Value) (x y : Dat) (Φ : Dat → Prop) : Prop :=
  ∀ (v u : V) (F H : Hp) (Q : VK), Same F H → PoolOk po F H → Dv F v x → Dv F u y → (∀ w F' H' d, Φ d → Adv po F H F' H' → Dv F' w d → Q w H') → rJ X f v u H Q
theorem JE.bin {op : Operator} (h : JE X po a ρ fun x => JE X po b ρ fun y => OpD X po (binaryOp op) x y Φ) : JE X po (.BinOp a op b pos) ρ Φ := by
  refine .of (pe_op opr_J pe_J pe_J) fun σ F H Q S q => ⟨F, ρ, _, h, S, fun v F1 H1 x j1 A1 d1 => ⟨F1, ρ, _, j1, S.adv A1, fun u F2 H2 y j2 A2 d2 => ?_⟩⟩
  exact j2 v u F2 H2 Q A2.sub A2.pool (dmono A2.frz d1) d2 fun w F' H' d k A3 r => q w F' H' d k (A1.trans (A2.trans A3)) r
theorem OpD.of {f : Value → Value → Sem Value} {r : R2} {x y : Dat} (h : OpR X f r)
    (hw : ∀ (v u : V) (F H : Hp) (Q : VK), Same F H → PoolOk po F H → Dv F v x → Dv F u y → (∀ w F' H' d, Φ d → Adv po F H F' H' → Dv F' w d → Q w H') → r v u H Q) : OpD X po f x y Φ :=
  fun v u F H Q s p d1 d2 q => ⟨r, h, hw v u F H Q s p d1 d2 q⟩
theorem dp_int {H : Hp} {v : V} {i : Int} (h : Dv H v (.int i)) : v = .int i := by cases h; rfl
theorem dp_bl {H : Hp} {v : V} {i : Bool} (h : Dv H v (.bool i)) : v = .bl i := by cases h; rfl
theorem OpD.int {f : Value → Value → Sem Value} {C : Int → Int → Prop} {g : Int → Int → Int} {i j : Int} (h : OpR X f (rI C fun i j => .int (g i j))) (hc : C i j) (k : Φ (.int (g i j))) : OpD X po f (.int i) (.int j) Φ :=
  .of h fun v u F H Q s p d1 d2 q => ⟨i, j, dp_int d1, dp_int d2, hc, q _ F H _ k (.refl s p) (.int _)⟩
theorem OpD.int0 {f : Value → Value → Sem Value} {g : Int → Int → Int} {i j : Int} (h : OpR X f (rI0 fun i j => .int (g i j))) (k : Φ (.int (g i j))) : OpD X po f (.int i) (.int j) Φ :=
  .of h fun v u F H Q s p d1 d2 q => ⟨i, j, dp_int d1, dp_int d2, q _ F H _ k (.refl s p) (.int _)⟩
theorem OpD.intB {f : Value → Value → Sem Value} {g : Int → Int → Bool} {i j : Int} (h : OpR X f (rI0 fun i j => .bl (g i j))) (k : Φ (.bool (g i j))) : OpD X po f (.int i) (.int j) Φ :=
  .of h fun v u F H Q s p d1 d2 q => ⟨i, j, dp_int d1, dp_int d2, q _ F H _ k (.refl s p) (.bl _)⟩
theorem OpD.add {i j : Int} (k : Φ (.int (i + j))) : OpD X po (binaryOp .Add) (.int i) (.int j) Φ := .int0 op_add k
theorem OpD.sub {i j : Int} (k : Φ (.int (i - j))) : OpD X po (binaryOp .Sub) (.int i) (.int j) Φ := .int0 op_sub k
theorem op_mulO : OpR X (binaryOp .Mult) (rI IntMulOk fun i j => .int (i * j)) := opI fun _ _ _ _ _ _ _ hc q => mul_int q hc
theorem OpD.mul {i j : Int} (hc : IntMulOk i j) (k : Φ (.int (i * j))) : OpD X po (binaryOp .Mult) (.int i) (.int j) Φ := .int op_mulO hc k
theorem OpD.mod {i j : Int} (hc : 0 < j) (k : Φ (.int (i % j))) : OpD X po (binaryOp .Mod) (.int i) (.int j) Φ := .int op_mod hc k
theorem OpD.pow {i j : Int} (hc : CPow i j) (k : Φ (.int (i ^ j.toNat))) : OpD X po (binaryOp .Pow) (.int i) (.int j) Φ := .int op_pow hc k

/-! // by a divisor of any size -/
/-- what a division by a great divisor asks of the place where one stands -/
structure SeerX (X : Cx) : Prop where
  depth : X.A.depth + Builtin.pylongFrames < recursionLimit
  tree : X.prog.given.tree = none
  seer : X.base.NoSeer
  top : ∃ env l, X.stack = env :: l ∧ env.scope.isGenerator = false ∧ env.scope.isCoroutine = false ∧ env.builtins = builtinsNs ∧ env.globals = mainGlobals
theorem op_fdivA (hs : SeerX X) : OpR X (binaryOp .FloorDiv) (rI (fun _ j => j ≠ 0) fun i j => .int (i.fdiv j)) := by
  intro pins s σ H x y v u Q I rx ry h
  obtain ⟨i, j, rfl, rfl, hc, q⟩ := h
  obtain ⟨t, rfl⟩ := rx
  obtain ⟨t', rfl⟩ := ry
  obtain ⟨env, l, e0, e1, e2, e3, e4⟩ := hs.top
  have sa : SeerAt (model X.prog X.w) X.A s.heap := SeerAt.of (hs.seer.keeps I.bk) hs.tree (by rw [I.ok.frames, e0]) e1 e2 e3 e4
  exact floordiv_int hc ⟨.int (i.fdiv j), H, I.tok _, ⟨_, rfl⟩, q⟩ (.inr (PylongRoom.of I.nolimit hs.depth sa))
theorem OpD.fdivN {i j : Int} (hs : SeerX X) (hc : j ≠ 0) (k : Φ (.int (i.fdiv j))) : OpD X po (binaryOp .FloorDiv) (.int i) (.int j) Φ := .int (op_fdivA hs) hc k
theorem OpD.fdiv {i j : Int} (hs : SeerX X) (hc : 0 < j) (k : Φ (.int (i / j))) : OpD X po (binaryOp .FloorDiv) (.int i) (.int j) Φ :=
  .fdivN hs (show j ≠ 0 by omega) (by rw [Int.fdiv_eq_ediv_of_nonneg i (by omega)]; exact k)

/-! lists and tuples -/
theorem dp_list {H : Hp} {v : V} {ds : List Dat} (h : Dv H v (.list ds)) : ∃ a xs, v = .ref a ∧ H a = some (.lst xs) ∧ Ds H xs ds := by
  cases h with
  | lst hs ha => exact ⟨_, _, rfl, hs, ha⟩
theorem dp_tup {H : Hp} {v : V} {ds : List Dat} (h : Dv H v (.tuple ds)) : ∃ a xs, v = .ref a ∧ H a = some (.tup xs) ∧ Ds H xs ds := by
  cases h with
  | tup hs ha => exact ⟨_, _, rfl, hs, ha⟩
theorem new_lst {F H : Hp} {p : Addr} {xs : List V} {ds : List Dat} (s : Same F H) (n : H p = none) (h : Ds F xs ds) : Dv (upd F p (.lst xs)) (.ref p) (.list ds) :=
  .lst upd_same (dmonoA (Adv.newF (o := .lst xs) s n).frz h)
theorem new_tup {F H : Hp} {p : Addr} {xs : List V} {ds : List Dat} (s : Same F H) (n : H p = none) (h : Ds F xs ds) : Dv (upd F p (.tup xs)) (.ref p) (.tuple ds) :=
  .tup upd_same (dmonoA (Adv.newF (o := .tup xs) s n).frz h)
theorem OpD.catL {xs ys : List Dat} (hz : xs.length + ys.length ≤ sizeLine) (k : Φ (.list (xs ++ ys))) : OpD X po (binaryOp .Add) (.list xs) (.list ys) Φ :=
  .of op_cat fun v u F H Q s p d1 d2 q => by
    obtain ⟨a, vs, rfl, h1, r1⟩ := dp_list d1
    obtain ⟨b, us, rfl, h2, r2⟩ := dp_list d2
    refine ⟨a, b, vs, us, rfl, rfl, s _ _ h1, s _ _ h2, by rw [dlen r1, dlen r2]; exact hz, fun l n => ?_⟩
    exact q _ _ _ _ k ((Adv.newF s n).up p) (new_lst s n (dapp r1 r2))
theorem OpD.catT {xs ys : List Dat} (hz : xs.length + ys.length ≤ sizeLine) (k : Φ (.tuple (xs ++ ys))) : OpD X po (binaryOp .Add) (.tuple xs) (.tuple ys) Φ :=
  .of op_catA fun v u F H Q s p d1 d2 q => by
    obtain ⟨a, vs, rfl, h1, r1⟩ := dp_tup d1
    obtain ⟨b, us, rfl, h2, r2⟩ := dp_tup d2
    refine ⟨a, b, vs, us, rfl, rfl, .inl (.inl (s _ _ h1)), .inl (.inl (s _ _ h2)), by rw [dlen r1, dlen r2]; exact hz, fun e => ?_, fun _ e => ?_, fun _ _ l n => ?_⟩
    · subst e; cases r1
      exact q _ _ _ _ k (.refl s p) d2
    · subst e; cases r2
      refine q _ _ _ _ k (.refl s p) ?_
      rw [List.append_nil]; exact d1
    · exact q _ _ _ _ k ((Adv.newF s n).up p) (new_tup s n (dapp r1 r2))
theorem OpD.repL {xs : List Dat} {n : Int} (h1 : -(2 ^ 63) ≤ n) (h2 : n < 2 ^ 63) (hz : xs.length * n.toNat ≤ sizeLine) (k : Φ (.list (List.replicate n.toNat xs).flatten)) : OpD X po (binaryOp .Mult) (.list xs) (.int n) Φ :=
  .of op_rep fun v u F H Q s p d1 d2 q => by
    obtain ⟨a, vs, rfl, e1, r1⟩ := dp_list d1
    refine ⟨a, n, vs, rfl, dp_int d2, s _ _ e1, h1, h2, by rw [dlen r1]; exact hz, fun l m => ?_⟩
    exact q _ _ _ _ k ((Adv.newF s m).up p) (new_lst s m (drep r1 _))

/-! comparisons -/
theorem OpD.lt {i j : Int} (k : Φ (.bool (decide (i < j)))) : OpD X po (compareOp .Lt) (.int i) (.int j) Φ := .intB op_lt k
theorem OpD.le {i j : Int} (k : Φ (.bool (decide (i ≤ j)))) : OpD X po (compareOp .LtE) (.int i) (.int j) Φ := .intB op_le k
theorem OpD.gt {i j : Int} (k : Φ (.bool (decide (j < i)))) : OpD X po (compareOp .Gt) (.int i) (.int j) Φ := .intB op_gt k
theorem OpD.ge {i j : Int} (k : Φ (.bool (decide (j ≤ i)))) : OpD X po (compareOp .GtE) (.int i) (.int j) Φ := .intB op_ge k
theorem OpD.eqI {i j : Int} (k : Φ (.bool (decide (i = j)))) : OpD X po (compareOp .Eq) (.int i) (.int j) Φ :=
  .of op_eq fun v u F H Q s p d1 d2 q => by
    rw [dp_int d1, dp_int d2]
    refine ⟨rfl, q _ F H _ k (.refl s p) ?_⟩
    have e : decide (V.int i = V.int j) = decide (i = j) := by simp
    rw [e]; exact .bl _
theorem OpD.neI {i j : Int} (k : Φ (.bool (!decide (i = j)))) : OpD X po (compareOp .NotEq) (.int i) (.int j) Φ :=
  .of op_ne fun v u F H Q s p d1 d2 q => by
    rw [dp_int d1, dp_int d2]
    refine ⟨rfl, q _ F H _ k (.refl s p) ?_⟩
    have e : decide (V.int i = V.int j) = decide (i = j) := by simp
    rw [e]; exact .bl _
theorem OpD.eqD {x y : Dat} (hu : X.A.units + 64 < cLine) (sx : SeqAt.shaped x = true) (sy : SeqAt.shaped y = true) (k : Φ (.bool (PyData.eqv x y))) : OpD X po (compareOp .Eq) x y Φ :=
  .of (op_eqD hu) fun v u F H Q s p d1 d2 q => ⟨x, y, dv_dp (dmono s d1), dv_dp (dmono s d2), sx, sy, q _ F H _ k (.refl s p) (.bl _)⟩
theorem OpD.neD {x y : Dat} (hu : X.A.units + 64 < cLine) (sx : SeqAt.shaped x = true) (sy : SeqAt.shaped y = true) (k : Φ (.bool (!PyData.eqv x y))) : OpD X po (compareOp .NotEq) x y Φ :=
  .of (op_neD hu) fun v u F H Q s p d1 d2 q => ⟨x, y, dv_dp (dmono s d1), dv_dp (dmono s d2), sx, sy, q _ F H _ k (.refl s p) (.bl _)⟩
theorem OpD.notInD {x : Dat} {ys : List Dat} (hu : X.A.units + 65 < cLine) (sx : SeqAt.shaped x = true) (sy : SeqAt.shaped (.list ys) = true) (k : Φ (.bool (!ys.any fun z => PyData.eqv z x))) : OpD X po (compareOp .NotIn) x (.list ys) Φ :=
  .of (op_notInD hu) fun v u F H Q s p d1 d2 q => ⟨x, ys, dv_dp (dmono s d1), dv_dp (dmono s d2), sx, sy, q _ F H _ k (.refl s p) (.bl _)⟩
def isNone : Dat → Bool
  | .none => true
  | _ => false
theorem dv_none {H : Hp} {v : V} {d : Dat} (h : Dv H v d) : decide (v = .non) = isNone d := by
  cases h <;> simp [isNone]
theorem OpD.isN {x : Dat} (k : Φ (.bool (isNone x))) : OpD X po (compareOp .Is) x .none Φ :=
  .of op_isN fun v u F H Q s p d1 d2 q => by
    cases d2
    exact ⟨rfl, by rw [dv_none d1]; exact q _ F H _ k (.refl s p) (.bl _)⟩
theorem OpD.notN {x : Dat} (k : Φ (.bool (!isNone x))) : OpD X po (compareOp .IsNot) x .none Φ :=
  .of op_notN fun v u F H Q s p d1 d2 q => by
    cases d2
    exact ⟨rfl, by rw [dv_none d1]; exact q _ F H _ k (.refl s p) (.bl _)⟩
theorem JE.cmp {op : CmpOp} (h : JE X po a ρ fun x => JE X po b ρ fun y => OpD X po (compareOp op) x y Φ) (hm : behindInMarks op b = false := by first | exact nomark _ | rfl) : JE X po (.Compare a [op] [b] pos) ρ Φ := by
  refine .of (pe_cmpR opr_J pe_J pe_J hm) fun σ F H Q S q => ⟨F, ρ, _, h, S, fun v F1 H1 x j1 A1 d1 => ⟨F1, ρ, _, j1, S.adv A1, fun u F2 H2 y j2 A2 d2 => ?_⟩⟩
  exact j2 v u F2 H2 Q A2.sub A2.pool (dmono A2.frz d1) d2 fun w F' H' d k A3 r => q w F' H' d k (A1.trans (A2.trans A3)) r
/-- what a bool datum does -/
def OnB (Ψ : Bool → Prop) (d : Dat) : Prop := ∃ b, d = .bool b ∧ Ψ b
theorem OnB.mk {Ψ : Bool → Prop} {b : Bool} (h : Ψ b) : OnB Ψ (.bool b) := ⟨b, rfl, h⟩
theorem JT.cmp {op : CmpOp} {Ψ : Bool → Prop} (h : JE X po a ρ fun x => JE X po b ρ fun y => OpD X po (compareOp op) x y (OnB Ψ)) (hm : behindInMarks op b = false := by first | exact nomark _ | rfl) : JT X po (.Compare a [op] [b] pos) ρ Ψ := by
  refine .of (pt_cmpR opr_J pe_J pe_J hm) fun σ F H Q S q => ⟨F, ρ, _, h, S, fun v F1 H1 x j1 A1 d1 => ⟨F1, ρ, _, j1, S.adv A1, fun u F2 H2 y j2 A2 d2 => ?_⟩⟩
  refine j2 v u F2 H2 _ A2.sub A2.pool (dmono A2.frz d1) d2 fun w F' H' d k A3 r => ?_
  obtain ⟨b, rfl, hb⟩ := k
  exact ⟨b, dp_bl r, q b F' H' hb (A1.trans (A2.trans A3))⟩

/-! and, or, not, if -/
variable {rest : List Expr} {Ψ : Bool → Prop}
theorem JT.val (h : JE X po e ρ (OnB Ψ)) (he : ∀ whole, isTrue e X.env whole = (do let v ← whole; standAt e.pos; holding [v] (truthy v)) := by intro _; rfl) : JT X po e ρ Ψ :=
  .of (pt_val pe_J he) fun σ F H Q S q => ⟨F, ρ, _, h, S, fun v F' H' d ⟨b, hb, k⟩ A r => by subst hb; exact ⟨b, dp_bl r, q b F' H' k A⟩⟩
def truD : Dat → Option Bool
  | .none => some false
  | .bool b => some b
  | .int i => some (i != 0)
  | .list xs => some (!xs.isEmpty)
  | .tuple xs => some (!xs.isEmpty)
  | _ => none
theorem tru_emp {H : Hp} {xs : List V} {ds : List Dat} (h : Ds H xs ds) : (!ds.isEmpty) = !xs.isEmpty := by cases h <;> rfl
theorem tru_of {K : Frag} {F H : Hp} {v : V} {d : Dat} {k : Bool} (s : Same F H) (h : Dv F v d) (t : truD d = some k) : TruV K v H k := by
  cases h with
  | non => exact (Option.some.inj t).symm
  | bl b => exact (Option.some.inj t).symm
  | int i => exact (Option.some.inj t).symm
  | str x => cases t
  | lst hs ha => exact .inl ⟨_, .inl (.inl (s _ _ hs)), (Option.some.inj t).symm.trans (tru_emp ha)⟩
  | tup hs ha => exact .inr (.inl ⟨_, .inl (.inl (s _ _ hs)), (Option.some.inj t).symm.trans (tru_emp ha)⟩)
theorem JT.tru (h : JE X po e ρ fun d => ∃ b, truD d = some b ∧ Ψ b) (he : ∀ whole, isTrue e X.env whole = (do let v ← whole; standAt e.pos; holding [v] (truthy v)) := by intro _; rfl) : JT X po e ρ Ψ :=
  .of (pt_truth pe_J he) fun σ F H Q S q => ⟨F, ρ, _, h, S, fun v F' H' d ⟨b, hb, k⟩ A r => ⟨b, tru_of A.sub r hb, q b F' H' k A⟩⟩
theorem JT.not (h : JT X po a ρ fun b => Ψ (!b)) : JT X po (.UnaryOp .Not a pos) ρ Ψ :=
  .of (pt_not pt_J) fun σ F H Q S q => ⟨F, ρ, _, h, S, fun b F' H' k A => q _ F' H' k A⟩
theorem ttJ_of {σ : L2.St} {F H : Hp} {Q : Bool → Hp → Prop} (h : JT X po a ρ Ψ) (S : Stt po σ F H ρ) (q : ∀ b F' H', Ψ b → Adv po F H F' H' → Q b H') : ttJ X po a σ H Q := ⟨F, ρ, Ψ, h, S, q⟩
theorem tJ_of {σ : L2.St} {F H : Hp} {Q : VK} (h : JE X po a ρ Φ) (S : Stt po σ F H ρ) (q : ∀ v F' H' d, Φ d → Adv po F H F' H' → Dv F' v d → Q v H') : tJ X po a σ H Q := ⟨F, ρ, Φ, h, S, q⟩
theorem JT.and1 (h : JT X po a ρ Ψ) : JT X po (.BoolOp .And [a] pos) ρ Ψ := .of (pw_and1 pt_J).pt fun σ F H Q S q => ttJ_of h S q
theorem JT.or1 (h : JT X po a ρ Ψ) : JT X po (.BoolOp .Or [a] pos) ρ Ψ := .of (pw_or1 pt_J).pt fun σ F H Q S q => ttJ_of h S q
def twJ (X : Cx) (po : Option Addr) (e : Expr) : TT := fun σ H Q => ∃ (F : Hp) (ρ : Env') (Φ : Bool → Prop), (∀ (whole : Sem Value) (pins : List (Addr × Obj)) (s : Shared) (σ : L2.St) (F H : Hp) (Q : Bool → Hp → Prop), Inv X pins σ H s → Stt po σ F H ρ →
    (∀ b F' H', Φ b → Adv po F H F' H' → Q b H') → wpAny (model X.prog X.w) X.A (isTrue e X.env whole) (TP X pins σ Q) X.xe s) ∧ Stt po σ F H ρ ∧ ∀ b F' H', Φ b → Adv po F H F' H' → Q b H'
/-- .. whatever its whole is -/
def JTw (X : Cx) (po : Option Addr) (e : Expr) (ρ : Env') (Φ : Bool → Prop) : Prop :=
  ∀ (whole : Sem Value) (pins : List (Addr × Obj)) (s : Shared) (σ : L2.St) (F H : Hp) (Q : Bool → Hp → Prop), Inv X pins σ H s → Stt po σ F H ρ →
    (∀ b F' H', Φ b → Adv po F H F' H' → Q b H') → wpAny (model X.prog X.w) X.A (isTrue e X.env whole) (TP X pins σ Q) X.xe s
theorem pw_J : PW X e (twJ X po e) := ⟨fun wh pins s σ H Q I ⟨F, ρ, Φ, j, S, k⟩ => j wh pins s σ F H Q I S k⟩
theorem JTw.of {t : TT} (h : PW X e t) (hw : ∀ σ F H (Q : Bool → Hp → Prop), Stt po σ F H ρ → (∀ b F' H', Ψ b → Adv po F H F' H' → Q b H') → t σ H Q) : JTw X po e ρ Ψ :=
  fun wh pins s σ F H Q I S k => h.run wh pins s σ H Q I (hw σ F H Q S k)
theorem JTw.jt (h : JTw X po e ρ Ψ) : JT X po e ρ Ψ := fun pins s σ F H Q I S k => h _ pins s σ F H Q I S k
theorem JTw.and1 (h : JT X po a ρ Ψ) : JTw X po (.BoolOp .And [a] pos) ρ Ψ := .of (pw_and1 pt_J) fun σ F H Q S q => ttJ_of h S q
theorem JTw.or1 (h : JT X po a ρ Ψ) : JTw X po (.BoolOp .Or [a] pos) ρ Ψ := .of (pw_or1 pt_J) fun σ F H Q S q => ttJ_of h S q
theorem JTw.and (h : JT X po a ρ fun c => if c = true then JTw X po (.BoolOp .And (b :: rest) pos) ρ Ψ else Ψ false) : JTw X po (.BoolOp .And (a :: b :: rest) pos) ρ Ψ :=
  .of (pw_and pt_J (pw_J (po := po))) fun σ F H Q S q => ttJ_of h S fun c F1 H1 k A1 => by
    cases c with
    | true => exact iteT ⟨F1, ρ, Ψ, unT k, S.adv A1, fun d F2 H2 k2 A2 => q d F2 H2 k2 (A1.trans A2)⟩
    | false => exact iteF (q false F1 H1 (unF k) A1)
theorem JTw.or (h : JT X po a ρ fun c => if c = true then Ψ true else JTw X po (.BoolOp .Or (b :: rest) pos) ρ Ψ) : JTw X po (.BoolOp .Or (a :: b :: rest) pos) ρ Ψ :=
  .of (pw_or pt_J (pw_J (po := po))) fun σ F H Q S q => ttJ_of h S fun c F1 H1 k A1 => by
    cases c with
    | true => exact iteT (q true F1 H1 (unT k) A1)
    | false => exact iteF ⟨F1, ρ, Ψ, unF k, S.adv A1, fun d F2 H2 k2 A2 => q d F2 H2 k2 (A1.trans A2)⟩
/-! as values (bools) -/
theorem JE.one {op} (h : JE X po a ρ Φ) : JE X po (.BoolOp op [a] pos) ρ Φ := .of (pe_one pe_J) fun σ F H Q S q => tJ_of h S q
theorem JE.and (h : JE X po a ρ (OnB fun c => if c = true then JE X po (.BoolOp .And (b :: rest) pos) ρ Φ else Φ (.bool false))) : JE X po (.BoolOp .And (a :: b :: rest) pos) ρ Φ :=
  .of (pe_and pe_J (pe_J (po := po))) fun σ F H Q S q => tJ_of h S fun v F1 H1 d ⟨c, hc, k⟩ A1 r => by
    subst hc
    refine ⟨c, dp_bl r, ?_⟩
    cases c with
    | true => exact iteT (tJ_of (unT k) (S.adv A1) fun w F2 H2 d k2 A2 r2 => q w F2 H2 d k2 (A1.trans A2) r2)
    | false => exact iteF (q _ F1 H1 _ (unF k) A1 (.bl false))
theorem JE.or (h : JE X po a ρ (OnB fun c => if c = true then Φ (.bool true) else JE X po (.BoolOp .Or (b :: rest) pos) ρ Φ)) : JE X po (.BoolOp .Or (a :: b :: rest) pos) ρ Φ :=
  .of (pe_or pe_J (pe_J (po := po))) fun σ F H Q S q => tJ_of h S fun v F1 H1 d ⟨c, hc, k⟩ A1 r => by
    subst hc
    refine ⟨c, dp_bl r, ?_⟩
    cases c with
    | true => exact iteT (q _ F1 H1 _ (unT k) A1 (.bl true))
    | false => exact iteF (tJ_of (unF k) (S.adv A1) fun w F2 H2 d k2 A2 r2 => q w F2 H2 d k2 (A1.trans A2) r2)
theorem JE.not (h : JE X po a ρ (OnB fun b => Φ (.bool (!b)))) : JE X po (.UnaryOp .Not a pos) ρ Φ :=
  .of (pe_not pe_J) fun σ F H Q S q => tJ_of h S fun v F1 H1 d ⟨c, hc, k⟩ A1 r => by subst hc; exact ⟨c, dp_bl r, q _ F1 H1 _ k A1 (.bl _)⟩
theorem JE.ifx (h : JT X po c ρ fun k => if k = true then JE X po a ρ Φ else JE X po b ρ Φ) : JE X po (.IfExp c a b pos) ρ Φ :=
  .of (pe_ifExp pt_J pe_J pe_J) fun σ F H Q S q => ttJ_of h S fun k F1 H1 hk A1 => by
    cases k with
    | true => exact iteT (tJ_of (unT hk) (S.adv A1) fun w F2 H2 d k2 A2 r2 => q w F2 H2 d k2 (A1.trans A2) r2)
    | false => exact iteF (tJ_of (unF hk) (S.adv A1) fun w F2 H2 d k2 A2 r2 => q w F2 H2 d k2 (A1.trans A2) r2)
theorem JE.neg (h : JE X po a ρ fun d => ∃ i, d = .int i ∧ Φ (.int (-i))) : JE X po (.UnaryOp .USub a pos) ρ Φ :=
  .of (pe_un un_neg pe_J) fun σ F H Q S q => tJ_of h S fun v F1 H1 d ⟨i, hi, k⟩ A1 r => by subst hi; exact ⟨i, dp_int r, q _ F1 H1 _ k A1 (.int _)⟩

/-! subscripts -/
def ixJ (X : Cx) : R2 := fun v u H Q => ∃ r, IxR X r ∧ r v u H Q
def IxD (X : Cx) (po : Option Addr) (x y : Dat) (Φ : Dat → Prop) : Prop :=
  ∀ (v u : V) (F H : Hp) (Q : VK), Same F H → PoolOk po F H → Dv F v x → Dv F u y → (∀ w F' H' d, Φ d → Adv po F H F' H' → Dv F' w d → Q w H') → ixJ X v u H Q
theorem atI_d {H : Hp} {vs : List V} {ds : List Dat} (h : Ds H vs ds) {i : Int} {d : Dat} (e : atI ds i = some d) : ∃ v, atI vs i = some v ∧ Dv H v d := by
  unfold atI at e ⊢
  rw [dlen h]
  cases q : ixN ds.length i with
  | none => rw [q] at e; cases e
  | some j =>
    rw [q] at e
    exact dget h e
theorem IxD.list {ds : List Dat} {i : Int} {d : Dat} (e : atI ds i = some d) (k : Φ d) : IxD X po (.list ds) (.int i) Φ := fun v u F H Q s p d1 d2 q => by
  obtain ⟨a, vs, rfl, h1, r1⟩ := dp_list d1
  obtain ⟨w, e2, r2⟩ := atI_d r1 e
  exact ⟨_, ix_list, a, vs, i, w, rfl, dp_int d2, .inl (.inl (s _ _ h1)), e2, q _ _ _ _ k (.refl s p) r2⟩
theorem IxD.tup {ds : List Dat} {i : Int} {d : Dat} (e : atI ds i = some d) (k : Φ d) : IxD X po (.tuple ds) (.int i) Φ := fun v u F H Q s p d1 d2 q => by
  obtain ⟨a, vs, rfl, h1, r1⟩ := dp_tup d1
  obtain ⟨w, e2, r2⟩ := atI_d r1 e
  exact ⟨_, ix_tup, a, vs, i, w, rfl, dp_int d2, .inl (.inl (s _ _ h1)), e2, q _ _ _ _ k (.refl s p) r2⟩
theorem ixr_J : IxR X (ixJ X) := by
  intro value slice pins s σ H x y v u Q I rx ry h hs
  obtain ⟨r, hr, h⟩ := h
  exact hr value slice pins s σ H x y v u Q I rx ry h hs
theorem JE.ix (h : JE X po a ρ fun x => JE X po b ρ fun y => IxD X po x y Φ) (hs : PlainIx b := by exact fun _ _ => rfl) : JE X po (.Subscript a b pos) ρ Φ := by
  refine .of (pe_ix ixr_J pe_J pe_J hs) fun σ F H Q S q => ⟨F, ρ, _, h, S, fun v F1 H1 x j1 A1 d1 => ⟨F1, ρ, _, j1, S.adv A1, fun u F2 H2 y j2 A2 d2 => ?_⟩⟩
  exact j2 v u F2 H2 Q A2.sub A2.pool (dmono A2.frz d1) d2 fun w F' H' d k A3 r => q w F' H' d k (A1.trans (A2.trans A3)) r

/-! displays, argument lists -/
theorem JA.of {t : TA} {Θ : List Dat → Prop} (h : PA X es t) (hw : ∀ σ F H (Q : List V → Hp → Prop), Stt po σ F H ρ → (∀ vs F' H' ds, Θ ds → Adv po F H F' H' → Ds F' vs ds → Q vs H') → t σ H Q) : JA X po es ρ Θ :=
  fun pos pins s σ F H Q I S k => h.run pos pins s σ H Q I (hw σ F H Q S k)
theorem taJ_of {σ : L2.St} {F H : Hp} {Q : List V → Hp → Prop} {Θ : List Dat → Prop} (h : JA X po es ρ Θ) (S : Stt po σ F H ρ) (q : ∀ v F' H' d, Θ d → Adv po F H F' H' → Ds F' v d → Q v H') : taJ X po es σ H Q := ⟨F, ρ, Θ, h, S, q⟩
theorem JA.nil {Θ : List Dat → Prop} (k : Θ []) : JA X po [] ρ Θ := .of pa_nil fun σ F H Q S q => q [] F H [] k (.refl S.sub S.pool) .nil
theorem JA.cons {Θ : List Dat → Prop} (h : JE X po e ρ fun d => JA X po es ρ fun ds => Θ (d :: ds)) (hs : starEach (e :: es) X.env = (false, eval e X.env) :: starEach es X.env := by rfl) : JA X po (e :: es) ρ Θ :=
  .of (pa_cons pe_J pa_J hs) fun σ F H Q S q => tJ_of h S fun v F1 H1 d j A1 r => taJ_of j (S.adv A1) fun vs F2 H2 ds k A2 r2 => q _ F2 H2 _ k (A1.trans A2) (.cons (dmono A2.frz r) r2)
theorem JE.tup {x1} (h : JA X po es ρ fun ds => ds.length ≤ sizeLine ∧ Φ (.tuple ds)) : JE X po (.Tuple es x1 pos) ρ Φ :=
  .of (pe_tup pa_J) fun σ F H Q S q => taJ_of h S fun vs F1 H1 ds ⟨z, k⟩ A1 r => ⟨by rw [dlen r]; exact z, fun p n => q _ _ _ _ k (A1.trans ((Adv.newF A1.sub n).up A1.pool)) (new_tup A1.sub n r)⟩
theorem JE.lst (h : JA X po es ρ fun ds => ds.length ≤ sizeLine ∧ Φ (.list ds)) : JE X po (.List es pos) ρ Φ :=
  .of (pe_lst pa_J) fun σ F H Q S q => taJ_of h S fun vs F1 H1 ds ⟨z, k⟩ A1 r => ⟨by rw [dlen r]; exact z, fun p n => q _ _ _ _ k (A1.trans ((Adv.newF A1.sub n).up A1.pool)) (new_lst A1.sub n r)⟩
end
end PD
end

section
set_option Elab.async false
set_option linter.all false
set_option maxRecDepth 100000
set_option maxHeartbeats 4000000
/-! PDc: built-ins, slices, calls. -/
namespace PD
open PySem PySem.Spec PyProof.Rows L2

section
variable {X : Cx} {po : Option Addr} {a b c e : Expr} {es : List Expr} {ρ : Env'} {Φ : Dat → Prop} {pos p : Pos}

/-! ### built-ins by their arguments' data -/
def CalD (X : Cx) (po : Option Addr) (f : Value) (ds : List Dat) (Φ : Dat → Prop) : Prop :=
  ∀ (vs : List V) (F H : Hp) (Q : VK), Same F H → PoolOk po F H → Ds F vs ds → (∀ w F' H' d, Φ d → Adv po F H F' H' → Dv F' w d → Q w H') → ∃ r, CallR X f r ∧ r vs H Q
def calJ (X : Cx) (f : Value) : List V → Hp → VK → Prop := fun vs H Q => ∃ r, CallR X f r ∧ r vs H Q
theorem calr_J {f : Value} : CallR X f (calJ X f) := fun pins s σ H xs us Q I rx ⟨_, hr, h⟩ => hr pins s σ H xs us Q I rx h
theorem calJ_of {f : Value} {σ : L2.St} {F H : Hp} {Q : VK} (h : JA X po es ρ fun ds => CalD X po f ds Φ) (S : Stt po σ F H ρ) (q : ∀ w F' H' d, Φ d → Adv po F H F' H' → Dv F' w d → Q w H') : tCB (calJ X f) (taJ X po es) σ H Q :=
  taJ_of h S fun vs F1 H1 ds k A1 r => k vs F1 H1 Q A1.sub A1.pool r fun w F' H' d k2 A2 r2 => q w F' H' d k2 (A1.trans A2) r2
/-- f(e, ..), f a built-in function -/
theorem JE.callB {x : Str} {id : String} (hg : Gl X x) (hm : X.mg x = none) (hv : bootBuiltins x = some (.builtin id)) (h : JA X po (e :: es) ρ fun ds => CalD X po (.builtin id) ds Φ) (hn : x ≠ "__name__" := by decide) (hdb : (x == ("__debug__" : Str)) = false := by decide)
    (he : starEach (e :: es) X.env = (false, eval e X.env) :: starEach es X.env := by rfl) (hpl : (backTo pos (starEach es X.env)).any (·.1) = false := by rfl) : JE X po (.Call (.Name x p) (e :: es) [] pos) ρ Φ :=
  .of (pe_callB calr_J hg hm hv pa_J hn hdb he hpl) fun σ F H Q S q => calJ_of h S q
theorem JE.callTy {x : Str} {T : String} (hg : Gl X x) (hm : X.mg x = none) (hv : bootBuiltins x = some (.type T)) (h : JA X po (e :: es) ρ fun ds => CalD X po (.type T) ds Φ) (hn : x ≠ "__name__" := by decide) (hdb : (x == ("__debug__" : Str)) = false := by decide)
    (he : starEach (e :: es) X.env = (false, eval e X.env) :: starEach es X.env := by rfl) (hpl : (backTo pos (starEach es X.env)).any (·.1) = false := by rfl) : JE X po (.Call (.Name x p) (e :: es) [] pos) ρ Φ :=
  .of (pe_callTy calr_J hg hm hv pa_J hn hdb he hpl) fun σ F H Q S q => calJ_of h S q
/-- f a name of the module for a built-in -/
theorem JE.callBm {x : Str} {id : String} (hg : Gl X x) (hm : X.mg x = some (.builtin id)) (h : JA X po (e :: es) ρ fun ds => CalD X po (.builtin id) ds Φ) (hdb : (x == ("__debug__" : Str)) = false := by decide)
    (he : starEach (e :: es) X.env = (false, eval e X.env) :: starEach es X.env := by rfl) (hpl : (backTo pos (starEach es X.env)).any (·.1) = false := by rfl) : JE X po (.Call (.Name x p) (e :: es) [] pos) ρ Φ :=
  .of (pe_callBfun calr_J hg hm pa_J hdb he hpl) fun σ F H Q S q => calJ_of h S q
theorem ds1 {H : Hp} {vs : List V} {d : Dat} (h : Ds H vs [d]) : ∃ v, vs = [v] ∧ Dv H v d := by
  cases h with
  | cons a t => cases t; exact ⟨_, rfl, a⟩
theorem ds2 {H : Hp} {vs : List V} {d d' : Dat} (h : Ds H vs [d, d']) : ∃ v v', vs = [v, v'] ∧ Dv H v d ∧ Dv H v' d' := by
  cases h with
  | cons a t =>
    cases t with
    | cons b t => cases t; exact ⟨_, _, rfl, a, b⟩
theorem CalD.int1 {f : Value} {g : Int → Int} {i : Int} (hr : CallR X f (fun xs H Q => ∃ i, xs = [.int i] ∧ Q (.int (g i)) H)) (k : Φ (.int (g i))) : CalD X po f [.int i] Φ := fun vs F H Q s p r q => by
  obtain ⟨v, rfl, h⟩ := ds1 r
  rw [dp_int h]
  exact ⟨_, hr, i, rfl, q _ F H _ k (.refl s p) (.int _)⟩
theorem CalD.int2 {f : Value} {g : Int → Int → Int} {i j : Int} (hr : CallR X f (fun xs H Q => ∃ i j, xs = [.int i, .int j] ∧ Q (.int (g i j)) H)) (k : Φ (.int (g i j))) : CalD X po f [.int i, .int j] Φ := fun vs F H Q s p r q => by
  obtain ⟨v, v', rfl, h, h'⟩ := ds2 r
  rw [dp_int h, dp_int h']
  exact ⟨_, hr, i, j, rfl, q _ F H _ k (.refl s p) (.int _)⟩
theorem CalD.abs {i : Int} (k : Φ (.int (if i < 0 then -i else i))) : CalD X po (.builtin "abs") [.int i] Φ := .int1 call_abs k
theorem CalD.max2 {i j : Int} (hc : X.calm = true) (k : Φ (.int (if j > i then j else i))) : CalD X po (.builtin "max") [.int i, .int j] Φ := .int2 (call_max2 hc) k
theorem CalD.min2 {i j : Int} (hc : X.calm = true) (k : Φ (.int (if j < i then j else i))) : CalD X po (.builtin "min") [.int i, .int j] Φ := .int2 (call_min2 hc) k
theorem CalD.gcd {i j : Int} (k : Φ (.int ((Nat.gcd i.natAbs j.natAbs : Nat) : Int))) : CalD X po (.builtin "math.gcd") [.int i, .int j] Φ := .int2 cr_gcd k
theorem CalD.toInt {i : Int} (k : Φ (.int i)) : CalD X po (.type "int") [.int i] Φ := fun vs F H Q s p r q => by
  obtain ⟨v, rfl, h⟩ := ds1 r
  rw [dp_int h]
  exact ⟨_, call_int1, .inl ⟨i, rfl, q _ F H _ k (.refl s p) (.int _)⟩⟩
theorem CalD.lenL {ds : List Dat} (k : Φ (.int ds.length)) : CalD X po (.builtin "len") [.list ds] Φ := fun vs F H Q s p r q => by
  obtain ⟨v, rfl, h⟩ := ds1 r
  obtain ⟨l, xs, rfl, h1, r1⟩ := dp_list h
  refine ⟨_, call_len_seq, l, xs, rfl, .inl (.inl (.inl (s _ _ h1))), ?_⟩
  rw [dlen r1]
  exact q _ F H _ k (.refl s p) (.int _)
theorem CalD.lenT {ds : List Dat} (k : Φ (.int ds.length)) : CalD X po (.builtin "len") [.tuple ds] Φ := fun vs F H Q s p r q => by
  obtain ⟨v, rfl, h⟩ := ds1 r
  obtain ⟨l, xs, rfl, h1, r1⟩ := dp_tup h
  refine ⟨_, call_len_seq, l, xs, rfl, .inr (.inl (.inl (s _ _ h1))), ?_⟩
  rw [dlen r1]
  exact q _ F H _ k (.refl s p) (.int _)
theorem CalD.sumI {ns : List Int} (hc : X.calm = true) (k : Φ (.int ns.sum)) : CalD X po (.builtin "sum") [.list (ns.map .int)] Φ := fun vs F H Q s p r q => by
  obtain ⟨v, rfl, h⟩ := ds1 r
  obtain ⟨l, xs, rfl, h1, r1⟩ := dp_list h
  rw [dints r1] at h1
  exact ⟨_, cr_sum hc, l, ns, rfl, .inl (.inl (s _ _ h1)), q _ F H _ k (.refl s p) (.int _)⟩
theorem dbools {H : Hp} : ∀ {ns : List Bool} {vs : List V}, Ds H vs (ns.map PyData.bool) → vs = ns.map V.bl
  | [], _, h => by cases h; rfl
  | n :: ns, _, h => by
    cases h with
    | cons h1 h2 =>
      cases h1
      rw [dbools h2]
      rfl
theorem CalD.allB {bs : List Bool} (hc : X.calm = true) (k : Φ (.bool (bs.all id))) : CalD X po (.builtin "all") [.list (bs.map .bool)] Φ := fun vs F H Q s p r q => by
  obtain ⟨v, rfl, h⟩ := ds1 r
  obtain ⟨l, xs, rfl, h1, r1⟩ := dp_list h
  rw [dbools r1] at h1
  exact ⟨_, cr_all hc, l, bs, rfl, .inl (.inl (s _ _ h1)), q _ F H _ k (.refl s p) (.bl _)⟩
theorem CalD.anyB {bs : List Bool} (hc : X.calm = true) (k : Φ (.bool (bs.any id))) : CalD X po (.builtin "any") [.list (bs.map .bool)] Φ := fun vs F H Q s p r q => by
  obtain ⟨v, rfl, h⟩ := ds1 r
  obtain ⟨l, xs, rfl, h1, r1⟩ := dp_list h
  rw [dbools r1] at h1
  exact ⟨_, cr_any hc, l, bs, rfl, .inl (.inl (s _ _ h1)), q _ F H _ k (.refl s p) (.bl _)⟩
theorem CalD.listL {ds : List Dat} (k : Φ (.list ds)) : CalD X po (.type "list") [.list ds] Φ := fun vs F H Q s p r q => by
  obtain ⟨v, rfl, h⟩ := ds1 r
  obtain ⟨l, xs, rfl, h1, r1⟩ := dp_list h
  exact ⟨_, call_list_of, l, xs, rfl, .inl (.inl (.inl (s _ _ h1))), fun m n => q _ _ _ _ k ((Adv.newF s n).up p) (new_lst s n r1)⟩
theorem CalD.listT {ds : List Dat} (k : Φ (.list ds)) : CalD X po (.type "list") [.tuple ds] Φ := fun vs F H Q s p r q => by
  obtain ⟨v, rfl, h⟩ := ds1 r
  obtain ⟨l, xs, rfl, h1, r1⟩ := dp_tup h
  exact ⟨_, call_list_of, l, xs, rfl, .inr (.inl (.inl (s _ _ h1))), fun m n => q _ _ _ _ k ((Adv.newF s n).up p) (new_lst s n r1)⟩
theorem CalD.tupL {ds : List Dat} (k : Φ (.tuple ds)) : CalD X po (.type "tuple") [.list ds] Φ := fun vs F H Q s p r q => by
  obtain ⟨v, rfl, h⟩ := ds1 r
  obtain ⟨l, xs, rfl, h1, r1⟩ := dp_list h
  exact ⟨_, call_tuple_of, l, xs, rfl, .inl ⟨.inl (.inl (s _ _ h1)), fun m n => q _ _ _ _ k ((Adv.newF s n).up p) (new_tup s n r1)⟩⟩
theorem CalD.tupT {ds : List Dat} (k : Φ (.tuple ds)) : CalD X po (.type "tuple") [.tuple ds] Φ := fun vs F H Q s p r q => by
  obtain ⟨v, rfl, h⟩ := ds1 r
  obtain ⟨l, xs, rfl, h1, r1⟩ := dp_tup h
  exact ⟨_, call_tuple_of, l, xs, rfl, .inr ⟨.inl (.inl (s _ _ h1)), q _ _ _ _ k (.refl s p) h⟩⟩
/-- tuple(reversed(l)) -/
theorem JE.tupRev {p2 pos2 : Pos} (hc : X.calm = true) (hg : Gl X "tuple") (hm : X.mg "tuple" = none) (hg2 : Gl X "reversed") (hm2 : X.mg "reversed" = none) (h : JE X po e ρ fun d => ∃ ds, d = .list ds ∧ Φ (.tuple ds.reverse))
    (hs : starEach [e] X.env = (false, eval e X.env) :: starEach [] X.env := by rfl)
    (hs2 : starEach [.Call (.Name "reversed" p2) [e] [] pos2] X.env = (false, eval (.Call (.Name "reversed" p2) [e] [] pos2) X.env) :: starEach [] X.env := by rfl) :
    JE X po (.Call (.Name "tuple" p) [.Call (.Name "reversed" p2) [e] [] pos2] [] pos) ρ Φ :=
  .of (RT.pe_tupRev hc hg hm hg2 hm2 pe_J hs hs2) fun σ F H Q S q => tJ_of h S fun v F1 H1 d ⟨ds, hd, k⟩ A1 r => by
    subst hd
    obtain ⟨l, xs, rfl, h1, r1⟩ := dp_list r
    exact ⟨l, xs, rfl, .inl (.inl (A1.sub _ _ h1)), fun m n => q _ _ _ _ k (A1.trans ((Adv.newF A1.sub n).up A1.pool)) (new_tup A1.sub n (drev r1))⟩

/-! ### isinstance -/
inductive DTy : Dat → String → Prop
  | non : DTy .none "NoneType"
  | bl (b : Bool) : DTy (.bool b) "bool"
  | int (i : Int) : DTy (.int i) "int"
  | str (x : Str) : DTy (.str x) "str"
  | lst (ds : List Dat) : DTy (.list ds) "list"
  | tup (ds : List Dat) : DTy (.tuple ds) "tuple"
def dty : Dat → String
  | .none => "NoneType" | .bool _ => "bool" | .int _ => "int" | .str _ => "str" | .list _ => "list" | .tuple _ => "tuple" | .dict _ => "dict"
theorem ty_of {K : Frag} {F H : Hp} {v : V} {d : Dat} (s : Same F H) (h : Dv F v d) : TyX K H v (.type (dty d)) := by
  cases h with
  | non => exact .base .non
  | bl b => exact .base (.bl b)
  | int i => exact .base (.int i)
  | str x => exact .base (.str x)
  | lst h1 _ => exact .base (.lst (s _ _ h1))
  | tup h1 _ => exact .base (.tup (s _ _ h1))
/-- isinstance(e, T) -/
theorem JE.isi {x : Str} {T : String} {p3 : Pos} (hg : Gl X "isinstance") (hm : X.mg "isinstance" = none) (hgT : Gl X x) (hmT : X.mg x = none) (hvT : bootBuiltins x = some (.type T)) (hnT : x ≠ "__name__") (hdT : (x == ("__debug__" : Str)) = false)
    (h : JE X po e ρ fun d => ∃ b, kitB (dty d) T = some b ∧ Φ (.bool b)) (he : starEach [e, .Name x p3] X.env = (false, eval e X.env) :: starEach [.Name x p3] X.env := by rfl) (he2 : starEach [.Name x p3] X.env = (false, eval (.Name x p3) X.env) :: starEach [] X.env := by rfl)
    (hpl : (backTo pos (starEach [.Name x p3] X.env)).any (·.1) = false := by rfl) :
    JE X po (.Call (.Name "isinstance" p) [e, .Name x p3] [] pos) ρ Φ :=
  .of (pe_callB (call_isi (X := X)) hg hm (by decide +kernel) (pa_cons (pe_J (po := po)) (pa_cons (pe_bltn (v := .ty T) hgT hmT hvT rfl hnT hdT) pa_nil he2) he) (by decide) (by decide) he hpl) fun σ F H Q S q =>
    tJ_of h S fun v F1 H1 d ⟨b, hb, k⟩ A1 r => ⟨v, .ty T, .type (dty d), .type T, b, rfl, .ty T, ty_of A1.sub r, kit_ty hb, q _ _ _ _ k A1 (.bl b)⟩
/-- isinstance(e, (T, U)) -/
theorem JE.isi2 {x y : Str} {T U : String} {x1} {p3 p4 p5 : Pos} (hg : Gl X "isinstance") (hm : X.mg "isinstance" = none) (hgT : Gl X x) (hmT : X.mg x = none) (hvT : bootBuiltins x = some (.type T)) (hnT : x ≠ "__name__") (hdT : (x == ("__debug__" : Str)) = false)
    (hgU : Gl X y) (hmU : X.mg y = none) (hvU : bootBuiltins y = some (.type U)) (hnU : y ≠ "__name__") (hdU : (y == ("__debug__" : Str)) = false)
    (h : JE X po e ρ fun d => ∃ b, PySem.W.kitAny X.K (.type (dty d)) [.type T, .type U] = some b ∧ Φ (.bool b)) (he : starEach [e, .Tuple [.Name x p3, .Name y p4] x1 p5] X.env = (false, eval e X.env) :: starEach [.Tuple [.Name x p3, .Name y p4] x1 p5] X.env := by rfl)
    (he2 : starEach [.Tuple [.Name x p3, .Name y p4] x1 p5] X.env = (false, eval (.Tuple [.Name x p3, .Name y p4] x1 p5) X.env) :: starEach [] X.env := by rfl)
    (he3 : starEach [.Name x p3, .Name y p4] X.env = (false, eval (.Name x p3) X.env) :: starEach [.Name y p4] X.env := by rfl) (he4 : starEach [.Name y p4] X.env = (false, eval (.Name y p4) X.env) :: starEach [] X.env := by rfl)
    (hpl : (backTo pos (starEach [.Tuple [.Name x p3, .Name y p4] x1 p5] X.env)).any (·.1) = false := by rfl) :
    JE X po (.Call (.Name "isinstance" p) [e, .Tuple [.Name x p3, .Name y p4] x1 p5] [] pos) ρ Φ :=
  .of (pe_callB (call_isiT (X := X)) hg hm (by decide +kernel) (pa_cons (pe_J (po := po)) (pa_cons (pe_tup (pa_cons (pe_bltn (v := .ty T) hgT hmT hvT rfl hnT hdT) (pa_cons (pe_bltn (v := .ty U) hgU hmU hvU rfl hnU hdU) pa_nil he4) he3)) pa_nil he2) he) (by decide) (by decide) he hpl) fun σ F H Q S q =>
    tJ_of h S fun v F1 H1 d ⟨b, hb, k⟩ A1 r => ⟨by show 2 ≤ sizeLine; decide, fun tp n => ⟨v, tp, [.ty T, .ty U], .type (dty d), [.type T, .type U], b, rfl, upd_same, .cons (.ty T) (.cons (.ty U) .nil), ty_of (Adv.newO (o := .tup [.ty T, .ty U]) A1.sub n).sub r, hb,
      q _ _ _ _ k (A1.trans ((Adv.newO A1.sub n).up A1.pool)) (.bl b)⟩⟩

/-! ### slices -/
def cutD {α : Type} (xs : List α) (lo hi : Option Int) : List α := (xs.drop (HT.sIx xs.length 0 lo)).take (HT.sIx xs.length xs.length hi - HT.sIx xs.length 0 lo)
theorem ds_cut {H : Hp} {vs : List V} {ds : List Dat} (h : Ds H vs ds) (lo hi : Option Int) : Ds H (cutV vs lo hi) (cutD ds lo hi) := by
  unfold cutV cutD
  rw [dlen h]
  exact dtake _ (ddrop _ h)
def toJ (X : Cx) (po : Option Addr) : Option Expr → TO
  | none => tNoPart
  | some e => tPart (tJ X po e)
theorem po_J : ∀ {o : Option Expr}, PO X o (toJ X po o)
  | none => po_none
  | some _ => po_some pe_J
/-- a slice's part -/
def JO (X : Cx) (po : Option Addr) (o : Option Expr) (ρ : Env') (Θ : Option Int → Prop) : Prop := match o with
  | none => Θ none
  | some e => JE X po e ρ fun d => ∃ i, d = .int i ∧ Θ (some i)
theorem toJ_of {o : Option Expr} {Θ : Option Int → Prop} {σ : L2.St} {F H : Hp} {Q : Option Int → Hp → Prop} (h : JO X po o ρ Θ) (S : Stt po σ F H ρ) (q : ∀ i F' H', Θ i → Adv po F H F' H' → Q i H') : toJ X po o σ H Q := by
  cases o with
  | none => exact q none F H h (.refl S.sub S.pool)
  | some e => exact tJ_of h S fun v F1 H1 d ⟨i, hi, k⟩ A1 r => by subst hi; exact ⟨i, dp_int r, q _ F1 H1 k A1⟩
theorem JE.sliceL {lo hi : Option Expr} {p2 : Pos} (h : JE X po e ρ fun d => JO X po lo ρ fun l => JO X po hi ρ fun u => ∃ ds, d = .list ds ∧ Φ (.list (cutD ds l u))) : JE X po (.Subscript e (.Slice lo hi none p2) pos) ρ Φ :=
  .of (pe_slice sl_list pe_J (po_J (po := po)) (po_J (po := po))) fun σ F H Q S q => tJ_of h S fun v F1 H1 d j A1 r => toJ_of j (S.adv A1) fun l F2 H2 j2 A2 => toJ_of j2 ((S.adv A1).adv A2) fun u F3 H3 ⟨ds, hd, k⟩ A3 => by
    subst hd
    obtain ⟨m, xs, rfl, h1, r1⟩ := dp_list r
    have f := A2.frz.trans A3.frz
    exact ⟨m, xs, rfl, .inl (.inl (A3.sub _ _ (f _ _ h1))), fun o n => q _ _ _ _ k (A1.trans (A2.trans (A3.trans ((Adv.newF A3.sub n).up A3.pool)))) (new_lst A3.sub n (ds_cut (dmonoA f r1) l u))⟩
theorem cut_all {α : Type} {xs : List α} {l u : Option Int} (h : HT.sIx xs.length 0 l = 0 ∧ HT.sIx xs.length xs.length u = xs.length) : cutD xs l u = xs := by
  unfold cutD
  rw [h.1, h.2]
  simp
theorem JE.sliceT {lo hi : Option Expr} {p2 : Pos} (h : JE X po e ρ fun d => JO X po lo ρ fun l => JO X po hi ρ fun u => ∃ ds, d = .tuple ds ∧ Φ (.tuple (cutD ds l u))) : JE X po (.Subscript e (.Slice lo hi none p2) pos) ρ Φ :=
  .of (pe_slice sl_tupA pe_J (po_J (po := po)) (po_J (po := po))) fun σ F H Q S q => tJ_of h S fun v F1 H1 d j A1 r => toJ_of j (S.adv A1) fun l F2 H2 j2 A2 => toJ_of j2 ((S.adv A1).adv A2) fun u F3 H3 ⟨ds, hd, k⟩ A3 => by
    subst hd
    obtain ⟨m, xs, rfl, h1, r1⟩ := dp_tup r
    have f := A2.frz.trans A3.frz
    refine ⟨m, xs, rfl, .inl (.inl (A3.sub _ _ (f _ _ h1))), fun w => ?_, fun _ o n => q _ _ _ _ k (A1.trans (A2.trans (A3.trans ((Adv.newF A3.sub n).up A3.pool)))) (new_tup A3.sub n (ds_cut (dmonoA f r1) l u))⟩
    refine q _ _ _ _ k (A1.trans (A2.trans A3)) ?_
    rw [cut_all (by rw [← dlen r1]; exact w)]
    exact dmono f r

/-! ### calls of own defs -/
def FnD (P : Program) (w : World) (K : Frag) (mg : Str → Option Value) (base : Heap) (k : Nat) (x : Str) (sp : Sp) : Prop :=
  ∃ (f : Addr) (fd : FuncData) (ps : List Str), FnOk P w K mg base CX0 k f fd ps sp ∧ mg x = some (.ref f) ∧ PySem.W.keepIn K (.ref f) = true ∧ Binds K fd ps []
theorem FnD.mono {P : Program} {w : World} {K : Frag} {mg : Str → Option Value} {base : Heap} {j k : Nat} {x : Str} {sp : Sp} (F : FnD P w K mg base j x sp) (h : j ≤ k) : FnD P w K mg base k x sp :=
  let ⟨f, fd, ps, a, b⟩ := F; ⟨f, fd, ps, a.mono h, b⟩
/-- a def upon data: args, what it asks, what it gives -/
def spP {ι : Type} (args : ι → List Dat) (pre : ι → Prop) (post : ι → Dat → Prop) : Sp := fun vs H Q _ => ∃ F i, Same F H ∧ Ds F vs (args i) ∧ pre i ∧ ∀ v F' H' d, post i d → Adv none F H F' H' → Dv F' v d → Q v H'
/-- .. whose first argument is the pool -/
def spQ {ι : Type} (args : ι → List Dat) (pre : ι → Prop) (post : ι → Dat → Prop) : Sp := fun vs H Q _ => ∃ a F vr i, vs = .ref a :: vr ∧ Same F H ∧ Pool F H a ∧ Ds F vr (args i) ∧ pre i ∧ ∀ v F' H' d, post i d → Adv (some a) F H F' H' → Dv F' v d → Q v H'
variable {ι : Type} {args : ι → List Dat} {pre : ι → Prop} {post : ι → Dat → Prop} {k : Nat}
theorem JE.call {x : Str} (G : FnD X.prog X.w X.K X.mg X.base k x (spP args pre post)) (hr : Room k X.A) (hg : Gl X x) (h : JA X po (e :: es) ρ fun ds => ∃ i, ds = args i ∧ pre i ∧ ∀ d, post i d → Φ d)
    (hdb : (x == ("__debug__" : Str)) = false := by decide) (he : starEach (e :: es) X.env = (false, eval e X.env) :: starEach es X.env := by rfl) (hpl : (backTo pos (starEach es X.env)).any (·.1) = false := by rfl) : JE X po (.Call (.Name x p) (e :: es) [] pos) ρ Φ := by
  obtain ⟨f, fd, ps, F, hm, hk, hb⟩ := G
  exact .of (pe_call F hr hg hm hk hb .nil pass0 pa_J hdb he hpl) fun σ F H Q S q => taJ_of h S fun vs F1 H1 ds ⟨i, hi, hp, k⟩ A1 r => by
    subst hi
    refine ⟨F1, i, A1.sub, by rw [List.append_nil]; exact r, hp, fun v F' H' d hd A2 r2 => q v F' H' d (k d hd) (A1.trans (A2.up A1.pool)) r2⟩
theorem JE.callQ (i : Nat) {x pn : Str} {p2 : Pos} (G : FnD X.prog X.w X.K X.mg X.base k x (spQ args pre post)) (hr : Room k X.A) (hg : Gl X x) (hp : ρ[i]? = some .pool) (h : JA X po es ρ fun ds => ∃ i, ds = args i ∧ pre i ∧ ∀ d, post i d → Φ d)
    (hN : X.N[i]? = some pn := by rfl) (hv : Vis X.env.scope pn := by first | exact Or.inl rfl | exact Or.inr (Or.inl rfl) | exact Or.inr (Or.inr rfl)) (hd : (pn == ("__debug__" : Str)) = false := by decide) (hcd : (pn == ("__classdict__" : Str)) = false := by decide)
    (hdb : (x == ("__debug__" : Str)) = false := by decide) (he : starEach (.Name pn p2 :: es) X.env = (false, eval (.Name pn p2) X.env) :: starEach es X.env := by rfl) (hpl : (backTo pos (starEach es X.env)).any (·.1) = false := by rfl) : JE X po (.Call (.Name x p) (.Name pn p2 :: es) [] pos) ρ Φ := by
  obtain ⟨f, fd, ps, F, hm, hk, hb⟩ := G
  exact .of (pe_call F hr hg hm hk hb .nil pass0 (pa_cons (pe_var hN hv hd hcd) (pa_J (po := po)) he) hdb he hpl) fun σ F H Q S q => by
    obtain ⟨o, e1, e2⟩ := S.sl i _ hp
    cases o with
    | none => exact e2.elim
    | some v =>
      obtain ⟨a, rfl, ha⟩ := e2
      refine ⟨.ref a, e1, taJ_of h S fun vs F1 H1 ds ⟨i, hi, hp, k⟩ A1 r => ?_⟩
      subst hi
      exact ⟨a, F1, vs ++ [], i, rfl, A1.sub, A1.pool a ha, by rw [List.append_nil]; exact r, hp, fun v F' H' d hd A2 r2 => q v F' H' d (k d hd) (A1.trans (by rw [ha]; exact A2)) r2⟩
end
end PD
end

section
set_option Elab.async false
set_option linter.all false
set_option maxRecDepth 100000
set_option maxHeartbeats 4000000
/-! PDd: what is walked; list comprehensions. -/
namespace PD
open PySem PySem.Spec PyProof.Rows L2

/-- J yields the data ds, from heaps that hold F -/
structure Yields (J : It) (F : Hp) (ds : List Dat) : Prop where
  len : ds.length ≤ sizeLine
  go : ∀ i H, i < ds.length → Same F H → J.go i H
  stop : ∀ H, Same F H → J.stop ds.length H
  yld : ∀ i FH H x H' d, ds[i]? = some d → Same F FH → Same FH H → J.yld i H x H' → ∃ F', Adv none FH H F' H' ∧ Dv F' x d
/-- the iterable iter, walked by the target tg -/
def JI (X : Cx) (po : Option Addr) (tg iter : Expr) (ρ : Env') (Ψ : List Dat → Prop) : Prop :=
  ∀ (pins : List (Addr × Obj)) (s : Shared) (σ : L2.St) (F H : Hp) (R : It → Hp → Prop), Inv X pins σ H s → Stt po σ F H ρ →
    (∀ J F' H' ds, Ψ ds → Adv po F H F' H' → Yields J F' ds → R J H') →
    wpAny (model X.prog X.w) X.A (eval iter X.env) (fun v s1 => wpAny (model X.prog X.w) X.A (pyIter v) (PIE X pins σ tg R) X.xe s1) X.xe s
section
variable {X : Cx} {po : Option Addr} {tg a b c e iter : Expr} {es : List Expr} {ρ : Env'} {Φ : Dat → Prop} {Ψ : List Dat → Prop} {pos p : Pos}
def tiJ (X : Cx) (po : Option Addr) (tg iter : Expr) : TI := fun σ H R => ∃ F ρ Ψ, JI X po tg iter ρ Ψ ∧ Stt po σ F H ρ ∧ ∀ J F' H' ds, Ψ ds → Adv po F H F' H' → Yields J F' ds → R J H'
theorem pi_J : PI X tg iter (tiJ X po tg iter) := ⟨fun pins s σ H R I ⟨F, ρ, Ψ, j, S, k⟩ => j pins s σ F H R I S k⟩
theorem tiJ_of {σ : L2.St} {F H : Hp} {R : It → Hp → Prop} (h : JI X po tg iter ρ Ψ) (S : Stt po σ F H ρ) (k : ∀ J F' H' ds, Ψ ds → Adv po F H F' H' → Yields J F' ds → R J H') : tiJ X po tg iter σ H R := ⟨F, ρ, Ψ, h, S, k⟩
theorem JI.of {t : TI} (h : PI X tg iter t) (hw : ∀ σ F H (R : It → Hp → Prop), Stt po σ F H ρ → (∀ J F' H' ds, Ψ ds → Adv po F H F' H' → Yields J F' ds → R J H') → t σ H R) : JI X po tg iter ρ Ψ :=
  fun pins s σ F H R I S k => h.run pins s σ H R I (hw σ F H R S k)

theorem y_list {K : Frag} {F : Hp} {l : Addr} {xs : List V} {ds : List Dat} (h : F l = some (.lst xs)) (r : Ds F xs ds) (z : xs.length ≤ sizeLine) : Yields (Itl K l) F ds where
  len := by rw [← dlen r]; exact z
  go := fun i H hi s => ⟨xs, xs[i]'(by rw [dlen r]; exact hi), .inl (.inl (s _ _ h)), by simp⟩
  stop := fun H s => ⟨xs, .inl (.inl (s _ _ h)), by rw [dlen r]; exact Nat.le_refl _⟩
  yld := fun i FH H x H' d hd s1 s2 y => by
    obtain ⟨e, y⟩ := y
    subst e
    have hx := y xs (.inl (.inl (s2 _ _ (s1 _ _ h))))
    obtain ⟨v, hv, rv⟩ := dget r hd
    rw [hx] at hv; cases hv
    exact ⟨FH, .refl s2 .none, dmono s1 rv⟩
theorem y_tup {K : Frag} {F : Hp} {l : Addr} {xs : List V} {ds : List Dat} (h : F l = some (.tup xs)) (r : Ds F xs ds) (z : xs.length ≤ sizeLine) : Yields (Itt K l) F ds where
  len := by rw [← dlen r]; exact z
  go := fun i H hi s => ⟨xs, xs[i]'(by rw [dlen r]; exact hi), .inl (.inl (s _ _ h)), by simp⟩
  stop := fun H s => ⟨xs, .inl (.inl (s _ _ h)), by rw [dlen r]; exact Nat.le_refl _⟩
  yld := fun i FH H x H' d hd s1 s2 y => by
    obtain ⟨e, y⟩ := y
    subst e
    have hx := y xs (.inl (.inl (s2 _ _ (s1 _ _ h))))
    obtain ⟨v, hv, rv⟩ := dget r hd
    rw [hx] at hv; cases hv
    exact ⟨FH, .refl s2 .none, dmono s1 rv⟩
theorem y_range {F : Hp} {lo : Int} {n : Nat} (z : n ≤ sizeLine) : Yields (Itr lo n) F ((List.range n).map fun i => .int (lo + (i : Nat))) where
  len := by simpa using z
  go := fun i H hi s => by show i < n; simpa using hi
  stop := fun H s => by show n ≤ _; simp
  yld := fun i FH H x H' d hd s1 s2 y => by
    obtain ⟨e, y⟩ := y
    subst e y
    have hi : i < n := by have := (List.getElem?_eq_some_iff.mp hd).1; simpa using this
    rw [List.getElem?_map, List.getElem?_range hi] at hd
    cases hd
    exact ⟨FH, .refl s2 .none, .int _⟩
/-- over a list or a tuple -/
theorem JI.seq (h : JE X po iter ρ fun d => ∃ ds, (d = .list ds ∨ d = .tuple ds) ∧ Ψ ds) : JI X po tg iter ρ Ψ := fun pins s σ F H R I S k => by
  have key : wpAny (model X.prog X.w) X.A (eval iter X.env) (EP X pins σ fun v H1 => ∃ F1 ds, Ψ ds ∧ Adv po F H F1 H1 ∧ (Dv F1 v (.list ds) ∨ Dv F1 v (.tuple ds))) X.xe s :=
    h pins s σ F H _ I S fun v F1 H1 d ⟨ds, hd, kk⟩ A r => ⟨F1, ds, kk, A, by rcases hd with e | e <;> (subst e; first | exact .inl r | exact .inr r)⟩
  refine thn key fun v s1 ⟨x, H1, I1, r1, F1, ds, kk, A, q⟩ => ?_
  rcases q with q | q
  · obtain ⟨l, xs, rfl, h1, rd⟩ := dp_list q
    cases r1
    have hl : SqL X.K H1 l xs := .inl (.inl (A.sub _ _ h1))
    obtain ⟨its, rv, p', hz⟩ := I1.list hl
    refine wpAny_pyIter_list p'.isList ?_
    refine ⟨s1.heap.objs.size, [s1.heap.objs.size], _, _, H1, rfl, I1.kept (t' := s1.toks) fun b o e => Heap.get?_push_of_some _ e, turn_list l _, ⟨_, Heap.get?_push_size _ rfl, rfl, rfl⟩, fun b hb => ?_, k _ F1 H1 ds kk A (y_list h1 rd hz)⟩
    have e : b = s1.heap.objs.size := by simpa using hb
    subst e
    exact I1.fpOk (Nat.le_refl _) (I1.hok.fresh (Nat.le_refl _))
  · obtain ⟨l, xs, rfl, h1, rd⟩ := dp_tup q
    cases r1
    have hl : SqT X.K H1 l xs := .inl (.inl (A.sub _ _ h1))
    obtain ⟨its, rv, p', hz⟩ := I1.tuple hl
    refine wpAny_pyIter_tuple (show s1.heap.IsTuple l its.toArray from p') ?_
    refine ⟨s1.heap.objs.size, [s1.heap.objs.size], _, _, H1, rfl, I1.kept (t' := s1.toks) fun b o e => Heap.get?_push_of_some _ e, turn_tuple l _, ⟨_, Heap.get?_push_size _ rfl, rfl, rfl⟩, fun b hb => ?_, k _ F1 H1 ds kk A (y_tup h1 rd hz)⟩
    have e : b = s1.heap.objs.size := by simpa using hb
    subst e
    exact I1.fpOk (Nat.le_refl _) (I1.hok.fresh (Nat.le_refl _))
/-- the numbers lo, lo + 1, .. -/
def rng (lo : Int) (n : Nat) : List Dat := (List.range n).map fun i => .int (lo + (i : Nat))
theorem line62 : ((sizeLine : Nat) : Int) < 2 ^ 62 := by rw [sizeLine_eq]; decide
theorem ds_int1 {H : Hp} {vs : List V} {i : Int} (h : Ds H vs [.int i]) : vs = [.int i] := by
  obtain ⟨v, rfl, r⟩ := ds1 h
  rw [dp_int r]
theorem ds_int2 {H : Hp} {vs : List V} {i j : Int} (h : Ds H vs [.int i, .int j]) : vs = [.int i, .int j] := by
  obtain ⟨v, v', rfl, r, r'⟩ := ds2 h
  rw [dp_int r, dp_int r']
theorem JI.range1 (hg : Gl X "range") (hm : X.mg "range" = none) (h : JA X po [a] ρ fun ds => ∃ n : Int, ds = [.int n] ∧ -(2 ^ 62) ≤ n ∧ n.toNat ≤ sizeLine ∧ Ψ (rng 0 n.toNat)) (hs : starEach [a] X.env = [(false, eval a X.env)] := by rfl) :
    JI X po tg (.Call (.Name "range" p) [a] [] pos) ρ Ψ :=
  .of (pi_range1 hg hm pa_J hs) fun σ F H R S k => taJ_of h S fun vs F1 H1 ds ⟨n, hn, h1, h2, q⟩ A r => by
    subst hn
    rw [ds_int1 r]
    have := line62
    exact ⟨n, rfl, h1, by omega, k _ F1 H1 _ q A (y_range h2)⟩
theorem JI.range2 (hg : Gl X "range") (hm : X.mg "range" = none) (h : JA X po [a, b] ρ fun ds => ∃ i j : Int, ds = [.int i, .int j] ∧ (-(2 ^ 62) ≤ i ∧ i < 2 ^ 62 ∧ -(2 ^ 62) ≤ j ∧ j < 2 ^ 62) ∧ (j - i).toNat ≤ sizeLine ∧ Ψ (rng i (j - i).toNat))
    (hs : starEach [a, b] X.env = [(false, eval a X.env), (false, eval b X.env)] := by rfl) (hs2 : starEach [b] X.env = [(false, eval b X.env)] := by rfl) :
    JI X po tg (.Call (.Name "range" p) [a, b] [] pos) ρ Ψ :=
  .of (pi_range2 hg hm pa_J hs hs2) fun σ F H R S k => taJ_of h S fun vs F1 H1 ds ⟨i, j, hn, h1, h2, q⟩ A r => by
    subst hn
    rw [ds_int2 r]
    exact ⟨i, j, rfl, h1, k _ F1 H1 _ q A (y_range h2)⟩

/-! reversed -/
theorem ds_rev_get {H : Hp} {xs : List V} {ds : List Dat} (r : Ds H xs ds) {i : Nat} {d : Dat} (hd : ds.reverse[i]? = some d) : ∃ v, xs[xs.length - 1 - i]? = some v ∧ Dv H v d := by
  have hi : i < ds.length := by have := (List.getElem?_eq_some_iff.mp hd).1; simpa using this
  rw [List.getElem?_reverse hi] at hd
  rw [dlen r]
  exact dget r hd
theorem y_rev {K : Frag} {F : Hp} {l : Addr} {xs : List V} {ds : List Dat} (h : F l = some (.lst xs)) (r : Ds F xs ds) (z : xs.length ≤ sizeLine) : Yields (Itv K l xs.length) F ds.reverse where
  len := by rw [List.length_reverse, ← dlen r]; exact z
  go := fun i H hi s => by
    have hi' : i < xs.length := by rw [dlen r]; simpa using hi
    exact ⟨hi', xs, xs[xs.length - 1 - i]'(by omega), .inl (.inl (s _ _ h)), by simp⟩
  stop := fun H s => by show xs.length ≤ _; rw [List.length_reverse, dlen r]; exact Nat.le_refl _
  yld := fun i FH H x H' d hd s1 s2 y => by
    obtain ⟨e, y⟩ := y
    subst e
    have hx := y xs (.inl (.inl (s2 _ _ (s1 _ _ h))))
    obtain ⟨v, hv, rv⟩ := ds_rev_get r hd
    rw [hx] at hv; cases hv
    exact ⟨FH, .refl s2 .none, dmono s1 rv⟩
theorem y_revT {K : Frag} {F : Hp} {l : Addr} {xs : List V} {ds : List Dat} (h : F l = some (.tup xs)) (r : Ds F xs ds) (z : xs.length ≤ sizeLine) : Yields (RT.ItvT K l xs.length) F ds.reverse where
  len := by rw [List.length_reverse, ← dlen r]; exact z
  go := fun i H hi s => by
    have hi' : i < xs.length := by rw [dlen r]; simpa using hi
    exact ⟨hi', xs, xs[xs.length - 1 - i]'(by omega), .inl (.inl (s _ _ h)), by simp⟩
  stop := fun H s => by show xs.length ≤ _; rw [List.length_reverse, dlen r]; exact Nat.le_refl _
  yld := fun i FH H x H' d hd s1 s2 y => by
    obtain ⟨e, y⟩ := y
    subst e
    have hx := y xs (.inl (.inl (s2 _ _ (s1 _ _ h))))
    obtain ⟨v, hv, rv⟩ := ds_rev_get r hd
    rw [hx] at hv; cases hv
    exact ⟨FH, .refl s2 .none, dmono s1 rv⟩
theorem JI.rev (hg : Gl X "reversed") (hm : X.mg "reversed" = none) (h : JE X po e ρ fun d => ∃ ds, (d = .list ds ∨ d = .tuple ds) ∧ ds.length ≤ sizeLine ∧ Ψ ds.reverse) (hs : starEach [e] X.env = (false, eval e X.env) :: starEach [] X.env := by rfl) :
    JI X po tg (.Call (.Name "reversed" p) [e] [] pos) ρ Ψ :=
  .of (RT.pi_revA hg hm pe_J hs) fun σ F H R S k => tJ_of h S fun v F1 H1 d ⟨ds, hd, hz, q⟩ A r => by
    rcases hd with rfl | rfl
    · obtain ⟨l, xs, rfl, h1, rd⟩ := dp_list r
      exact ⟨l, xs, rfl, .inl ⟨.inl (.inl (A.sub _ _ h1)), k _ F1 H1 _ q A (y_rev h1 rd (by rw [dlen rd]; exact hz))⟩⟩
    · obtain ⟨l, xs, rfl, h1, rd⟩ := dp_tup r
      exact ⟨l, xs, rfl, .inr ⟨.inl (.inl (A.sub _ _ h1)), k _ F1 H1 _ q A (y_revT h1 rd (by rw [dlen rd]; exact hz))⟩⟩

/-! enumerate of a list -/
def enum (ds : List Dat) : List Dat := (List.range ds.length).map fun i => .tuple [.int (i : Nat), ds.getD i .none]
theorem enum_len (ds : List Dat) : (enum ds).length = ds.length := by simp [enum]
theorem enum_get {ds : List Dat} {i : Nat} {d : Dat} (h : (enum ds)[i]? = some d) : ∃ y, ds[i]? = some y ∧ d = .tuple [.int (i : Nat), y] := by
  have hi : i < ds.length := by have := (List.getElem?_eq_some_iff.mp h).1; simpa [enum] using this
  unfold enum at h
  rw [List.getElem?_map, List.getElem?_range hi] at h
  have e := (Option.some.inj h).symm
  refine ⟨ds[i], by simp [hi], ?_⟩
  rw [e]
  simp [List.getD, hi]
theorem y_enum {K : Frag} {F : Hp} {l : Addr} {xs : List V} {ds : List Dat} (h : F l = some (.lst xs)) (r : Ds F xs ds) (z : xs.length ≤ sizeLine) : Yields (Ite K l) F (enum ds) where
  len := by rw [enum_len, ← dlen r]; exact z
  go := fun i H hi s => ⟨xs, xs[i]'(by rw [dlen r, ← enum_len]; exact hi), .inl (.inl (s _ _ h)), by simp⟩
  stop := fun H s => ⟨xs, .inl (.inl (s _ _ h)), by rw [enum_len, dlen r]; exact Nat.le_refl _⟩
  yld := fun i FH H x H' d hd s1 s2 y => by
    obtain ⟨T, v, rfl, n, rfl, y⟩ := y
    have hx := y xs (.inl (.inl (s2 _ _ (s1 _ _ h))))
    obtain ⟨d', hd', rfl⟩ := enum_get hd
    obtain ⟨v', hv, rv⟩ := dget r hd'
    rw [hx] at hv; cases hv
    exact ⟨_, Adv.newF s2 n, new_tup s2 n (.cons (.int _) (.cons (dmono s1 rv) .nil))⟩
theorem JI.enumL (hg : Gl X "enumerate") (hm : X.mg "enumerate" = none) {elts : List Expr} {kk : Nat} {tpos : Pos} (h : JA X po [e] ρ fun ds => ∃ xs, ds = [.list xs] ∧ xs.length ≤ sizeLine ∧ Ψ (enum xs)) (hs : starEach [e] X.env = [(false, eval e X.env)] := by rfl) :
    JI X po (.Tuple elts kk tpos) (.Call (.Name "enumerate" p) [e] [] pos) ρ Ψ :=
  .of (pi_enum hg hm pa_J hs) fun σ F H R S k => taJ_of h S fun vs F1 H1 ds ⟨xs, hd, hz, q⟩ A r => by
    subst hd
    obtain ⟨v, rfl, r'⟩ := ds1 r
    obtain ⟨l, ys, rfl, h1, rd⟩ := dp_list r'
    exact ⟨l, ys, rfl, .inl (.inl (A.sub _ _ h1)), k _ F1 H1 _ q A (y_enum h1 rd (by rw [dlen rd]; exact hz))⟩
end

/-! ### enumerate of a tuple -/
theorem meets_enumerate_newB1 {v : Value} {o : Obj} {H : Heap → Prop} (B : PySem.Begins v o H) :
    Meets (Builtin.«enumerate.__new__» ⟨[.type "enumerate", v], []⟩) (fun _ R s => H s.heap ∧
      R (.ok (.ret (.ref (s.heap.push o).objs.size))) { s with heap := (s.heap.push o).push { cls := .type "enumerate", data := .fields #[.none, .bool false, .ref s.heap.objs.size, rawInt 0, .none, .none] } }) :=
  .of_wp fun prog w A R s h => by
    obtain ⟨hp, g, d, tk, os⟩ := s; obtain ⟨h1, h⟩ := h
    have hsub := sub_enumerate
    have q1 : ∀ {A' : Around} {E : Value → Shared → Prop} {Q : Value → Shared → Prop}, Q (.ref hp.objs.size) ⟨hp.push o, g, d, tk, os⟩ → wpAny (model prog w) A' (pyIter v) Q E ⟨hp, g, d, tk, os⟩ :=
      fun q => B.iter prog w _ _ ⟨hp, g, d, tk, os⟩ _ h1 q
    wp_walk using q1
    refine wpAny_stack_any fun st => wpAny_pure ?_
    split
    · rename_i c _ _ _ _ _
      cases (c == Value.type "enumerate")
      · wp_walk using q1
        exact ⟨_, rfl, h⟩
      · wp_walk using q1
        exact ⟨_, rfl, h⟩
    · wp_walk using q1
      exact ⟨_, rfl, h⟩
theorem enum_begins1 {prog : Program} {w : World} {A : Around} {E : Value → Shared → Prop} {s : Shared} {v : Value} {o : Obj} {H : Heap → Prop} {Q : Value → Shared → Prop} (B : PySem.Begins v o H) (h1 : H s.heap)
    (h : ∀ h', IsEnum h' (s.heap.objs.size + 1) s.heap.objs.size 0 .none → h'.get? s.heap.objs.size = some o → h'.objs.size = s.heap.objs.size + 2 →
      (∀ b o, s.heap.get? b = some o → h'.get? b = some o) → Q (.ref (s.heap.objs.size + 1)) { s with heap := h' }) :
    wpAny (model prog w) A (call (.type "enumerate") [v]) Q E s := by
  refine callType_new F.called_enumerate (by decide) (F.typeCall_enumerate_1 _) (F.newCall_enumerate_1 _) (fun obj => F.args_object_init_2 obj _) F.entry_enumerate_new
    (meets_enumerate_newB1 B) ⟨h1, ?_⟩
  have hz : (s.heap.push o).objs.size = s.heap.objs.size + 1 := Heap.size_push ..
  show _ ∧ _
  rw [hz]
  have he : IsEnum ((s.heap.push o).push { cls := .type "enumerate", data := .fields #[.none, .bool false, .ref s.heap.objs.size, rawInt 0, .none, .none] }) (s.heap.objs.size + 1) s.heap.objs.size 0 .none := by
    have := Heap.get?_push_size (s.heap.push o) (o := { cls := .type "enumerate", data := .fields #[.none, .bool false, .ref s.heap.objs.size, rawInt 0, .none, .none] }) rfl
    rw [hz] at this; exact this
  refine ⟨⟨_, he, rfl⟩, h _ he (Heap.get?_push_of_some _ (Heap.get?_push_size _ B.free)) (by rw [Heap.size_push, hz]) fun b o x => Heap.get?_push_of_some _ (Heap.get?_push_of_some _ x)⟩
def IteT (a : Addr) : It :=
  ⟨fun i H => ∃ (xs : List V) (x : V), H a = some (.tup xs) ∧ xs[i]? = some x, fun i H v H' => ∃ T x, v = .ref T ∧ H T = none ∧ H' = upd H T (.tup [.int (i : Nat), x]) ∧ ∀ xs, H a = some (.tup xs) → xs[i]? = some x, fun i H => ∃ xs : List V, H a = some (.tup xs) ∧ xs.length = i⟩
theorem turn_enumT {P : Program} {w : World} {K : Frag} {elts : List Expr} {kk : Nat} {tpos : Pos} (a e it : Addr) :
    Turn P w K (.Tuple elts kk tpos) (IteT a) [e, it] e (fun i h => (∃ old, IsEnum h e it ((i : Nat) : Int) old) ∧ h.IsTupleIter it a i ∧ e ≠ it) where
  mem := by simp
  obj := fun i h st b hb => by
    obtain ⟨⟨old, he⟩, ⟨o, ho, hc, hd⟩, _⟩ := st
    have e' : b = e ∨ b = it := by simpa using hb
    rcases e' with z | z
    · rw [z]; exact ⟨_, he, fun v q => nomatch q⟩
    · rw [z]; exact ⟨o, ho, fun v q => by rw [hd] at q; cases q⟩
  keep := fun i h h' st k => let ⟨⟨old, he⟩, hi, hne⟩ := st; ⟨⟨old, k e (by simp) _ he⟩, hi.at fun o q => k it (by simp) o q, hne⟩
  item := by
    intro X hP hw hK hc i pins s σ H E I hf st hg
    subst hP hw hK
    obtain ⟨⟨old, he⟩, hit, hne⟩ := st
    obtain ⟨xs, x, hq, hx⟩ := hg
    have hqT : SqT X.K H a xs := .inl (.inl hq)
    obtain ⟨its, rv, p, hz⟩ := I.tuple hqT
    obtain ⟨u, hu, ru⟩ := rv.get hx
    have hel : e < s.heap.objs.size := Heap.lt_size he
    have hil : it < s.heap.objs.size := by obtain ⟨_, q, _⟩ := hit; exact Heap.lt_size q
    have hae : e ≠ a := fun z => by rw [← z, (hf e (by simp)).1] at hq; cases hq
    have hai : a ≠ it := fun z => by rw [z, (hf it (by simp)).1] at hq; cases hq
    have hlt : i < its.toArray.size := by
      have := (List.getElem?_eq_some_iff.mp hu).1
      simpa using this
    refine wpAny_pyNext_enum_itemD (Draws.tuple (prog := X.prog) (w := X.w) (A := X.A.in1) (I.ok.hd hc) it a hai its.toArray) he ⟨hit, p⟩ hlt hne (by simp; exact ⟨hne, hae⟩) fun y h' tk hy ho hst hT hsz hk => ?_
    refine ⟨_, rfl, wpAny_letOwnedTupleGo_enum (s := { s with heap := h', toks := tk + 1 }) ho fun h'' he' sb => ?_⟩
    have hyu : y = u := by
      have hu' : its.toArray[i]? = some u := by simpa using hu
      rw [hu'] at hy; cases hy; rfl
    subst hyu
    have hT2 : h''.get? s.heap.objs.size = some { cls := .type "tuple", data := .seq #[.int i tk, y] } := (sb.2 _ (Nat.ne_of_gt hel)).trans hT
    have new : ObjOk X.prog X.w (upd H s.heap.objs.size (.tup [.int (i : Nat), x])) h'' s.heap.objs.size (.tup [.int (i : Nat), x]) :=
      ⟨by show 2 ≤ sizeLine; decide, [.int i tk, y], .cons ⟨_, rfl⟩ (.cons ru .nil), ⟨_, hT2, rfl, _, rfl⟩⟩
    have I1 : Inv X pins σ (upd H s.heap.objs.size (.tup [.int (i : Nat), x])) { s with heap := h'', toks := tk + 1 } :=
      I.turnedNew (ch := [e, it]) (fun b ob hb q => (sb.2 b (fun z => hb (by simp [z]))).trans (hk b ob (fun z => hb (by simp [z])) (fun z => hb (by simp [z])) q)) hf (Nat.le_refl _) new
    refine ⟨.ref s.heap.objs.size, _, I1, rfl, ⟨_, x, rfl, I.hok.fresh (Nat.le_refl _), rfl, fun ys hy => by rw [hq] at hy; cases hy; exact hx⟩, ⟨⟨y, ?_⟩, hst.1.at fun o q => (sb.2 it (Ne.symm hne)).trans q, hne⟩, fun b hb => ?_⟩
    · have e1 : ((i + 1 : Nat) : Int) = (i : Int) + 1 := by omega
      rw [e1]; exact he'
    · have hb' : b < s.heap.objs.size := by
        have e' : b = e ∨ b = it := by simpa using hb
        rcases e' with z | z
        · rw [z]; exact hel
        · rw [z]; exact hil
      rw [upd_ne (Nat.ne_of_lt hb')]
      exact (hf b hb).1
  done := by
    intro X hP hw hK hc i pins s σ H E I hf st hg
    subst hP hw hK
    obtain ⟨⟨old, he⟩, hit, hne⟩ := st
    obtain ⟨xs, hq, hz⟩ := hg
    have hqT : SqT X.K H a xs := .inl (.inl hq)
    obtain ⟨its, rv, p, hz'⟩ := I.tuple hqT
    obtain ⟨f0, f1, f2, f3, f4, f5⟩ := hf it (by simp)
    have hl := rv.length
    have hai : a ≠ it := fun z => by rw [z, f0] at hq; cases hq
    have e1 : its.toArray.size = i := by rw [List.size_toArray]; omega
    refine wpAny_pyNext_enum_endD (Draws.tuple (prog := X.prog) (w := X.w) (A := X.A.in1) (I.ok.hd hc) it a hai its.toArray) he ⟨by rw [e1]; exact hit, p⟩ fun h' eb => ?_
    exact ⟨rfl, I.turned (t' := s.toks) (fun b o hb q => eb b o hb q) f0 f1 f3 f4 f5⟩
  self := fun A i s Q E st h => let ⟨⟨_, he⟩, _⟩ := st; wpAny_pyIter_enum he h
def iEnumT (ta : TA) : TI := fun σ H R => ta σ H fun vs H1 => ∃ a xs, vs = [.ref a] ∧ H1 a = some (.tup xs) ∧ R (IteT a) H1
theorem pi_enumT {X : Cx} {e : Expr} {ta : TA} {p pos tpos : Pos} {elts : List Expr} {kk : Nat} (hg : Gl X "enumerate") (hm : X.mg "enumerate" = none) (ha : PA X [e] ta) (hs : starEach [e] X.env = [(false, eval e X.env)] := by rfl) :
    PI X (.Tuple elts kk tpos) (.Call (.Name "enumerate" p) [e] [] pos) (iEnumT ta) := by
  refine ⟨fun pins s σ H R I h => ?_⟩
  refine Call_ (ld_blt I hg hm boot_enumerate (PyProof.Rows.callWith_type1 (thn (ha.run pos pins s σ H _ I h) fun us s1 ⟨vs, H1, I1, r1, q1⟩ => ?_) hs rfl))
  obtain ⟨a, xs, ex, hq, q⟩ := q1
  subst ex
  cases r1 with
  | cons r rr =>
    cases rr
    cases r
    have hqT : SqT X.K H1 a xs := .inl (.inl hq)
    obtain ⟨its, rv, p', hz⟩ := I1.tuple hqT
    refine enum_begins1 (begins_tuple a its.toArray) p' fun h' he hit hsz hk => wpAny_pyIter_enum he ?_
    have I2 : Inv X pins σ H1 { s1 with heap := h' } := I1.kept (t' := s1.toks) hk
    refine ⟨s1.heap.objs.size + 1, [s1.heap.objs.size + 1, s1.heap.objs.size], _, _, H1, rfl, I2, turn_enumT a (s1.heap.objs.size + 1) s1.heap.objs.size, ⟨⟨.none, he⟩, ⟨_, hit, rfl, rfl⟩, Nat.succ_ne_self _⟩, fun b hb => ?_, q⟩
    have e' : b = s1.heap.objs.size + 1 ∨ b = s1.heap.objs.size := by simpa using hb
    have hle : s1.heap.objs.size ≤ b := by
      rcases e' with z | z
      · rw [z]; exact Nat.le_succ _
      · rw [z]; exact Nat.le_refl _
    exact I1.fpOk hle (I1.hok.fresh hle)
theorem y_enumT {F : Hp} {l : Addr} {xs : List V} {ds : List Dat} (h : F l = some (.tup xs)) (r : Ds F xs ds) (z : xs.length ≤ sizeLine) : Yields (IteT l) F (enum ds) where
  len := by rw [enum_len, ← dlen r]; exact z
  go := fun i H hi s => ⟨xs, xs[i]'(by rw [dlen r, ← enum_len]; exact hi), s _ _ h, by simp⟩
  stop := fun H s => ⟨xs, s _ _ h, by rw [enum_len, dlen r]⟩
  yld := fun i FH H x H' d hd s1 s2 y => by
    obtain ⟨T, v, rfl, n, rfl, y⟩ := y
    have hx := y xs (s2 _ _ (s1 _ _ h))
    obtain ⟨d', hd', rfl⟩ := enum_get hd
    obtain ⟨v', hv, rv⟩ := dget r hd'
    rw [hx] at hv; cases hv
    exact ⟨_, Adv.newF s2 n, new_tup s2 n (.cons (.int _) (.cons (dmono s1 rv) .nil))⟩
theorem JI.enumT {X : Cx} {po : Option Addr} {e : Expr} {ρ : Env'} {Ψ : List Dat → Prop} {pos p : Pos} (hg : Gl X "enumerate") (hm : X.mg "enumerate" = none) {elts : List Expr} {kk : Nat} {tpos : Pos} (h : JA X po [e] ρ fun ds => ∃ xs, ds = [.tuple xs] ∧ xs.length ≤ sizeLine ∧ Ψ (enum xs)) (hs : starEach [e] X.env = [(false, eval e X.env)] := by rfl) :
    JI X po (.Tuple elts kk tpos) (.Call (.Name "enumerate" p) [e] [] pos) ρ Ψ :=
  .of (pi_enumT hg hm pa_J hs) fun σ F H R S k => taJ_of h S fun vs F1 H1 ds ⟨xs, hd, hz, q⟩ A r => by
    subst hd
    obtain ⟨v, rfl, r'⟩ := ds1 r
    obtain ⟨l, ys, rfl, h1, rd⟩ := dp_tup r'
    exact ⟨l, ys, rfl, A.sub _ _ h1, k _ F1 H1 _ q A (y_enumT h1 rd (by rw [dlen rd]; exact hz))⟩
end PD
end

section
set_option Elab.async false
set_option linter.all false
set_option maxRecDepth 100000
set_option maxHeartbeats 4000000
/-! PDe: list comprehensions, statements, defs. -/
namespace PD
open PySem PySem.Spec PyProof.Rows L2

/-! ### a new object that is still changed -/
theorem Adv.mut {po : Option Addr} {F0 H0 F H : Hp} {D : Addr} {o : HO} (a : Adv po F0 H0 F H) (h0 : H0 D = none) (hF : F D = none) (hp : po ≠ some D) : Adv po F0 H0 F (upd H D o) where
  keep := fun b u n h => by rw [upd_ne (ne_of_none h h0)]; exact a.keep b u n h
  frz := a.frz
  sub := fun b u h => by rw [upd_ne (ne_of_none h hF)]; exact a.sub b u h
  new := a.new
  pool := fun b hb => by
    obtain ⟨f, c, cs, i, d, m, h, r⟩ := a.pool b hb
    exact ⟨f, c, cs, i, d, m, by rw [upd_ne (fun z : b = D => hp (z ▸ hb))]; exact h, r⟩
theorem Adv.frzO {po : Option Addr} {F0 H0 F H : Hp} {D : Addr} {o : HO} (a : Adv po F0 H0 F H) (h0 : H0 D = none) (hF : F D = none) (hH : H D = some o) (hp : po ≠ some D) : Adv po F0 H0 (upd F D o) H where
  keep := a.keep
  frz := fun b u h => by
    have q := a.frz b u h
    rw [upd_ne (ne_of_none q hF)]; exact q
  sub := fun b u h => by
    by_cases e : b = D
    · subst e; rw [upd_same] at h; rw [hH]; exact h
    · rw [upd_ne e] at h; exact a.sub b u h
  new := fun b h1 h2 => by
    have e : b ≠ D := fun z : b = D => h2 (z ▸ h0)
    rw [upd_ne e]; exact a.new b h1 h2
  pool := fun b hb => by
    obtain ⟨f, c, cs, i, d, m, h, hc, r⟩ := a.pool b hb
    have e : b ≠ D := fun z : b = D => hp (z ▸ hb)
    exact ⟨by rw [upd_ne e]; exact f, c, cs, i, d, m, h, by rw [upd_ne (ne_of_none hc hF)]; exact hc, r⟩
theorem PoolOk.ne {po : Option Addr} {F H : Hp} {D : Addr} (p : PoolOk po F H) (n : H D = Option.none) : po ≠ some D := fun e => by
  obtain ⟨_, c, cs, i, d, m, h, _⟩ := p D e
  rw [n] at h; cases h

/-! ### targets by data -/
def wipeE (ρ : Env') : List Nat → Env'
  | [] => ρ
  | v :: vs => (wipeE ρ vs).set v .x
theorem Stt.setN {po : Option Addr} {σ : L2.St} {F H : Hp} {ρ : Env'} (S : Stt po σ F H ρ) (i : Nat) (o : Option V) : Stt po (σ.set i o) F H (ρ.set i .x) where
  len := by simp [S.len]
  sl := fun j s h => by
    by_cases e : i = j
    · subst e
      by_cases l : i < ρ.length
      · rw [List.getElem?_set_self l] at h; cases h
        exact ⟨o, List.getElem?_set_self (by rw [S.len]; exact l), by cases o <;> exact trivial⟩
      · rw [List.getElem?_eq_none (by simp; omega)] at h; cases h
    · rw [List.getElem?_set_ne e] at h ⊢
      exact S.sl j s h
  sep := fun j k a ds es h1 h2 h3 h4 => by
    have n : ∀ {m : Nat} {ds : List Dat}, (ρ.set i .x)[m]? = some (.own ds) → i ≠ m ∧ ρ[m]? = some (.own ds) := fun {m ds} h => by
      by_cases e : i = m
      · subst e
        by_cases l : i < ρ.length
        · rw [List.getElem?_set_self l] at h; cases h
        · rw [List.getElem?_eq_none (by simp; omega)] at h; cases h
      · rw [List.getElem?_set_ne e] at h
        exact ⟨e, h⟩
    obtain ⟨e1, q1⟩ := n h1
    obtain ⟨e2, q2⟩ := n h2
    rw [List.getElem?_set_ne e1] at h3
    rw [List.getElem?_set_ne e2] at h4
    exact S.sep j k a ds es q1 q2 h3 h4
  sub := S.sub
  pool := S.pool
theorem Stt.wipe {po : Option Addr} {σ : L2.St} {F H : Hp} {ρ : Env'} (S : Stt po σ F H ρ) : ∀ vs : List Nat, Stt po (wipe σ vs) F H (wipeE ρ vs)
  | [] => S
  | v :: vs => (S.wipe vs).setN v none
theorem set_own {ρ : Env'} {i m : Nat} {d : Dat} {ds : List Dat} (h : (ρ.set i (.d d))[m]? = some (.own ds)) : i ≠ m ∧ ρ[m]? = some (.own ds) := by
  by_cases e : i = m
  · subst e
    by_cases l : i < ρ.length
    · rw [List.getElem?_set_self l] at h; cases h
    · rw [List.getElem?_eq_none (by simp; omega)] at h; cases h
  · rw [List.getElem?_set_ne e] at h
    exact ⟨e, h⟩
theorem SS.set {po : Option Addr} {F0 H0 : Hp} {σ : L2.St} {F H : Hp} {ρ : Env'} (S : SS po F0 H0 σ F H ρ) {i : Nat} {v : V} {d : Dat} (hv : Dv F v d) : SS po F0 H0 (σ.set i (some v)) F H (ρ.set i (.d d)) :=
  ⟨S.st.set hv, S.adv, fun j ds a h1 h2 => by
    obtain ⟨e, q⟩ := set_own h1
    rw [List.getElem?_set_ne e] at h2
    exact S.own j ds a q h2⟩
/-- g stores the datum d by the change u of the environment -/
def GD (g : TG) (vs : List Nat) (R : Dat → (Env' → Env') → Prop) : Prop :=
  ∀ d u, R d u → ∀ v σ F H (Q : L2.St → Hp → Prop), Same F H → Dv F v d →
    (∀ σ', wipe σ' vs = wipe σ vs → (∀ po ρ, Stt po σ F H ρ → Stt po σ' F H (u ρ)) → (∀ po F0 H0 ρ, SS po F0 H0 σ F H ρ → SS po F0 H0 σ' F H (u ρ)) → Q σ' H) → g v σ H Q
def R1 (i : Nat) : Dat → (Env' → Env') → Prop := fun d u => u = fun ρ => ρ.set i (.d d)
def R2' (i j : Nat) : Dat → (Env' → Env') → Prop := fun d u => ∃ a b, d = .tuple [a, b] ∧ u = fun ρ => (ρ.set i (.d a)).set j (.d b)
theorem gd1 (i : Nat) : GD (gName i) [i] (R1 i) := fun d u hu v σ F H Q s r q => by
  subst hu
  exact q _ (by show ((σ.set i (some v)).set i none) = σ.set i none; rw [List.set_set]) (fun po ρ S => S.set r) fun po F0 H0 ρ S => S.set r
theorem gd2 {K : Frag} {i j : Nat} (hij : i ≠ j) : GD (gTup K 2 (gCons (gName i) (gCons (gName j) gNil))) [i, j] (R2' i j) := fun d u hu v σ F H Q s r q => by
  obtain ⟨a, b, rfl, rfl⟩ := hu
  obtain ⟨l, xs, rfl, h1, rd⟩ := dp_tup r
  obtain ⟨x, y, rfl, r1, r2⟩ := ds2 rd
  refine ⟨l, [x, y], rfl, .inl (.inl (s _ _ h1)), rfl, x, [y], rfl, y, [], rfl, rfl, q _ ?_ (fun po ρ S => (S.set r1).set r2) fun po F0 H0 ρ S => (S.set r1).set r2⟩
  show ((((σ.set i (some x)).set j (some y)).set j none).set i none) = (σ.set j none).set i none
  rw [List.set_set, List.set_comm _ _ hij, List.set_set]

/-! ### list comprehensions -/
section
variable {X : Cx} {po : Option Addr} {tg elt iter : Expr} {ifs : List Expr} {ρ : Env'} {Φ : Dat → Prop} {scope : Scope} {own : List (Str × Nat)} {g : TG} {R : Dat → (Env' → Env') → Prop} {pos : Pos}
def JB (X : Cx) (scope : Scope) (po : Option Addr) (e : Expr) (ρ : Env') (Φ : Dat → Prop) : Prop := ∀ (s : Shared) (H : Hp) (C : Addr) (cl : List (Str × Addr)) (fp : List Addr), JE (X.blk s H scope (compEnvC scope cl C X.env) fp) po e ρ Φ
def JBT (X : Cx) (scope : Scope) (po : Option Addr) (e : Expr) (ρ : Env') (Φ : Bool → Prop) : Prop := ∀ (s : Shared) (H : Hp) (C : Addr) (cl : List (Str × Addr)) (fp : List Addr), JT (X.blk s H scope (compEnvC scope cl C X.env) fp) po e ρ Φ
def tbJ (X : Cx) (scope : Scope) (po : Option Addr) (e : Expr) : TE := fun σ H Q => ∃ F ρ Φ, JB X scope po e ρ Φ ∧ Stt po σ F H ρ ∧ ∀ v F' H' d, Φ d → Adv po F H F' H' → Dv F' v d → Q v H'
def tbtJ (X : Cx) (scope : Scope) (po : Option Addr) (e : Expr) : TT := fun σ H Q => ∃ F ρ Φ, JBT X scope po e ρ Φ ∧ Stt po σ F H ρ ∧ ∀ b F' H', Φ b → Adv po F H F' H' → Q b H'
theorem tbJ_of {e : Expr} {σ : L2.St} {F H : Hp} {Q : VK} (h : JB X scope po e ρ Φ) (S : Stt po σ F H ρ) (q : ∀ v F' H' d, Φ d → Adv po F H F' H' → Dv F' v d → Q v H') : tbJ X scope po e σ H Q := ⟨F, ρ, Φ, h, S, q⟩
theorem tbtJ_of {e : Expr} {Θ : Bool → Prop} {σ : L2.St} {F H : Hp} {Q : Bool → Hp → Prop} (h : JBT X scope po e ρ Θ) (S : Stt po σ F H ρ) (q : ∀ v F' H', Θ v → Adv po F H F' H' → Q v H') : tbtJ X scope po e σ H Q := ⟨F, ρ, Θ, h, S, q⟩
theorem pe_Jb {e : Expr} (s : Shared) (H : Hp) (C : Addr) (cl : List (Str × Addr)) (fp : List Addr) : PE (X.blk s H scope (compEnvC scope cl C X.env) fp) e (tbJ X scope po e) :=
  ⟨fun pins s' σ H' Q I ⟨F, ρ, Φ, j, S, k⟩ => j s H C cl fp pins s' σ F H' Q I S k⟩
theorem pt_Jb {e : Expr} (s : Shared) (H : Hp) (C : Addr) (cl : List (Str × Addr)) (fp : List Addr) : PT (X.blk s H scope (compEnvC scope cl C X.env) fp) e (tbtJ X scope po e) :=
  ⟨fun pins s' σ H' Q I ⟨F, ρ, Φ, j, S, k⟩ => j s H C cl fp pins s' σ F H' Q I S k⟩
/-- what a comprehension's test and element do at a turn -/
def Turn1 (X : Cx) (scope : Scope) (po : Option Addr) (ifs : List Expr) (elt : Expr) (ρ : Env') (yes : Dat → Prop) (no : Prop) : Prop := match ifs with
  | [] => JB X scope po elt ρ yes
  | [c] => JBT X scope po c ρ fun b => if b = true then JB X scope po elt ρ yes else no
  | _ => False
def ttIfs (X : Cx) (scope : Scope) (po : Option Addr) : List Expr → TT
  | [] => tYes
  | [c] => tbtJ X scope po c
  | _ => fun _ _ _ => False
theorem ttIfs0 {σ : L2.St} {H : Hp} {Q : Bool → Hp → Prop} (h : Q true H) : ttIfs X scope po [] σ H Q := h
theorem ttIfs1 {c : Expr} {σ : L2.St} {H : Hp} {Q : Bool → Hp → Prop} (h : tbtJ X scope po c σ H Q) : ttIfs X scope po [c] σ H Q := h
theorem lc_read (gd : GD g (own.map (·.2)) R) (h : JI X po tg iter ρ fun ds => ∃ I : Nat → List Dat → Prop, I 0 [] ∧
      (∀ (i : Nat) d acc, ds[i]? = some d → acc.length ≤ i → I i acc → ∃ u, R d u ∧ Turn1 X scope po ifs elt (u (wipeE ρ (own.map (·.2)))) (fun y => I (i + 1) (acc ++ [y])) (I (i + 1) acc)) ∧ ∀ acc, acc.length ≤ ds.length → I ds.length acc → Φ (.list acc))
    {σ : L2.St} {F H : Hp} {Q : VK} (S : Stt po σ F H ρ) (q : ∀ v F' H' d, Φ d → Adv po F H F' H' → Dv F' v d → Q v H') :
    tLc (tiJ X po tg iter) g (ttIfs X scope po ifs) (tbJ X scope po elt) (own.map (·.2)) σ H Q := by
  refine tiJ_of h S fun J F1 H1 ds ⟨I, i0, step, fin⟩ A1 Y => fun D nD => ?_
  have hpD : po ≠ some D := A1.pool.ne nD
  have hF1D : F1 D = none := A1.sub.free nD
  refine ⟨fun i m Hc => m = ds.length - i ∧ i ≤ ds.length ∧ ∃ Fc acc dacc, Adv po F1 H1 Fc Hc ∧ Fc D = none ∧ Hc D = some (.lst acc) ∧ Ds Fc acc dacc ∧ dacc.length ≤ i ∧ I i dacc, ⟨ds.length, by simp, Nat.zero_le _, F1, [], [], (Adv.newO A1.sub nD).up A1.pool, hF1D, upd_same, .nil, Nat.le_refl _, i0⟩, ?_⟩
  rintro i m Hc ⟨rfl, hi, Fc, acc, dacc, Ac, nFc, eD, rd, hl, hI⟩
  by_cases hlt : i < ds.length
  · refine .inr ⟨Y.go i Hc hlt (Ac.frz.trans Ac.sub), fun Hc' => ∃ Fc acc dacc, Adv po F1 H1 Fc Hc' ∧ Fc D = none ∧ Hc' D = some (.lst acc) ∧ Ds Fc acc dacc ∧ dacc.length ≤ i + 1 ∧ I (i + 1) dacc, fun Hc' hN => ⟨ds.length - (i + 1), by omega, rfl, hlt, hN⟩, fun x H' y => ?_⟩
    obtain ⟨F', A2, rx⟩ := Y.yld i Fc Hc x H' ds[i] (by simp [hlt]) Ac.frz Ac.sub y
    have A2' := A2.up Ac.pool
    have hF'D : F' D = none := A2.new D nFc (ne_none_of eD)
    have eD' : H' D = some (.lst acc) := A2.keep D _ (by simp) eD
    obtain ⟨u, hR, hT⟩ := step i ds[i] dacc (by simp [hlt]) hl hI
    refine gd ds[i] u hR x (wipe σ (own.map (·.2))) F' H' _ A2.sub rx ?_
    intro σ' hw hS hSS
    refine ⟨?_, ?_⟩
    · rw [hw]
      generalize own.map (·.2) = vs
      clear hw hS hSS hT hR h step q S gd
      -- wiping twice
      have aux : ∀ (σ : L2.St) (vs ws : List Nat), (∀ v ∈ vs, v ∈ ws) → wipe (wipe σ ws) vs = wipe σ ws := by
        intro σ vs ws
        induction vs with
        | nil => intro _; rfl
        | cons v vs ih =>
          intro hm
          show (wipe (wipe σ ws) vs).set v none = _
          rw [ih fun z hz => hm z (List.mem_cons_of_mem _ hz)]
          apply List.ext_getElem?
          intro k
          by_cases e : v = k
          · subst e
            by_cases l : v < (wipe σ ws).length
            · rw [List.getElem?_set_self l]
              cases q : (wipe σ ws)[v]? with
              | none => rw [List.getElem?_eq_none_iff] at q; omega
              | some o =>
                cases o with
                | none => rfl
                | some x => exact absurd (hm v List.mem_cons_self) (wipe_some q).2
            · rw [List.getElem?_eq_none (by simp; omega), List.getElem?_eq_none (by omega)]
          · rw [List.getElem?_set_ne e]
      exact aux σ vs vs fun _ h => h
    · have S1 : Stt po σ' F' H' (u (wipeE ρ (own.map (·.2)))) := hS po _ ((((S.adv A1).adv Ac).adv A2').wipe _)
      have A3 := Ac.trans A2'
      have yes : ∀ {F3 H3 : Hp}, Adv po F' H' F3 H3 → JB X scope po elt (u (wipeE ρ (own.map (·.2)))) (fun y => I (i + 1) (dacc ++ [y])) → tbJ X scope po elt σ' H3 fun y H4 => ∃ acc, H4 D = some (.lst acc) ∧ acc.length < sizeLine ∧ ∃ Fc acc' dacc, Adv po F1 H1 Fc (upd H4 D (.lst (acc ++ [y]))) ∧ Fc D = none ∧ (upd H4 D (.lst (acc ++ [y]))) D = some (.lst acc') ∧ Ds Fc acc' dacc ∧ dacc.length ≤ i + 1 ∧ I (i + 1) dacc := fun {F3 H3} A4 hj =>
        tbJ_of hj (S1.adv A4) fun v F4 H4 dy hy A5 ry => by
          have hF3D : F3 D = none := A4.new D hF'D (ne_none_of eD')
          have e3 : H3 D = some (.lst acc) := A4.keep D _ hpD eD'
          have e4 : H4 D = some (.lst acc) := A5.keep D _ hpD e3
          have hF4D : F4 D = none := A5.new D hF3D (ne_none_of e3)
          refine ⟨acc, e4, ?_, F4, acc ++ [v], dacc ++ [dy], (A3.trans (A4.trans A5)).mut nD hF4D hpD, hF4D, upd_same, dapp (dmonoA (A2.frz.trans (A4.frz.trans A5.frz)) rd) (.cons ry .nil), by simp; omega, hy⟩
          have := Y.len
          rw [dlen rd]; omega
      match ifs, hT with
      | [], hT =>
        refine ttIfs0 ?_
        dsimp only
        rw [if_pos rfl]
        exact yes (.refl A2.sub A3.pool) hT
      | [c], hT =>
        refine ttIfs1 (tbtJ_of hT S1 fun b F3 H3 hb A4 => ?_)
        cases b with
          | true =>
            dsimp only
            rw [if_pos rfl]
            exact yes A4 (unT hb)
          | false =>
            dsimp only
            rw [if_neg Bool.false_ne_true]
            exact ⟨F3, acc, dacc, A3.trans A4, A4.new D hF'D (ne_none_of eD'), A4.keep D _ hpD eD', dmonoA (A2.frz.trans A4.frz) rd, by omega, unF hb⟩
  · have e : i = ds.length := by omega
    subst e
    exact .inl ⟨Y.stop Hc (Ac.frz.trans Ac.sub), q _ _ _ _ (fin dacc hl hI) (A1.trans (Ac.frzO nD nFc eD hpD)) (new_lst_of nFc rd)⟩
where
  new_lst_of {F : Hp} {p : Addr} {xs : List V} {ds : List Dat} (n : F p = none) (h : Ds F xs ds) : Dv (upd F p (.lst xs)) (.ref p) (.list ds) :=
    .lst upd_same (dmonoA (fun b u e => by rw [upd_ne (ne_of_none e n)]; exact e) h)
theorem pts_J (s : Shared) (H : Hp) (C : Addr) (cl : List (Str × Addr)) (fp : List Addr) : ∀ {ifs : List Expr}, ifs.length ≤ 1 → PTs (X.blk s H scope (compEnvC scope cl C X.env) fp) ifs (ttIfs X scope po ifs)
  | [], _ => pts_nil
  | [c], _ => pts_one (pt_Jb s H C cl fp)
  | _ :: _ :: _, h => by simp at h
theorem JE.lc (hc : X.calm = true) (hN : X.N.Nodup) (ok : BlkOk X.N X.env.scope scope own) (hg : ∀ (s : Shared) (H : Hp) (C : Addr) (cl : List (Str × Addr)) (fp : List Addr), PG (X.blk s H scope (compEnvC scope cl C X.env) fp) tg g) (gd : GD g (own.map (·.2)) R)
    (hif : ifs.length ≤ 1) (h : JI X po tg iter ρ fun ds => ∃ I : Nat → List Dat → Prop, I 0 [] ∧
      (∀ (i : Nat) d acc, ds[i]? = some d → acc.length ≤ i → I i acc → ∃ u, R d u ∧ Turn1 X scope po ifs elt (u (wipeE ρ (own.map (·.2)))) (fun y => I (i + 1) (acc ++ [y])) (I (i + 1) acc)) ∧ ∀ acc, acc.length ≤ ds.length → I ds.length acc → Φ (.list acc))
    (hs : ∀ x, foldedSetIterable iter X.env x = pure x := by intro _; rfl) : JE X po (.ListComp elt [⟨tg, iter, ifs, 0⟩] scope pos) ρ Φ :=
  .of (pe_lc hc hN pi_J ok hg (fun s H C cl fp => pts_J s H C cl fp hif) pe_Jb hs) fun σ F H Q S q => lc_read gd h S q
end
end PD
end

section
set_option Elab.async false
set_option linter.all false
set_option maxRecDepth 100000
set_option maxHeartbeats 4000000
/-! PDf: statements. -/
namespace PD
open PySem PySem.Spec PyProof.Rows L2

/-! ### targets of several names -/
theorem wipe_ext {σ σ' : L2.St} {vs : List Nat} (hl : σ.length = σ'.length) (h : ∀ k, k ∉ vs → σ[k]? = σ'[k]?) : wipe σ vs = wipe σ' vs := by
  have at_ : ∀ (τ : L2.St) (vs : List Nat) (k : Nat), (wipe τ vs)[k]? = if k ∈ vs then (if k < τ.length then some none else none) else τ[k]? := by
    intro τ vs
    induction vs with
    | nil => intro k; simp [wipe]
    | cons v vs ih =>
      intro k
      show ((wipe τ vs).set v none)[k]? = _
      by_cases e : v = k
      · subst e
        by_cases l : v < τ.length
        · rw [List.getElem?_set_self (by rw [wipe_length]; exact l)]
          simp [l]
        · rw [List.getElem?_eq_none (by simp [wipe_length]; omega)]
          simp [l]
      · rw [List.getElem?_set_ne e, ih k]
        have : (k ∈ v :: vs) ↔ k ∈ vs := by simp; exact fun q => absurd q.symm e
        simp [this]
  apply List.ext_getElem?
  intro k
  rw [at_, at_]
  by_cases hk : k ∈ vs
  · simp [hk, hl]
  · simp [hk, h k hk]
def gNames : List Nat → TGs
  | [] => gNil
  | i :: is => gCons (gName i) (gNames is)
def setE (ρ : Env') : List Nat → List Dat → Env'
  | i :: is, d :: ds => setE (ρ.set i (.d d)) is ds
  | _, _ => ρ
def RN (is : List Nat) : Dat → (Env' → Env') → Prop := fun d u => ∃ ds, d = .tuple ds ∧ ds.length = is.length ∧ u = fun ρ => setE ρ is ds
theorem gdNs : ∀ (is : List Nat) (ds : List Dat) (vs : List V) (σ : L2.St) (F H : Hp) (Q : L2.St → Hp → Prop), ds.length = is.length → Ds F vs ds →
    (∀ σ', σ'.length = σ.length → (∀ k, k ∉ is → σ'[k]? = σ[k]?) → (∀ po ρ, Stt po σ F H ρ → Stt po σ' F H (setE ρ is ds)) → (∀ po F0 H0 ρ, SS po F0 H0 σ F H ρ → SS po F0 H0 σ' F H (setE ρ is ds)) → Q σ' H) → gNames is vs σ H Q
  | [], ds, vs, σ, F, H, Q, hl, r, q => by
    cases ds with
    | nil => cases r; exact ⟨rfl, q σ rfl (fun _ _ => rfl) (fun _ _ S => S) fun _ _ _ _ S => S⟩
    | cons _ _ => simp at hl
  | i :: is, ds, vs, σ, F, H, Q, hl, r, q => by
    cases r with
    | nil => simp at hl
    | @cons v vs d ds r rr =>
      refine ⟨v, vs, rfl, gdNs is ds vs _ F H Q (by simpa using hl) rr fun σ' h1 h2 h3 h4 => q σ' (by simpa using h1) (fun k hk => ?_) (fun po ρ S => h3 po _ (S.set r)) fun po F0 H0 ρ S => h4 po F0 H0 _ (S.set r)⟩
      simp only [List.mem_cons, not_or] at hk
      rw [h2 k hk.2, List.getElem?_set_ne (fun e => hk.1 e.symm)]
theorem gdN {K : Frag} (is : List Nat) (n : Nat) (hn : n = is.length) : GD (gTup K n (gNames is)) is (RN is) := fun d u hu v σ F H Q s r q => by
  obtain ⟨ds, rfl, hl, rfl⟩ := hu
  obtain ⟨l, xs, rfl, h1, rd⟩ := dp_tup r
  exact ⟨l, xs, rfl, .inl (.inl (s _ _ h1)), by rw [dlen rd, hl, hn], gdNs is ds xs σ F H Q hl rd fun σ' a b c e => q σ' (wipe_ext a b) c e⟩

section
variable {X : Cx} {po : Option Addr} {a b c e tg iter : Expr} {es : List Expr} {st : Stmt} {body rest th el : List Stmt} {ρ : Env'} {P : Post} {g : TG} {R : Dat → (Env' → Env') → Prop} {vs : List Nat} {pos pos' p : Pos} {x : Str}
theorem JSs.of {sts : List Stmt} {t : TS} (h : PSs X sts t) (hw : ∀ σ F0 H0 F H (D : Ends), SS po F0 H0 σ F H ρ → Lk po F0 H0 P D → t D σ H) : JSs X po sts ρ P :=
  fun pins s σ F0 H0 F H D I S k => h.run pins s σ H D I (hw σ F0 H0 F H D S k)
def tstJ (X : Cx) (po : Option Addr) (st : Stmt) : TS := fun D σ H => ∃ F0 H0 F ρ P, JS X po st ρ P ∧ SS po F0 H0 σ F H ρ ∧ Lk po F0 H0 P D
theorem ps_J : PS X st (tstJ X po st) := ⟨fun pins s σ H D I ⟨F0, H0, F, ρ, P, j, S, k⟩ => j pins s σ F0 H0 F H D I S k⟩
theorem tstJ_of {σ : L2.St} {F0 H0 F H : Hp} {D : Ends} (h : JS X po st ρ P) (S : SS po F0 H0 σ F H ρ) (k : Lk po F0 H0 P D) : tstJ X po st D σ H := ⟨F0, H0, F, ρ, P, h, S, k⟩
theorem tsJ_of {σ : L2.St} {F0 H0 F H : Hp} {D : Ends} (h : JSs X po body ρ P) (S : SS po F0 H0 σ F H ρ) (k : Lk po F0 H0 P D) : tsJ X po body D σ H := ⟨F0, H0, F, ρ, P, h, S, k⟩
theorem JSs.nil (k : P.nx ρ) : JSs X po [] ρ P := .of pss_nil fun σ F0 H0 F H D S l => l.nx σ F H ρ k S
theorem JSs.one (h : JS X po st ρ P) : JSs X po [st] ρ P := .of (pss_one ps_J) fun σ F0 H0 F H D S l => tstJ_of h S l
theorem JSs.cons (h : JS X po st ρ { P with nx := fun ρ' => JSs X po rest ρ' P }) : JSs X po (st :: rest) ρ P :=
  .of (pss_cons ps_J (pss_J (po := po))) fun σ F0 H0 F H D S l => tstJ_of h S ⟨fun σ' F' H' ρ' j S' => tsJ_of j S' l, l.rt, l.bk, l.ct⟩
theorem JS.set (i : Nat) (nd : X.N.Nodup) (h : JE X po e ρ fun d => P.nx (ρ.set i (.d d))) (hi : X.N[i]? = some x := by rfl) (hx : Loc X.env.scope x := by first | exact Or.inl rfl | exact Or.inr rfl) (hs : swapsWith e (some (.Name x pos')) pos.line X.env = pure false := by rfl)
    (hf : X.fn x = true ∨ X.env.scope.names.lookup x = some .local := by first | exact .inl rfl | exact .inr rfl) : JS X po (.Assign [.Name x pos'] e pos) ρ P :=
  .of (ps_set nd hi hx pe_J hs hf) fun σ F0 H0 F H D S l => tJ_of h S.st fun v F' H' d k A r => l.nx _ _ _ _ k ((S.advd A).set r)
theorem JS.ret (h : JE X po e ρ P.rt) : JS X po (.Return (some e) pos) ρ P :=
  .of (ps_ret pe_J) fun σ F0 H0 F H D S l => tJ_of h S.st fun v F' H' d k A r => l.rt v F' H' d k (S.adv.trans A) r
theorem JS.retN (h : P.rt .none) : JS X po (.Return none pos) ρ P :=
  .of ps_retN fun σ F0 H0 F H D S l => l.rt _ F H _ h S.adv .non
theorem JS.pass (h : P.nx ρ) : JS X po (.Pass pos) ρ P := .of ps_pass fun σ F0 H0 F H D S l => l.nx _ _ _ _ h S
theorem JS.brk (h : P.bk ρ) : JS X po (.Break pos) ρ P := .of ps_break fun σ F0 H0 F H D S l => l.bk _ _ _ _ h S
theorem JS.cont (h : P.ct ρ) : JS X po (.Continue pos) ρ P := .of ps_continue fun σ F0 H0 F H D S l => l.ct _ _ _ _ h S
theorem JS.ite (h : JT X po c ρ fun b => if b = true then JSs X po th ρ P else JSs X po el ρ P) : JS X po (.If c th el pos) ρ P :=
  .of (ps_if pt_J (pss_J (po := po)) (pss_J (po := po))) fun σ F0 H0 F H D S l => ttJ_of h S.st fun b F' H' k A => by
    cases b with
    | true => exact iteT (tsJ_of (unT k) (S.advd A) l)
    | false => exact iteF (tsJ_of (unF k) (S.advd A) l)
theorem JS.asg (hg : PG X tg g) (gd : GD g vs R) (h : JE X po e ρ fun d => ∃ u, R d u ∧ P.nx (u ρ)) (hs : swapsWithSole [tg] e pos.line X.env = pure false := by rfl) (hw : swappedStores [tg] e X.env = pure none := by rfl)
    (h1 : (assignEach [tg] X.env).map (·.2) = [assign tg X.env] := by rfl) : JS X po (.Assign [tg] e pos) ρ P :=
  .of (ps_asg pe_J hg hs hw h1) fun σ F0 H0 F H D S l => tJ_of h S.st fun v F' H' d ⟨u, hu, k⟩ A r => gd d u hu v σ F' H' _ A.sub r fun σ' _ _ hS => l.nx _ _ _ _ k (hS _ _ _ _ (S.advd A))
theorem JS.par (i j : Nat) {y : Str} {px py pt : Pos} {kt k2 pt2} (hc : X.calm = true) (nd : X.N.Nodup) (hij : i ≠ j) (h : JA X po [a, b] ρ fun ds => ∃ d d', ds = [d, d'] ∧ P.nx ((ρ.set i (.d d)).set j (.d d')))
    (hi : X.N[i]? = some x := by rfl) (hj : X.N[j]? = some y := by rfl) (hx : X.env.scope.names.lookup x = some .local := by rfl) (hy : X.env.scope.names.lookup y = some .local := by rfl)
    (hw : swappedStores [.Tuple [.Name x px, .Name y py] kt pt] (.Tuple [a, b] k2 pt2) X.env = pure (some [x, y]) := by rfl) (hs : swapsWithSole [.Tuple [.Name x px, .Name y py] kt pt] (.Tuple [a, b] k2 pt2) pos.line X.env = pure false := by rfl) :
    JS X po (.Assign [.Tuple [.Name x px, .Name y py] kt pt] (.Tuple [a, b] k2 pt2) pos) ρ P :=
  .of (ps_par hc nd hi hj hij hx hy pa_J hw hs) fun σ F0 H0 F H D S l => taJ_of h S.st fun vs F' H' ds ⟨d, d', hd, k⟩ A r => by
    subst hd
    obtain ⟨v, v', rfl, r1, r2⟩ := ds2 r
    exact ⟨v, v', rfl, l.nx _ _ _ _ k (((S.advd A).set r1).set r2)⟩

/-! ### loops -/
theorem Adv.base {po : Option Addr} {F0 H0 F1 H1 F H : Hp} (A : Adv po F0 H0 F1 H1) (B : Adv po F1 H0 F H) : Adv po F0 H0 F H :=
  ⟨B.keep, A.frz.trans B.frz, B.sub, fun b h1 h2 => B.new b (A.new b h1 h2) h2, B.pool⟩
theorem SS.rebase {po : Option Addr} {F0 H0 : Hp} {σ : L2.St} {F H : Hp} {ρ : Env'} (S : SS po F0 H0 σ F H ρ) : SS po F H0 σ F H ρ :=
  ⟨S.st, ⟨S.adv.keep, Same.refl _, S.adv.sub, fun b h _ => h, S.adv.pool⟩, S.own⟩
theorem SS.unbase {po : Option Addr} {F0 H0 F1 H1 : Hp} {σ : L2.St} {F H : Hp} {ρ : Env'} (A : Adv po F0 H0 F1 H1) (S : SS po F1 H0 σ F H ρ) : SS po F0 H0 σ F H ρ := ⟨S.st, A.base S.adv, S.own⟩
theorem JS.for_ (hp : PassesOwn (model X.prog X.w) X.A X.env X.xe) (hc : X.calm = true) (hg : PG X tg g) (gd : GD g vs R) (h : JI X po tg iter ρ fun ds => ∃ I : Nat → Env' → Prop, I 0 ρ ∧
      (∀ (i : Nat) d ρ', ds[i]? = some d → I i ρ' → ∃ u, R d u ∧ JSs X po body (u ρ') { nx := I (i + 1), rt := P.rt, bk := P.nx, ct := I (i + 1) }) ∧ ∀ ρ', I ds.length ρ' → P.nx ρ')
    (hs : ∀ x, foldedSetIterable iter X.env x = pure x := by intro _; rfl) : JS X po (.For tg iter body [] pos) ρ P :=
  .of (ps_for hp hc pi_J hg (pss_J (po := po)) hs) fun σ F0 H0 F H D S l => tiJ_of h S.st fun J F1 H1 ds ⟨I, i0, step, fin⟩ A Y => by
    have S1 := S.advd A
    refine ⟨fun i m σ H => m = ds.length - i ∧ i ≤ ds.length ∧ ∃ ρ F, I i ρ ∧ SS po F1 H0 σ F H ρ, ⟨ds.length, by simp, Nat.zero_le _, ρ, F1, i0, S1.rebase⟩, ?_⟩
    rintro i m σ' H' ⟨rfl, hi, ρ', F', hI, S'⟩
    by_cases hlt : i < ds.length
    · refine .inr ⟨Y.go i H' hlt (S'.adv.frz.trans S'.adv.sub), fun σ2 H2 => ∃ ρ F, I (i + 1) ρ ∧ SS po F1 H0 σ2 F H2 ρ, fun σ2 H2 hN => ⟨ds.length - (i + 1), by omega, rfl, hlt, hN⟩, fun x H2 y => ?_⟩
      obtain ⟨F2, A2, rx⟩ := Y.yld i F' H' x H2 ds[i] (by simp [hlt]) S'.adv.frz S'.adv.sub y
      obtain ⟨u, hu, hb⟩ := step i ds[i] ρ' (by simp [hlt]) hI
      refine gd _ u hu x σ' F2 H2 _ A2.sub rx ?_
      intro σ3 _ _ hS
      refine tsJ_of hb (hS _ _ _ _ (S'.advd (A2.up S'.adv.pool))) ⟨fun σ4 F4 H4 ρ4 k4 S4 => ⟨ρ4, F4, k4, S4⟩, fun v F4 H4 d k4 A4 r4 => ?_, fun σ4 F4 H4 ρ4 k4 S4 => ?_, fun σ4 F4 H4 ρ4 k4 S4 => ⟨ρ4, F4, k4, S4⟩⟩
      · exact l.rt v F4 H4 d k4 (S1.adv.base A4) r4
      · exact l.nx _ _ _ _ k4 (SS.unbase S1.adv S4)
    · have e : i = ds.length := by omega
      subst e
      exact .inl ⟨Y.stop H' (S'.adv.frz.trans S'.adv.sub), l.nx _ _ _ _ (fin _ hI) (SS.unbase S1.adv S')⟩
theorem JS.while_ (hp : PassesOwn (model X.prog X.w) X.A X.env X.xe) (I : Env' → Prop) (μ : Env' → Nat) (i0 : I ρ)
    (h : ∀ ρ', I ρ' → JT X po c ρ' fun b => if b = true then JSs X po body ρ' { nx := fun r => I r ∧ μ r < μ ρ', rt := P.rt, bk := P.nx, ct := fun r => I r ∧ μ r < μ ρ' } else P.nx ρ') : JS X po (.While c body [] pos) ρ P :=
  .of (ps_while hp pt_J (pss_J (po := po))) fun σ F0 H0 F H D S l => by
    refine ⟨fun m σ H => ∃ ρ F, m = μ ρ ∧ I ρ ∧ SS po F0 H0 σ F H ρ, ⟨_, ρ, F, rfl, i0, S⟩, ?_⟩
    rintro m σ' H' ⟨ρ', F', rfl, hI, S'⟩
    refine ttJ_of (h ρ' hI) S'.st fun b F1 H1 k A => ?_
    cases b with
    | true =>
      refine iteT ⟨fun σ2 H2 => ∃ ρ2 F2, (I ρ2 ∧ μ ρ2 < μ ρ') ∧ SS po F0 H0 σ2 F2 H2 ρ2, fun σ2 H2 ⟨ρ2, F2, ⟨k1, k2⟩, S2⟩ => ⟨μ ρ2, k2, ρ2, F2, rfl, k1, S2⟩, ?_⟩
      exact tsJ_of (unT k) (S'.advd A) ⟨fun σ4 F4 H4 ρ4 k4 S4 => ⟨ρ4, F4, k4, S4⟩, l.rt, l.nx, fun σ4 F4 H4 ρ4 k4 S4 => ⟨ρ4, F4, k4, S4⟩⟩
    | false => exact iteF (l.nx _ _ _ _ (unF k) (S'.advd A))

/-! ### lists that are still changed -/
def frzS : Sl → Sl
  | .own ds => .d (.list ds)
  | s => s
def frzE (ρ : Env') : Env' := ρ.map frzS
open Classical in
/-- all owned lists of the slots, as they stand in H, put into F -/
noncomputable def frzH (σ : L2.St) (ρ : Env') (F H : Hp) : Hp := fun b => if (∃ (i : Nat) (ds : List Dat), ρ[i]? = some (.own ds) ∧ σ[i]? = some (some (.ref b))) then H b else F b
theorem frzH_own {po : Option Addr} {σ : L2.St} {F H : Hp} {ρ : Env'} {i : Nat} {ds : List Dat} {b : Addr} (h1 : ρ[i]? = some (.own ds)) (h2 : σ[i]? = some (some (.ref b))) : frzH σ ρ F H b = H b := by
  unfold frzH
  rw [if_pos ⟨i, ds, h1, h2⟩]
theorem frzH_same {po : Option Addr} {σ : L2.St} {F H : Hp} {ρ : Env'} (S : Stt po σ F H ρ) : Same F (frzH σ ρ F H) := fun b o e => by
  unfold frzH
  split
  · exact S.sub b o e
  · exact e
theorem frzH_sub {po : Option Addr} {σ : L2.St} {F H : Hp} {ρ : Env'} (S : Stt po σ F H ρ) : Same (frzH σ ρ F H) H := fun b o e => by
  unfold frzH at e
  split at e
  · exact e
  · exact S.sub b o e
theorem frzH_none {po : Option Addr} {σ : L2.St} {F H : Hp} {ρ : Env'} {b : Addr} (S : Stt po σ F H ρ) (h : F b = none) (h2 : ∀ (i : Nat) ds, ρ[i]? = some (.own ds) → σ[i]? ≠ some (some (.ref b))) : frzH σ ρ F H b = none := by
  unfold frzH
  split
  · rename_i q
    obtain ⟨i, ds, q1, q2⟩ := q
    exact absurd q2 (h2 i ds q1)
  · exact h
theorem Stt.notPool {po : Option Addr} {σ : L2.St} {F H : Hp} {ρ : Env'} (S : Stt po σ F H ρ) {i : Nat} {ds : List Dat} {b : Addr} (h1 : ρ[i]? = some (.own ds)) (h2 : σ[i]? = some (some (.ref b))) : po ≠ some b := by
  obtain ⟨a, vs, e, _, n, _⟩ := S.owned h1
  rw [h2] at e; cases e
  exact n
theorem Stt.frz {po : Option Addr} {σ : L2.St} {F H : Hp} {ρ : Env'} (S : Stt po σ F H ρ) : Stt po σ (frzH σ ρ F H) H (frzE ρ) where
  len := by simp [frzE, S.len]
  sl := fun i s h => by
    unfold frzE at h
    rw [List.getElem?_map] at h
    cases q : ρ[i]? with
    | none => rw [q] at h; cases h
    | some s0 =>
      rw [q] at h
      have h := Option.some.inj h
      obtain ⟨o, e, k⟩ := S.sl i s0 q
      refine ⟨o, e, ?_⟩
      subst h
      cases s0 with
      | x => cases o <;> exact trivial
      | d d =>
        cases o with
        | none => exact k.elim
        | some v => exact dmono (frzH_same S) k
      | own ds =>
        cases o with
        | none => exact k.elim
        | some v =>
          obtain ⟨a, vs, rfl, _, _, hH, r⟩ := k
          exact .lst ((frzH_own (po := po) q e).trans hH) (dmonoA (frzH_same S) r)
      | pool =>
        cases o with
        | none => exact k.elim
        | some v => exact k
  sep := fun i j a ds es h1 h2 h3 h4 => by
    unfold frzE at h1
    rw [List.getElem?_map] at h1
    cases q : ρ[i]? with
    | none => rw [q] at h1; cases h1
    | some s0 => rw [q] at h1; cases s0 <;> cases h1
  sub := frzH_sub S
  pool := fun b hb => by
    obtain ⟨f, c, cs, i, d, m, h, hc, r⟩ := S.pool b hb
    exact ⟨frzH_none S f fun i ds h1 h2 => S.notPool h1 h2 hb, c, cs, i, d, m, h, frzH_same S _ _ hc, r⟩
theorem SS.frz {po : Option Addr} {F0 H0 : Hp} {σ : L2.St} {F H : Hp} {ρ : Env'} (S : SS po F0 H0 σ F H ρ) : SS po F0 H0 σ (frzH σ ρ F H) H (frzE ρ) :=
  ⟨S.st.frz, ⟨S.adv.keep, S.adv.frz.trans (frzH_same S.st), frzH_sub S.st, fun b h1 h2 => frzH_none S.st (S.adv.new b h1 h2) fun i ds q1 q2 => h2 (S.own i ds b q1 q2), S.st.frz.pool⟩, fun i ds a h1 _ => by
    unfold frzE at h1
    rw [List.getElem?_map] at h1
    cases q : ρ[i]? with
    | none => rw [q] at h1; cases h1
    | some s0 => rw [q] at h1; cases s0 <;> cases h1⟩
/-- from here on no owned list is changed -/
theorem JSs.freeze (h : JSs X po body (frzE ρ) P) : JSs X po body ρ P := fun pins s σ F0 H0 F H D I S l => h pins s σ F0 H0 _ H D I S.frz l
theorem JS.freeze (h : JS X po st (frzE ρ) P) : JS X po st ρ P := fun pins s σ F0 H0 F H D I S l => h pins s σ F0 H0 _ H D I S.frz l
/-- flat data -/
def flat : Dat → Bool
  | .list _ => false
  | .tuple _ => false
  | .dict _ => false
  | _ => true
theorem flat_dv {H H' : Hp} {v : V} {d : Dat} (f : flat d = true) (h : Dv H v d) : Dv H' v d := by
  cases h with
  | non => exact .non
  | bl b => exact .bl b
  | int i => exact .int i
  | str x => exact .str x
  | lst _ _ => cases f
  | tup _ _ => cases f
def looS : Sl → Sl
  | .own ds => .d (.list ds)
  | .pool => .x
  | s => s
def looE (ρ : Env') : Env' := ρ.map looS
theorem Stt.loo {po : Option Addr} {σ : L2.St} {F H : Hp} {ρ : Env'} (S : Stt po σ F H ρ) : Stt none σ (frzH σ ρ F H) H (looE ρ) where
  len := by simp [looE, S.len]
  sl := fun i s h => by
    unfold looE at h
    rw [List.getElem?_map] at h
    cases q : ρ[i]? with
    | none => rw [q] at h; cases h
    | some s0 =>
      rw [q] at h
      have h := Option.some.inj h
      obtain ⟨o, e, k⟩ := S.sl i s0 q
      refine ⟨o, e, ?_⟩
      subst h
      cases s0 with
      | x => cases o <;> exact trivial
      | d d =>
        cases o with
        | none => exact k.elim
        | some v => exact dmono (frzH_same S) k
      | own ds =>
        cases o with
        | none => exact k.elim
        | some v =>
          obtain ⟨a, vs, rfl, _, _, hH, r⟩ := k
          exact .lst ((frzH_own (po := po) q e).trans hH) (dmonoA (frzH_same S) r)
      | pool => cases o <;> exact trivial
  sep := fun i j a ds es h1 h2 h3 h4 => by
    unfold looE at h1
    rw [List.getElem?_map] at h1
    cases q : ρ[i]? with
    | none => rw [q] at h1; cases h1
    | some s0 => rw [q] at h1; cases s0 <;> cases h1
  sub := frzH_sub S
  pool := fun _ h => by cases h
theorem Adv.unloo {po : Option Addr} {σ : L2.St} {F H : Hp} {ρ : Env'} (S : Stt po σ F H ρ) {F' H' : Hp} (A : Adv none (frzH σ ρ F H) H F' H') : Adv po F H F H' where
  keep := fun b o _ h => A.keep b o (fun z => by cases z) h
  frz := Same.refl F
  sub := fun b o h => A.sub b o (A.frz b o (frzH_same S b o h))
  new := fun b h _ => h
  pool := fun b hb => by
    obtain ⟨f, c, cs, i, d, m, h, r⟩ := S.pool b hb
    exact ⟨f, c, cs, i, d, m, A.keep b _ (fun z => by cases z) h, r⟩
/-- an expression that reads owned lists and hands back flat data -/
theorem JE.flat {Φ : Dat → Prop} (h : JE X none e (looE ρ) fun d => flat d = true ∧ Φ d) : JE X po e ρ Φ := fun pins s σ F H Q I S k =>
  h pins s σ _ H Q I S.loo fun v F' H' d ⟨f, p⟩ A r => k v F H' d p (Adv.unloo S A) (flat_dv f r)
theorem JT.flat {Φ : Bool → Prop} (h : JT X none e (looE ρ) Φ) : JT X po e ρ Φ := fun pins s σ F H Q I S k =>
  h pins s σ _ H Q I S.loo fun b F' H' p A => k b F H' p (Adv.unloo S A)
end
end PD
end

section
set_option Elab.async false
set_option linter.all false
set_option maxRecDepth 100000
set_option maxHeartbeats 4000000
/-! PDg: owned lists, the pool, defs. -/
namespace PD
open PySem PySem.Spec PyProof.Rows L2

theorem set_own' {ρ : Env'} {i m : Nat} {es ds : List Dat} (h : (ρ.set i (.own es))[m]? = some (.own ds)) : (i = m ∧ ds = es ∧ i < ρ.length) ∨ (i ≠ m ∧ ρ[m]? = some (.own ds)) := by
  by_cases e : i = m
  · subst e
    by_cases l : i < ρ.length
    · rw [List.getElem?_set_self l] at h; cases h
      exact .inl ⟨rfl, rfl, l⟩
    · rw [List.getElem?_eq_none (by simp; omega)] at h; cases h
  · rw [List.getElem?_set_ne e] at h
    exact .inr ⟨e, h⟩
/-- an owned list is rewritten -/
theorem SS.updO {po : Option Addr} {F0 H0 : Hp} {σ : L2.St} {F H : Hp} {ρ : Env'} (S : SS po F0 H0 σ F H ρ) {i : Nat} {ds es : List Dat} {l : Addr} {ws : List V} (h1 : ρ[i]? = some (.own ds)) (h2 : σ[i]? = some (some (.ref l))) (r : Ds F ws es) :
    SS po F0 H0 σ F (upd H l (.lst ws)) (ρ.set i (.own es)) := by
  obtain ⟨a, vs, e, fa, np, hH, rd⟩ := S.st.owned h1
  rw [h2] at e; cases e
  have hi : i < ρ.length := (List.getElem?_eq_some_iff.mp h1).1
  have l0 := S.own i ds l h1 h2
  have sb : Same F (L2.upd H l (.lst ws)) := fun b o q => by rw [upd_ne (ne_of_none q fa)]; exact S.st.sub b o q
  have pl : PoolOk po F (L2.upd H l (.lst ws)) := (S.adv.mut l0 fa np).pool
  refine ⟨⟨by simp [S.st.len], fun j s h => ?_, fun j k a ds' es' q1 q2 q3 q4 => ?_, sb, pl⟩, S.adv.mut l0 fa np, fun j ds' a q1 q2 => ?_⟩
  · by_cases e : i = j
    · subst e
      rw [List.getElem?_set_self hi] at h; cases h
      exact ⟨_, h2, l, ws, rfl, fa, np, upd_same, r⟩
    · rw [List.getElem?_set_ne e] at h
      obtain ⟨o, q, k⟩ := S.st.sl j s h
      refine ⟨o, q, ?_⟩
      cases s with
      | x => cases o <;> exact trivial
      | d d => cases o with
        | none => exact k.elim
        | some v => exact k
      | own ds' => cases o with
        | none => exact k.elim
        | some v =>
          obtain ⟨b, vs', rfl, f', n', hb, r'⟩ := k
          have nb : b ≠ l := fun z => e (S.st.sep i j l ds ds' h1 h h2 (by rw [q, z]))
          exact ⟨b, vs', rfl, f', n', by rw [upd_ne nb]; exact hb, r'⟩
      | pool => cases o with
        | none => exact k.elim
        | some v => exact k
  · rcases set_own' q1 with ⟨e1, _, _⟩ | ⟨e1, w1⟩
    · rcases set_own' q2 with ⟨e2, _, _⟩ | ⟨e2, w2⟩
      · exact e1.symm.trans e2
      · subst e1; exact S.st.sep i k a ds es' h1 w2 q3 q4
    · rcases set_own' q2 with ⟨e2, _, _⟩ | ⟨e2, w2⟩
      · subst e2; exact S.st.sep j i a ds' ds w1 h1 q3 q4
      · exact S.st.sep j k a ds' es' w1 w2 q3 q4
  · rcases set_own' q1 with ⟨e1, _, _⟩ | ⟨e1, w1⟩
    · subst e1; exact S.own i ds a h1 q2
    · exact S.own j ds' a w1 q2
/-- a slot takes a new list of its own -/
theorem SS.setOwn {po : Option Addr} {F0 H0 : Hp} {σ : L2.St} {F H : Hp} {ρ : Env'} (S : SS po F0 H0 σ F H ρ) {i : Nat} {es : List Dat} {l : Addr} {ws : List V} (n : H l = none) (r : Ds F ws es) :
    SS po F0 H0 (σ.set i (some (.ref l))) F (upd H l (.lst ws)) (ρ.set i (.own es)) := by
  have A : Adv po F H F (L2.upd H l (.lst ws)) := (Adv.newO S.st.sub n).up S.st.pool
  have S1 := S.advd A
  have fl : F l = none := S.st.sub.free n
  have h0 : H0 l = none := by
    cases q : H0 l with
    | none => rfl
    | some o =>
      by_cases hp : po = some l
      · exact absurd hp (S.st.pool.ne n)
      · rw [S.adv.keep l o hp q] at n; cases n
  have old : ∀ {j : Nat} {ds : List Dat}, ρ[j]? = some (.own ds) → σ[j]? ≠ some (some (.ref l)) := fun {j ds} q z => by
    obtain ⟨a, vs, e, _, _, hH, _⟩ := S.st.owned q
    rw [z] at e; cases e
    rw [n] at hH; cases hH
  refine ⟨⟨by simp [S.st.len], fun j s h => ?_, fun j k a ds' es' q1 q2 q3 q4 => ?_, S1.st.sub, S1.st.pool⟩, S1.adv, fun j ds' a q1 q2 => ?_⟩
  · by_cases e : i = j
    · subst e
      by_cases hi : i < ρ.length
      · rw [List.getElem?_set_self hi] at h; cases h
        exact ⟨_, List.getElem?_set_self (by rw [S.st.len]; exact hi), l, ws, rfl, fl, S.st.pool.ne n, upd_same, r⟩
      · rw [List.getElem?_eq_none (by simp; omega)] at h; cases h
    · rw [List.getElem?_set_ne e] at h ⊢
      exact S1.st.sl j s h
  · rcases set_own' q1 with ⟨e1, _, l1⟩ | ⟨e1, w1⟩
    · rcases set_own' q2 with ⟨e2, _, _⟩ | ⟨e2, w2⟩
      · exact e1.symm.trans e2
      · subst e1
        rw [List.getElem?_set_self (by rw [S.st.len]; exact l1)] at q3; cases q3
        rw [List.getElem?_set_ne e2] at q4
        exact absurd q4 (old w2)
    · rcases set_own' q2 with ⟨e2, _, l2⟩ | ⟨e2, w2⟩
      · subst e2
        rw [List.getElem?_set_self (by rw [S.st.len]; exact l2)] at q4; cases q4
        rw [List.getElem?_set_ne e1] at q3
        exact absurd q3 (old w1)
      · rw [List.getElem?_set_ne e1] at q3
        rw [List.getElem?_set_ne e2] at q4
        exact S.st.sep j k a ds' es' w1 w2 q3 q4
  · rcases set_own' q1 with ⟨e1, _, l1⟩ | ⟨e1, w1⟩
    · subst e1
      rw [List.getElem?_set_self (by rw [S.st.len]; exact l1)] at q2; cases q2
      exact h0
    · rw [List.getElem?_set_ne e1] at q2
      exact S.own j ds' a w1 q2

section
variable {X : Cx} {po : Option Addr} {a b c e tg iter : Expr} {es : List Expr} {st : Stmt} {body rest th el : List Stmt} {ρ : Env'} {P : Post} {pos pos' p : Pos} {x : Str}
/-- an expression that makes a new list -/
def JF (X : Cx) (po : Option Addr) (e : Expr) (ρ : Env') (Ψ : List Dat → Prop) : Prop :=
  ∀ (pins : List (Addr × Obj)) (s : Shared) (σ : L2.St) (F H : Hp) (Q : VK), Inv X pins σ H s → Stt po σ F H ρ →
    (∀ l F' H' ws ds, Ψ ds → Adv po F H F' H' → Ds F' ws ds → H' l = none → Q (.ref l) (upd H' l (.lst ws))) → wpAny (model X.prog X.w) X.A (eval e X.env) (EP X pins σ Q) X.xe s
def tfJ (X : Cx) (po : Option Addr) (e : Expr) : TE := fun σ H Q => ∃ F ρ Ψ, JF X po e ρ Ψ ∧ Stt po σ F H ρ ∧ ∀ l F' H' ws ds, Ψ ds → Adv po F H F' H' → Ds F' ws ds → H' l = none → Q (.ref l) (upd H' l (.lst ws))
theorem pe_Jf : PE X e (tfJ X po e) := ⟨fun pins s σ H Q I ⟨F, ρ, Ψ, j, S, k⟩ => j pins s σ F H Q I S k⟩
theorem JF.of {t : TE} {Ψ : List Dat → Prop} (h : PE X e t) (hw : ∀ σ F H (Q : VK), Stt po σ F H ρ → (∀ l F' H' ws ds, Ψ ds → Adv po F H F' H' → Ds F' ws ds → H' l = none → Q (.ref l) (upd H' l (.lst ws))) → t σ H Q) : JF X po e ρ Ψ :=
  fun pins s σ F H Q I S k => h.run pins s σ H Q I (hw σ F H Q S k)
theorem JF.lst {Ψ : List Dat → Prop} (h : JA X po es ρ fun ds => ds.length ≤ sizeLine ∧ Ψ ds) : JF X po (.List es pos) ρ Ψ :=
  .of (pe_lst pa_J) fun σ F H Q S q => taJ_of h S fun vs F1 H1 ds ⟨z, k⟩ A1 r => ⟨by rw [dlen r]; exact z, fun p n => q _ _ _ _ _ k A1 r n⟩
/-- [..] * n -/
theorem JF.rep {Ψ : List Dat → Prop} (h : JE X po a ρ fun d => JE X po b ρ fun d' => ∃ xs n, d = .list xs ∧ d' = .int n ∧ -(2 ^ 63) ≤ n ∧ n < 2 ^ 63 ∧ xs.length * n.toNat ≤ sizeLine ∧ Ψ (List.replicate n.toNat xs).flatten) : JF X po (.BinOp a .Mult b pos) ρ Ψ :=
  .of (pe_op op_rep pe_J pe_J) fun σ F H Q S q => tJ_of h S fun v F1 H1 d j A1 r => tJ_of j (S.adv A1) fun v' F2 H2 d' ⟨xs, n, hd, hd', h1, h2, hz, k⟩ A2 r' => by
    subst hd hd'
    obtain ⟨l, vs, rfl, e1, r1⟩ := dp_list r
    exact ⟨l, n, vs, rfl, dp_int r', A2.sub _ _ (A2.frz _ _ e1), h1, h2, by rw [dlen r1]; exact hz, fun m nm => q _ _ _ _ _ k (A1.trans A2) (drep (dmonoA A2.frz r1) _) nm⟩
/-- list(range(n)) .. and any other fresh list by its data: list(l) -/
theorem JF.listOf {Ψ : List Dat → Prop} (hg : Gl X "list") (hm : X.mg "list" = none) (h : JA X po [e] ρ fun ds => ∃ xs, (ds = [.list xs] ∨ ds = [.tuple xs]) ∧ Ψ xs)
    (he : starEach [e] X.env = (false, eval e X.env) :: starEach [] X.env := by rfl) (hpl : (backTo pos (starEach [] X.env)).any (·.1) = false := by rfl) : JF X po (.Call (.Name "list" p) [e] [] pos) ρ Ψ :=
  .of (pe_callTy (call_list_of (X := X)) hg hm (by decide +kernel) (pa_J (po := po)) (by decide) (by decide) he hpl) fun σ F H Q S q => taJ_of h S fun vs F1 H1 ds ⟨xs, hd, k⟩ A1 r => by
    rcases hd with rfl | rfl
    · obtain ⟨v, rfl, r'⟩ := ds1 r
      obtain ⟨l, ys, rfl, h1, r1⟩ := dp_list r'
      exact ⟨l, ys, rfl, .inl (.inl (.inl (A1.sub _ _ h1))), fun m n => q _ _ _ _ _ k A1 r1 n⟩
    · obtain ⟨v, rfl, r'⟩ := ds1 r
      obtain ⟨l, ys, rfl, h1, r1⟩ := dp_tup r'
      exact ⟨l, ys, rfl, .inr (.inl (.inl (A1.sub _ _ h1))), fun m n => q _ _ _ _ _ k A1 r1 n⟩
theorem JS.setF (i : Nat) (nd : X.N.Nodup) (h : JF X po e ρ fun ds => P.nx (ρ.set i (.own ds))) (hi : X.N[i]? = some x := by rfl) (hx : Loc X.env.scope x := by first | exact Or.inl rfl | exact Or.inr rfl) (hs : swapsWith e (some (.Name x pos')) pos.line X.env = pure false := by rfl)
    (hf : X.fn x = true ∨ X.env.scope.names.lookup x = some .local := by first | exact .inl rfl | exact .inr rfl) : JS X po (.Assign [.Name x pos'] e pos) ρ P :=
  .of (ps_set nd hi hx (pe_Jf (po := po)) hs hf) fun σ F0 H0 F H D S l => ⟨F, ρ, _, h, S.st, fun m F' H' ws ds k A r n => l.nx _ _ _ _ k ((S.advd A).setOwn n r)⟩
/-- name.append(e) -/
theorem JS.append (i : Nat) {ds : List Dat} {apos cpos npos : Pos} (ho : ρ[i]? = some (.own ds)) (hz : ds.length < sizeLine) (h : JE X po e ρ fun d => P.nx (ρ.set i (.own (ds ++ [d])))) (hN : X.N[i]? = some x := by rfl) (hv : Vis X.env.scope x := by first | exact Or.inl rfl | exact Or.inr (Or.inl rfl) | exact Or.inr (Or.inr rfl))
    (hd : (x == ("__debug__" : Str)) = false := by decide) (hcd : (x == ("__classdict__" : Str)) = false := by decide)
    (hbase : attributeBase (.Name x npos) "append" X.env (eval (.Name x npos) X.env) = eval (.Name x npos) X.env := by rfl)
    (hfew : ((backTo cpos (starEach [e] X.env)).all (fun x => !x.1) && (backToKw cpos (keywordEach [] X.env)).all (fun x => x.1.isSome)
      && decide ([e].length + ([] : List Keyword).length + (if ([] : List Keyword).isEmpty then 0 else 1) < 30)) = true := by rfl)
    (hline : (apos.endLine == cpos.line) = true := by rfl) (hs : starEach [e] X.env = (false, eval e X.env) :: starEach [] X.env := by rfl) (hplain : (backTo cpos (starEach [] X.env)).any (·.1) = false := by rfl)
    (hsw : swapsWith (.Call (.Attribute (.Name x npos) "append" apos) [e] [] cpos) none pos.line X.env = pure false := by rfl) :
    JS X po (.Expr (.Call (.Attribute (.Name x npos) "append" apos) [e] [] cpos) pos) ρ P :=
  .of (ps_expr (pe_bm PySem.F.plainAttrs_list PySem.F.slot_list_append PySem.F.type_list_append mt_append (pe_var hN hv hd hcd) (pa_cons (pe_J (po := po)) pa_nil hs) hbase hfew hline hs hplain) hsw) fun σ F0 H0 F H D S l => by
    obtain ⟨q, vs, e1, f1, n1, h1, r1⟩ := S.st.owned ho
    refine ⟨.ref q, e1, .inl ⟨rfl, vs, .inl (.inl h1)⟩, tJ_of h S.st fun v F' H' d k A r => ?_⟩
    have S' := S.advd A
    have h1' : H' q = some (.lst vs) := A.keep q _ n1 h1
    exact ⟨q, vs, v, rfl, rfl, h1', by rw [dlen r1]; exact hz, l.nx _ _ _ _ k (S'.updO ho e1 (dapp (dmonoA A.frz r1) (.cons r .nil)))⟩
/-- name[b] = e -/
theorem JS.setItem (i : Nat) {ds : List Dat} {npos spos : Pos} (ho : ρ[i]? = some (.own ds)) (h : JE X po e ρ fun d => JE X po b ρ fun k => ∃ kk j, k = .int kk ∧ ixN ds.length kk = some j ∧ P.nx (ρ.set i (.own (ds.set j d)))) (hN : X.N[i]? = some x := by rfl) (hv : Vis X.env.scope x := by first | exact Or.inl rfl | exact Or.inr (Or.inl rfl) | exact Or.inr (Or.inr rfl))
    (hd : (x == ("__debug__" : Str)) = false := by decide) (hcd : (x == ("__classdict__" : Str)) = false := by decide)
    (ha : ∀ v, assign (.Subscript (.Name x npos) b spos) X.env v = (do
      let ov ← holding [v] (eval (.Name x npos) X.env)
      let iv ← holding [v, ov] (eval b X.env)
      standAt spos
      holding [v, ov, iv] (setItem ov iv v)
      release [v, ov, iv] []) := by intro _; rfl)
    (hs : swapsWithSole [.Subscript (.Name x npos) b spos] e pos.line X.env = pure false := by rfl) (hw : swappedStores [.Subscript (.Name x npos) b spos] e X.env = pure none := by rfl)
    (h1 : (assignEach [.Subscript (.Name x npos) b spos] X.env).map (·.2) = [assign (.Subscript (.Name x npos) b spos) X.env] := by rfl) :
    JS X po (.Assign [.Subscript (.Name x npos) b spos] e pos) ρ P :=
  .of (ps_asg (pe_J (po := po)) (pg_sub (pe_var hN hv hd hcd) (pe_J (po := po)) set_list ha) hs hw h1) fun σ F0 H0 F H D S l => tJ_of h S.st fun v F1 H1 d j A1 r => by
    obtain ⟨q, vs, e1, f1, n1, hq, r1⟩ := S.st.owned ho
    refine ⟨.ref q, e1, tJ_of j (S.st.adv A1) fun u F2 H2 kd ⟨kk, m, hk, hj, k⟩ A2 r2 => ?_⟩
    subst hk
    have S' := (S.advd A1).advd A2
    have hq' : H2 q = some (.lst vs) := A2.keep q _ n1 (A1.keep q _ n1 hq)
    refine ⟨q, vs, kk, m, rfl, dp_int r2, hq', by rw [dlen r1]; exact hj, l.nx _ _ _ _ k (S'.updO ho e1 ?_)⟩
    exact dset (dmono A2.frz r) m (dmonoA (A1.frz.trans A2.frz) r1)
/-- name = [..] on one line -/
theorem JS.setLc (i : Nat) {elt : Expr} {ifs : List Expr} {scope : Scope} {own : List (Str × Nat)} {g : TG} {R : Dat → (Env' → Env') → Prop} {py spos : Pos} (hc : X.calm = true) (hN : X.N.Nodup) (ok : BlkOk X.N X.env.scope scope own)
    (hg : ∀ (s : Shared) (H : Hp) (C : Addr) (cl : List (Str × Addr)) (fp : List Addr), PG (X.blk s H scope (compEnvC scope cl C X.env) fp) tg g) (gd : GD g (own.map (·.2)) R) (hif : ifs.length ≤ 1)
    (h : JI X po tg iter ρ fun ds => ∃ I : Nat → List Dat → Prop, I 0 [] ∧
      (∀ (i : Nat) d acc, ds[i]? = some d → acc.length ≤ i → I i acc → ∃ u, R d u ∧ Turn1 X scope po ifs elt (u (wipeE ρ (own.map (·.2)))) (fun y => I (i + 1) (acc ++ [y])) (I (i + 1) acc)) ∧ ∀ acc, acc.length ≤ ds.length → I ds.length acc → P.nx (ρ.set i (.d (.list acc))))
    (hy : X.N[i]? = some x := by rfl) (hyl : X.env.scope.names.lookup x = some .local := by rfl) (hsw : swapsWith (.ListComp elt [⟨tg, iter, ifs, 0⟩] scope pos) (some (.Name x py)) spos.line X.env = pure true := by exact sw_true rfl rfl rfl (by decide +kernel))
    (hs : ∀ x, foldedSetIterable iter X.env x = pure x := by intro _; rfl) : JS X po (.Assign [.Name x py] (.ListComp elt [⟨tg, iter, ifs, 0⟩] scope pos) spos) ρ P :=
  .of (ps_setLc hc hN hy hyl hsw (pi_J (po := po)) ok hg (fun s H C cl fp => pts_J (po := po) s H C cl fp hif) (pe_Jb (po := po)) hs) fun σ F0 H0 F H D S l =>
    lc_read (Φ := fun d => P.nx (ρ.set i (.d d))) gd h S.st fun v F' H' d k A r => l.nx _ _ _ _ k ((S.advd A).set r)
end

/-! ### defs -/
/-- the context of a def's body -/
abbrev bX (P : Program) (w : World) (K : Frag) (mg : Str → Option Value) (base : Heap) (N : List Str) (qual : Str) (st : Stmt) (f : Addr) (cdv : Value) (A : Around) (outer : List Env) (s : Shared) (H : Hp) (E : XK) : Cx :=
  (cxOf CX0 P w K mg base N qual (defScope st) f cdv A outer s H E).nox
def startE (n : Nat) (ds : List Sl) : Env' := ds ++ List.replicate (n - ds.length) .x
theorem start_stt {F H : Hp} {po : Option Addr} {N : List Str} {vs : List V} {ds : List Dat} (s : Same F H) (p : PoolOk po F H) (r : Ds F vs ds) (hl : vs.length ≤ N.length) : Stt po (L2.start N vs) F H (startE N.length (ds.map Sl.d)) where
  len := by
    have := dlen r
    simp [L2.start, startE]
    omega
  sl := fun i o h => by
    unfold startE at h
    unfold L2.start
    by_cases hi : i < vs.length
    · have hd : i < ds.length := by rw [← dlen r]; exact hi
      rw [List.getElem?_append_left (by simpa using hd), List.getElem?_map] at h
      rw [List.getElem?_append_left (by simpa using hi), List.getElem?_map]
      rw [List.getElem?_eq_getElem hd] at h
      cases h
      obtain ⟨v, e, q⟩ := dget r (List.getElem?_eq_getElem hd)
      rw [e]
      exact ⟨some v, rfl, q⟩
    · have hd : ¬ i < ds.length := by rw [← dlen r]; exact hi
      rw [List.getElem?_append_right (by simpa using hd), List.getElem?_replicate] at h
      rw [List.getElem?_append_right (by simpa using hi), List.getElem?_replicate]
      simp only [List.length_map] at h ⊢
      rw [dlen r]
      split at h
      · cases h
        rename_i q
        rw [if_pos q]
        exact ⟨none, rfl, trivial⟩
      · cases h
  sep := fun i j a ds' es h1 _ _ _ => by
    unfold startE at h1
    by_cases hd : i < ds.length
    · rw [List.getElem?_append_left (by simpa using hd), List.getElem?_map, List.getElem?_eq_getElem hd] at h1
      cases h1
    · rw [List.getElem?_append_right (by simpa using hd), List.getElem?_replicate] at h1
      split at h1 <;> cases h1
  sub := s
  pool := p
theorem no_own {N : Nat} {ds : List Dat} {i : Nat} {es : List Dat} (h1 : (startE N (ds.map Sl.d))[i]? = some (.own es)) : False := by
  unfold startE at h1
  by_cases hd : i < ds.length
  · rw [List.getElem?_append_left (by simpa using hd), List.getElem?_map, List.getElem?_eq_getElem hd] at h1
    cases h1
  · rw [List.getElem?_append_right (by simpa using hd), List.getElem?_replicate] at h1
    split at h1 <;> cases h1
section
variable {P : Program} {w : World} {K : Frag} {mg : Str → Option Value} {base : Heap} {ι : Type} {args : ι → List Dat} {pre : ι → Prop} {post : ι → Dat → Prop} {k : Nat} {x qual : Str} {st : Stmt} {f : Addr} {fd : FuncData} {N ps : List Str}
/-- a def upon data, by its body -/
theorem fn_ok (F : Fun K x qual st f fd) (S : FnScope N ps (defScope st)) (hlen : ∀ i, (args i).length = ps.length)
    (hbody : ∀ (cdv : Value) (A : Around) (outer : List Env) (s : Shared) (H : Hp) (E : XK), Room k (A.deeper (envOfC qual (defScope st) s.heap.objs.size f cdv)) → ∀ i, pre i →
      JSs (bX P w K mg base N qual st f cdv A outer s H E) none (defBody st) (startE N.length ((args i).map Sl.d)) { nx := fun _ => post i .none, rt := post i }) :
    FnOk P w K mg base CX0 (k + 1) f fd ps (spP args pre post) := by
  have hpl : ps.length ≤ N.length := by have := congrArg List.length S.pre; rw [List.length_take] at this; omega
  refine F.ok S (fun vs H Q E h => ?_) (fun cdv A outer s H vs Q E hr h => ?_)
  · obtain ⟨F, i, _, r, _⟩ := h
    rw [dlen r, hlen]
  · obtain ⟨F1, i, sm, r, hp, q⟩ := h
    have st0 := start_stt (N := N) sm PoolOk.none r (by rw [dlen r, hlen]; exact hpl)
    refine ⟨_, pss_J (po := none), tsJ_of (hbody cdv A outer s H E hr i hp) ⟨st0, .refl sm .none, fun i ds a h1 _ => (no_own h1).elim⟩ ⟨fun σ F' H' ρ' k S' => ?_, fun v F' H' d k A' r' => q v F' H' d k A' r', fun _ _ _ _ z => z.elim, fun _ _ _ _ z => z.elim⟩⟩
    exact q _ F' H' _ k S'.adv .non
/-- .. whose first argument is the pool -/
theorem fn_okQ (F : Fun K x qual st f fd) (S : FnScope N ps (defScope st)) (hlen : ∀ i, (args i).length + 1 = ps.length)
    (hbody : ∀ (cdv : Value) (A : Around) (outer : List Env) (s : Shared) (H : Hp) (E : XK) (po : Addr), Room k (A.deeper (envOfC qual (defScope st) s.heap.objs.size f cdv)) → ∀ i, pre i →
      JSs (bX P w K mg base N qual st f cdv A outer s H E) (some po) (defBody st) (startE N.length (.pool :: (args i).map Sl.d)) { nx := fun _ => post i .none, rt := post i }) :
    FnOk P w K mg base CX0 (k + 1) f fd ps (spQ args pre post) := by
  have hpl : ps.length ≤ N.length := by have := congrArg List.length S.pre; rw [List.length_take] at this; omega
  refine F.ok S (fun vs H Q E h => ?_) (fun cdv A outer s H vs Q E hr h => ?_)
  · obtain ⟨a, F, vr, i, rfl, _, _, r, _⟩ := h
    rw [List.length_cons, dlen r, hlen]
  · obtain ⟨a, F1, vr, i, rfl, sm, pl, r, hp, q⟩ := h
    have pok : PoolOk (some a) F1 H := fun b hb => by cases hb; exact pl
    have hl : vr.length + 1 ≤ N.length := by rw [dlen r, hlen]; exact hpl
    have st1 := start_stt (N := N.tail) sm pok r (by rw [List.length_tail]; omega)
    have eσ : L2.start N (V.ref a :: vr) = some (V.ref a) :: L2.start N.tail vr := by
      have e1 : N.length - (V.ref a :: vr).length = N.tail.length - vr.length := by rw [List.length_tail, List.length_cons]; omega
      unfold L2.start
      rw [e1]
      rfl
    have eρ : startE N.length (.pool :: (args i).map Sl.d) = .pool :: startE N.tail.length ((args i).map Sl.d) := by
      have e1 : N.length - (Sl.pool :: (args i).map Sl.d).length = N.tail.length - ((args i).map Sl.d).length := by rw [List.length_tail, List.length_cons]; omega
      unfold startE
      rw [e1]
      rfl
    have st0 : Stt (some a) (L2.start N (V.ref a :: vr)) F1 H (startE N.length (.pool :: (args i).map Sl.d)) := by
      rw [eσ, eρ]
      refine ⟨by simp [st1.len], fun j s h => ?_, fun j j' b ds es h1 h2 h3 h4 => ?_, sm, pok⟩
      · cases j with
        | zero => simp at h; subst h; exact ⟨_, rfl, a, rfl, rfl⟩
        | succ j => exact st1.sl j s (by simpa using h)
      · cases j with
        | zero => simp at h1
        | succ j => exact (no_own (by simpa using h1)).elim
    refine ⟨_, pss_J (po := some a), tsJ_of (hbody cdv A outer s H E a hr i hp) ⟨st0, .refl sm pok, fun j ds b h1 _ => ?_⟩ ⟨fun σ F' H' ρ' k S' => ?_, fun v F' H' d k A' r' => q v F' H' d k A' r', fun _ _ _ _ z => z.elim, fun _ _ _ _ z => z.elim⟩⟩
    · rw [eρ] at h1
      cases j with
      | zero => simp at h1
      | succ j => exact (no_own (by simpa using h1)).elim
    · exact q _ F' H' _ k S'.adv .non
end
end PD
end

section
set_option Elab.async false
set_option linter.all false
set_option maxRecDepth 100000
set_option maxHeartbeats 4000000
/-! PDh: shorter rules; slices with a step; comb. -/
namespace PD
open PySem PySem.Spec PyProof.Rows L2
/-! ### products -/
theorem mulok {i j : Int} {a b : Nat} (ha : i.natAbs < 2 ^ a) (hb : j.natAbs < 2 ^ b) (h : a + b ≤ 100000000) : IntMulOk i j := by
  have ha1 : i.natAbs < 2 ^ (a + 1) := Nat.lt_of_lt_of_le ha (Nat.pow_le_pow_right (by decide) (by omega))
  have hb1 : j.natAbs < 2 ^ (b + 1) := Nat.lt_of_lt_of_le hb (Nat.pow_le_pow_right (by decide) (by omega))
  have x := PySem.Flt.log2_lt_of (by omega) ha1
  have y := PySem.Flt.log2_lt_of (by omega) hb1
  have bb : ∀ x : Int, Builtin.Int.intBits x ≤ x.natAbs.log2 + 1 := fun x => by
    unfold Builtin.Int.intBits
    split <;> omega
  have h1 := bb i
  have h2 := bb j
  have e : bitsLine = 134217728 := by decide
  unfold IntMulOk
  intro z
  rw [Bool.and_eq_true] at z
  have z2 := z.2
  unfold Builtin.Int.intTooBig at z2
  have z3 := of_decide_eq_true z2
  rw [e] at z3
  omega
/-- one factor is small -/
theorem mulokL {i j : Int} (h : -(2 ^ 64) < i ∧ i < 2 ^ 64) : IntMulOk i j := CMul.ok (.inl h)
theorem mulokR {i j : Int} (h : -(2 ^ 64) < j ∧ j < 2 ^ 64) : IntMulOk i j := CMul.ok (.inr h)

section
variable {X : Cx} {po : Option Addr} {a b c e : Expr} {es : List Expr} {ρ : Env'} {Φ : Dat → Prop} {pos p : Pos} {ι : Type} {args : ι → List Dat} {pre : ι → Prop} {f : ι → Dat} {k : Nat}
/-- a def that hands back f of its arguments -/
theorem JE.callF {x : Str} (G : FnD X.prog X.w X.K X.mg X.base k x (spP args pre fun i d => d = f i)) (hr : Room k X.A) (hg : Gl X x) (h : JA X po (e :: es) ρ fun ds => ∃ i, ds = args i ∧ pre i ∧ Φ (f i))
    (hdb : (x == ("__debug__" : Str)) = false := by decide) (he : starEach (e :: es) X.env = (false, eval e X.env) :: starEach es X.env := by rfl) (hpl : (backTo pos (starEach es X.env)).any (·.1) = false := by rfl) : JE X po (.Call (.Name x p) (e :: es) [] pos) ρ Φ :=
  .call G hr hg (fun pos pins s σ F H Q I S q => h pos pins s σ F H Q I S fun vs F' H' ds ⟨i, h1, h2, h3⟩ => q vs F' H' ds ⟨i, h1, h2, fun d hd => hd ▸ h3⟩) hdb he hpl
variable {P : Post} {st : Stmt} {rest : List Stmt}
/-- between two statements -/
theorem JSs.cut (M : Env' → Prop) (h : JS X po st ρ { P with nx := M }) (r : ∀ ρ', M ρ' → JSs X po rest ρ' P) : JSs X po (st :: rest) ρ P :=
  .cons fun pins s σ F0 H0 F H D I S l => h pins s σ F0 H0 F H D I S ⟨fun σ F H ρ m S => l.nx σ F H ρ (r ρ m) S, l.rt, l.bk, l.ct⟩
theorem JT.true_ {Ψ : Bool → Prop} {q : Prop} [Decidable q] (h : q) (k : Ψ true) : Ψ (decide q) := by rw [decide_eq_true h]; exact k
theorem JT.false_ {Ψ : Bool → Prop} {q : Prop} [Decidable q] (h : ¬ q) (k : Ψ false) : Ψ (decide q) := by rw [decide_eq_false h]; exact k
/-- a test's two ways -/
theorem ways {q : Prop} [Decidable q] {A B : Prop} (h1 : q → A) (h2 : ¬ q → B) : if decide q = true then A else B := by
  by_cases h : q
  · rw [decide_eq_true h, if_pos rfl]; exact h1 h
  · rw [decide_eq_false h, if_neg Bool.false_ne_true]; exact h2 h
theorem waysN {q : Prop} [Decidable q] {A B : Prop} (h1 : ¬ q → A) (h2 : q → B) : if (!decide q) = true then A else B := by
  by_cases h : q
  · rw [decide_eq_true h]
    show if false = true then A else B
    rw [if_neg Bool.false_ne_true]; exact h2 h
  · rw [decide_eq_false h]
    show if true = true then A else B
    rw [if_pos rfl]; exact h1 h
end
end PD
end

section
set_option Elab.async false
set_option linter.all false
set_option maxRecDepth 100000
set_option maxHeartbeats 4000000
/-! PDi: slices with a step; comb; great divisors; the end of a law. -/
namespace PD
open PySem PySem.Spec PyProof.Rows L2

/-! ### slices with a written step -/
/-- xs[lo:hi:c] -/
def stepD {α : Type} (xs : List α) (lo hi : Option Int) (c : Int) : List α :=
  (List.range (Builtin.Slice.slicePlaces (Builtin.Slice.sliceAdjust lo hi c xs.length).1 (Builtin.Slice.sliceAdjust lo hi c xs.length).2 c)).filterMap fun m => xs[((Builtin.Slice.sliceAdjust lo hi c xs.length).1 + (m : Nat) * c).toNat]?
theorem slice_parts {prog : Program} {w : World} {A : Around} {E : Value → Shared → Prop} {s : Shared} {sl : Addr} {vl vu vs : Value} {lo hi : Option Int} {c : Int} {t : Tok} {n : Int} {Q : Int × Int × Nat → Shared → Prop}
    (hs : s.heap.IsSliceOf sl vl vu vs) (pl : IsPart vl lo) (pu : IsPart vu hi) (ps : IsPart vs (some c)) (hc : c ≠ 0)
    (h : Q ((Builtin.Slice.sliceAdjust lo hi c n).1, c, Builtin.Slice.slicePlaces (Builtin.Slice.sliceAdjust lo hi c n).1 (Builtin.Slice.sliceAdjust lo hi c n).2 c) s) :
    wpAny (model prog w) A (Builtin.Slice.sliceApplied (.ref sl) (pure n)) Q E s := by
  obtain ⟨os, hos, hcs, hds⟩ := id hs
  have e0 : (c == 0) = false := by simpa using hc
  unfold Builtin.Slice.sliceApplied Builtin.Slice.sliceFields
  refine wpAny_bind (wpAny_bind (wpAny_field hos hds (x := vl) rfl ?_))
  refine wpAny_bind (wpAny_field hos hds (x := vu) rfl ?_)
  refine wpAny_bind (wpAny_field hos hds (x := vs) rfl ?_)
  refine wpAny_pure ?_
  refine wpAny_bind (HT.slicePart_ ps ?_)
  show wpAny _ _ (if (c == 0) = true then _ else _) _ _ s
  rw [if_neg (by rw [e0]; exact Bool.false_ne_true)]
  refine wpAny_bind (HT.slicePart_ pl ?_)
  refine wpAny_bind (HT.slicePart_ pu ?_)
  refine wpAny_bind (wpAny_pure ?_)
  exact wpAny_pure h
theorem tuple_step {prog : Program} {w : World} {A : Around} {E : Value → Shared → Prop} {s : Shared} {t sl : Addr} {items : Array Value} {vl vu vs : Value} {lo hi : Option Int} {c : Int} {Q : Value → Shared → Prop} (ht : IsTup s.heap t items)
    (hs : s.heap.IsSliceOf sl vl vu vs) (pl : IsPart vl lo) (pu : IsPart vu hi) (ps : IsPart vs (some c)) (hc : c ≠ 0) (h1 : c ≠ 1)
    (h : Q (.ref s.heap.objs.size) { s with heap := s.heap.push { cls := .type "tuple", data := .seq (stepD items.toList lo hi c).toArray } })
    (hsz : (stepD items.toList lo hi c).length ≤ sizeLine) : wpAny (model prog w) A (getItem (.ref t) (.ref sl)) Q E s := by
  obtain ⟨os, hos, hcs, hds⟩ := id hs
  have hTs : s.TypeIs (.ref sl) "slice" := ⟨os, hos, hcs⟩
  unfold getItem
  try with_reducible refine wpAny_holding ?_
  first | refine wpAny_bind (wpAny_pure ?_) | skip
  refine wpAny_bind (wpAny_sequenceKey ht.typeIs (by decide) ?_)
  refine wpAny_bind (wpAny_callSpecial?_slot (name := Str.ofString "__getitem__") ht.typeIs slot_tuple_getitem ?_)
  refine wpAny_call_entry slot_tuple_getitem ht.typeIs entry_tuple_getitem ?_ (args_tuple_getitem _ _)
  show wpAny _ _ (Builtin.Tuple.tupleItemsOf (.ref t) >>= _) _ _ s
  refine wpAny_bind (tupleItemsOf_ ht (wpAny_bind (wpAny_typeOf hTs ?_)))
  rw [if_pos (by decide)]
  refine wpAny_bind (slice_parts (t := 0) hs pl pu ps hc ?_)
  have e1 : ∀ (z : Bool) (y : Bool), ¬ (z && c == 1 && y) = true := fun z y q => by
    rw [Bool.and_eq_true, Bool.and_eq_true] at q
    exact h1 (eq_of_beq q.1.2)
  dsimp only
  rw [if_neg (e1 _ _)]
  have hl : ((items.size : Nat) : Int) = ((items.toList.length : Nat) : Int) := by simp
  have e2 : ∀ (a : Int) (k : Nat), (List.range k).filterMap (fun (m : Nat) => items[(a + (m : Nat) * c).toNat]?) = (List.range k).filterMap fun m => items.toList[(a + (m : Nat) * c).toNat]? := fun a k => by
    congr 1
    funext m
    simp
  rw [e2]
  unfold stepD at h hsz
  rw [← hl] at h hsz
  have ok : sizeOk (.seq ((List.range (Builtin.Slice.slicePlaces (Builtin.Slice.sliceAdjust lo hi c (items.size : Nat)).1 (Builtin.Slice.sliceAdjust lo hi c (items.size : Nat)).2 c)).filterMap fun m => items.toList[((Builtin.Slice.sliceAdjust lo hi c (items.size : Nat)).1 + (m : Nat) * c).toNat]?).toArray) := by
    show (List.toArray _).size ≤ sizeLine
    rw [List.size_toArray]
    exact hsz
  first
    | exact wpAny_bind (m := Builtin.Tuple.tupleExact _) (wpAny_newObj_type (wpAny_pure ⟨_, rfl, wpAny_pure h⟩) ok)
    | exact wpAny_bind (m := Builtin.Tuple.tupleExact _) (wpAny_newObj_type (wpAny_bind (wpAny_pure (wpAny_pure ⟨_, rfl, wpAny_pure h⟩))) ok)
    | exact wpAny_bind (wpAny_bind (m := Builtin.Tuple.tupleExact _) (wpAny_newObj_type (wpAny_pure (wpAny_pure ⟨_, rfl, wpAny_pure h⟩)) ok))
    | exact wpAny_bind (wpAny_bind (m := Builtin.Tuple.tupleExact _) (wpAny_newObj_type (wpAny_pure ⟨_, rfl, wpAny_pure h⟩) ok))
theorem ds_fm {H : Hp} {vs : List V} {ds : List Dat} (r : Ds H vs ds) (f : Nat → Nat) : ∀ ks : List Nat, Ds H (ks.filterMap fun m => vs[f m]?) (ks.filterMap fun m => ds[f m]?)
  | [] => .nil
  | k :: ks => by
    have ih := ds_fm r f ks
    cases q : ds[f k]? with
    | none =>
      have q' : vs[f k]? = none := by rw [List.getElem?_eq_none_iff] at q ⊢; rw [dlen r]; exact q
      rw [List.filterMap_cons_none (by exact q'), List.filterMap_cons_none (by exact q)]
      exact ih
    | some d =>
      obtain ⟨v, e, rv⟩ := dget r q
      rw [List.filterMap_cons_some (by exact e), List.filterMap_cons_some (by exact q)]
      exact .cons rv ih
theorem vals_fm {vs : List V} {us : List Value} (r : Vals vs us) (f : Nat → Nat) : ∀ ks : List Nat, Vals (ks.filterMap fun m => vs[f m]?) (ks.filterMap fun m => us[f m]?)
  | [] => .nil
  | k :: ks => by
    have ih := vals_fm r f ks
    cases q : vs[f k]? with
    | none =>
      have q' : us[f k]? = none := r.none_of q
      rw [List.filterMap_cons_none (by exact q), List.filterMap_cons_none (by exact q')]
      exact ih
    | some d =>
      obtain ⟨v, e, rv⟩ := r.get q
      rw [List.filterMap_cons_some (by exact q), List.filterMap_cons_some (by exact e)]
      exact .cons rv ih
theorem ds_step {H : Hp} {vs : List V} {ds : List Dat} (r : Ds H vs ds) (lo hi : Option Int) (c : Int) : Ds H (stepD vs lo hi c) (stepD ds lo hi c) := by
  unfold stepD
  rw [dlen r]
  exact ds_fm r _ _
theorem vals_step {vs : List V} {us : List Value} (r : Vals vs us) (lo hi : Option Int) (c : Int) : Vals (stepD vs lo hi c) (stepD us lo hi c) := by
  unfold stepD
  rw [r.length]
  exact vals_fm r _ _
section
variable {X : Cx} {po : Option Addr} {a b c e e3 : Expr} {es : List Expr} {ρ : Env'} {Φ : Dat → Prop} {pos p p2 : Pos}
/-- t[lo:hi:c], c not 0 and not 1 -/
theorem JE.stepT {lo hi : Option Expr} (h : JE X po e ρ fun d => JO X po lo ρ fun l => JO X po hi ρ fun u => JE X po e3 ρ fun d3 => ∃ ds c, d = .tuple ds ∧ d3 = .int c ∧ c ≠ 0 ∧ c ≠ 1 ∧ (stepD ds l u c).length ≤ sizeLine ∧ Φ (.tuple (stepD ds l u c))) : JE X po (.Subscript e (.Slice lo hi (some e3) p2) pos) ρ Φ := by
  intro pins s σ F H Q I S k
  refine Subscript_ (thn (h pins s σ F H (fun v H1 => ∃ F1 d, Adv po F H F1 H1 ∧ Dv F1 v d ∧ JO X po lo ρ fun l => JO X po hi ρ fun u => JE X po e3 ρ fun d3 => ∃ ds c, d = .tuple ds ∧ d3 = .int c ∧ c ≠ 0 ∧ c ≠ 1 ∧ (stepD ds l u c).length ≤ sizeLine ∧ Φ (.tuple (stepD ds l u c))) I S fun v F1 H1 d j A r => ⟨F1, d, A, r, j⟩) fun v s1 ⟨x, H1, I1, r1, F1, d, A1, rd, j⟩ => ?_)
  have T1 := toJ_of (Q := fun l H2 => ∃ F2, Adv po F1 H1 F2 H2 ∧ JO X po hi ρ fun u => JE X po e3 ρ fun d3 => ∃ ds c, d = .tuple ds ∧ d3 = .int c ∧ c ≠ 0 ∧ c ≠ 1 ∧ (stepD ds l u c).length ≤ sizeLine ∧ Φ (.tuple (stepD ds l u c))) j (S.adv A1) fun l F2 H2 j2 A2 => ⟨F2, A2, j2⟩
  refine wpAny_Slice (thn ((po_J (po := po)).run pins s1 σ H1 _ I1 T1) fun vl s2 ⟨l, H2, I2, pl, F2, A2, j2⟩ => ?_)
  have T2 := toJ_of (Q := fun u H3 => ∃ F3, Adv po F2 H2 F3 H3 ∧ JE X po e3 ρ fun d3 => ∃ ds c, d = .tuple ds ∧ d3 = .int c ∧ c ≠ 0 ∧ c ≠ 1 ∧ (stepD ds l u c).length ≤ sizeLine ∧ Φ (.tuple (stepD ds l u c))) j2 ((S.adv A1).adv A2) fun u F3 H3 j3 A3 => ⟨F3, A3, j3⟩
  refine thn ((po_J (po := po)).run pins s2 σ H2 _ I2 T2) fun vu s3 ⟨u, H3, I3, pu, F3, A3, j3⟩ => ?_
  rw [evalPart_some]
  refine thn (j3 pins s3 σ F3 H3 (fun v H4 => ∃ F4 ds c, Adv po F3 H3 F4 H4 ∧ v = .int c ∧ d = .tuple ds ∧ c ≠ 0 ∧ c ≠ 1 ∧ (stepD ds l u c).length ≤ sizeLine ∧ Φ (.tuple (stepD ds l u c))) I3 (((S.adv A1).adv A2).adv A3) fun v F4 H4 d3 ⟨ds, c, h1, h2, h3⟩ A4 r4 => ⟨F4, ds, c, A4, dp_int (h2 ▸ r4), h1, h3⟩) fun vs s4 ⟨y, H4, I4, r4, F4, ds, c, A4, hy, hd, hc0, hc1, hz, kk⟩ => ?_
  subst hy hd
  obtain ⟨t, rfl⟩ := r4
  obtain ⟨m, xs, rfl, h1, rx⟩ := dp_tup rd
  cases r1
  have I5 : Inv X pins σ H4 { s4 with heap := s4.heap.push { cls := .type "slice", data := .fields #[vl, vu, .int c t] } } := I4.kept (t' := s4.toks) fun b ob q => Heap.get?_push_of_some _ q
  have hT : SqT X.K H4 m xs := .inl (.inl (A4.sub _ _ (A4.frz _ _ (A3.frz _ _ (A2.frz _ _ h1)))))
  obtain ⟨its, rv, ht, hzz⟩ := I5.tuple hT
  show wpAny (model X.prog X.w) X.A (subscriptTail e (.Slice lo hi (some e3) p2) (.ref m) (.ref s4.heap.objs.size)) (EP X pins σ Q) X.xe { s4 with heap := s4.heap.push { cls := .type "slice", data := .fields #[vl, vu, .int c t] } }
  have rv' := vals_step rv l u c
  have rd' := ds_step (dmonoA (A2.frz.trans (A3.frz.trans A4.frz)) rx) l u c
  refine tail_any (ops := [.ref m, .ref s4.heap.objs.size]) ht.typeIs slot_tuple_getitem.lookup (tuple_step ht (Heap.IsSliceOf.new ..) pl pu (.int c t) hc0 hc1 ?_ ?_) (by with_unfolding_all rfl)
  · have nw := I5.fresh
    refine ⟨.ref _, _, I5.laid (o := .tup (stepD xs l u c)) (t' := s4.toks) (fun b ob q => Heap.get?_push_of_some _ q) (Nat.le_refl _) ⟨?_, _, rv', ?_⟩, rfl, k _ _ _ _ kk (A1.trans (A2.trans (A3.trans (A4.trans ((Adv.newF A4.sub nw).up A4.pool))))) (new_tup A4.sub nw rd')⟩
    · rw [dlen rd']; exact hz
    · exact IsTup.new _ _
  · rw [← rv'.length, dlen rd']; exact hz
/-- l[::-1] -/
theorem JE.revL (h : JE X po e ρ fun d => JE X po e3 ρ fun d3 => ∃ ds, d = .list ds ∧ d3 = .int (-1) ∧ Φ (.list ds.reverse)) : JE X po (.Subscript e (.Slice none none (some e3) p2) pos) ρ Φ := by
  intro pins s σ F H Q I S k
  refine Subscript_ (thn (h pins s σ F H (fun v H1 => ∃ F1 d, Adv po F H F1 H1 ∧ Dv F1 v d ∧ JE X po e3 ρ fun d3 => ∃ ds, d = .list ds ∧ d3 = .int (-1) ∧ Φ (.list ds.reverse)) I S fun v F1 H1 d j A r => ⟨F1, d, A, r, j⟩) fun v s1 ⟨x, H1, I1, r1, F1, d, A1, rd, j3⟩ => ?_)
  refine wpAny_Slice ?_
  rw [evalPart_none]
  refine wpAny_pure (wpAny_pure ?_)
  rw [evalPart_some]
  refine thn (j3 pins s1 σ F1 H1 (fun v H4 => ∃ F4 ds, Adv po F1 H1 F4 H4 ∧ v = .int (-1) ∧ d = .list ds ∧ Φ (.list ds.reverse)) I1 (S.adv A1) fun v F4 H4 d3 ⟨ds, h1, h2, h3⟩ A4 r4 => ⟨F4, ds, A4, dp_int (h2 ▸ r4), h1, h3⟩) fun vs s4 ⟨y, H4, I4, r4, F4, ds, A4, hy, hd, kk⟩ => ?_
  subst hy hd
  obtain ⟨t, rfl⟩ := r4
  obtain ⟨m, xs, rfl, h1, rx⟩ := dp_list rd
  cases r1
  have I5 : Inv X pins σ H4 { s4 with heap := s4.heap.push { cls := .type "slice", data := .fields #[.none, .none, .int (-1) t] } } := I4.kept (t' := s4.toks) fun b ob q => Heap.get?_push_of_some _ q
  have hT : SqL X.K H4 m xs := .inl (.inl (A4.sub _ _ (A4.frz _ _ h1)))
  obtain ⟨its, rv, ht, hzz⟩ := I5.list hT
  show wpAny (model X.prog X.w) X.A (subscriptTail e (.Slice none none (some e3) p2) (.ref m) (.ref s4.heap.objs.size)) (EP X pins σ Q) X.xe { s4 with heap := s4.heap.push { cls := .type "slice", data := .fields #[.none, .none, .int (-1) t] } }
  have rd' := drev (dmonoA A4.frz rx)
  have hsz : its.toArray.size ≤ sizeLine := by rw [List.size_toArray, ← rv.length]; exact hzz
  refine tail_any (ops := [.ref m, .ref s4.heap.objs.size]) ht.isList.typeIs slot_list_getitem.lookup (wpAny_getItem_list_slice ht.isList (Heap.IsSliceOf.new ..) .none .none (.int (-1) t) (by decide) ?_ hsz) (by with_unfolding_all rfl)
  rw [PySem.W.krv_pick]
  have nw := I5.fresh
  refine ⟨.ref _, _, I5.laid (o := .lst xs.reverse) (t' := s4.toks) (fun b ob q => Heap.get?_push_of_some _ q) (Nat.le_refl _) ⟨?_, its.reverse, 0, rv.reverse, Heap.get?_push_size _ rfl⟩, rfl, k _ _ _ _ kk (A1.trans (A4.trans ((Adv.newF A4.sub nw).up A4.pool))) (new_lst A4.sub nw rd')⟩
  rw [List.length_reverse]; exact hzz
end

/-! ### comb -/
/-- binomial numbers by Pascal -/
def choose : Nat → Nat → Nat
  | _, 0 => 1
  | 0, _ + 1 => 0
  | n + 1, k + 1 => choose n k + choose n (k + 1)
theorem choose_above : ∀ {n k : Nat}, n < k → choose n k = 0
  | 0, k + 1, _ => rfl
  | n + 1, k + 1, h => by
    show choose n k + choose n (k + 1) = 0
    rw [choose_above (show n < k by omega), choose_above (show n < k + 1 by omega)]
theorem choose_self : ∀ n : Nat, choose n n = 1
  | 0 => rfl
  | n + 1 => by
    show choose n n + choose n (n + 1) = 1
    rw [choose_self n, choose_above (Nat.lt_succ_self n)]
def fac : Nat → Nat
  | 0 => 1
  | n + 1 => (n + 1) * fac n
theorem fac_pos : ∀ n, 0 < fac n
  | 0 => Nat.one_pos
  | n + 1 => Nat.mul_pos (Nat.succ_pos n) (fac_pos n)
theorem choose_fac : ∀ n k : Nat, k ≤ n → choose n k * (fac k * fac (n - k)) = fac n
  | n, 0, _ => by cases n <;> simp [choose, fac]
  | n + 1, k + 1, h => by
    by_cases e : k = n
    · subst e
      rw [choose_self]; simp [fac]
    · have h1 := choose_fac n k (by omega)
      have h2 := choose_fac n (k + 1) (by omega)
      have e1 : n + 1 - (k + 1) = (n - (k + 1)) + 1 := by omega
      have e2 : n - k = (n - (k + 1)) + 1 := by omega
      show (choose n k + choose n (k + 1)) * (fac (k + 1) * fac (n + 1 - (k + 1))) = (n + 1) * fac n
      have f1 : fac (n - k) = (n - k) * fac (n - (k + 1)) := by
        conv => lhs; rw [e2]
        show (n - (k + 1) + 1) * _ = _
        rw [← e2]
      have f2 : fac (n + 1 - (k + 1)) = (n - k) * fac (n - (k + 1)) := by
        rw [e1]
        show (n - (k + 1) + 1) * _ = _
        rw [← e2]
      have f3 : fac (k + 1) = (k + 1) * fac k := rfl
      rw [f2, f3, Nat.add_mul]
      have g1 : choose n k * ((k + 1) * fac k * ((n - k) * fac (n - (k + 1)))) = (k + 1) * fac n := by
        rw [← h1, f1]
        simp only [Nat.mul_assoc, Nat.mul_left_comm]
      have g2 : choose n (k + 1) * ((k + 1) * fac k * ((n - k) * fac (n - (k + 1)))) = (n - k) * fac n := by
        rw [← h2, f3]
        simp only [Nat.mul_assoc, Nat.mul_left_comm]
      rw [g1, g2, ← Nat.add_mul]
      congr 1
      omega
theorem choose_symm {n k : Nat} (h : k ≤ n) : choose n (n - k) = choose n k := by
  have h1 := choose_fac n k h
  have h2 := choose_fac n (n - k) (by omega)
  rw [show n - (n - k) = k by omega, Nat.mul_comm (fac (n - k))] at h2
  exact Nat.eq_of_mul_eq_mul_right (Nat.mul_pos (fac_pos k) (fac_pos (n - k))) (h2.trans h1.symm)
theorem fp_choose (n : Nat) : ∀ k : Nat, k ≤ n → Builtin.Math.fallingProduct (n : Int) k = ((choose n k * fac k : Nat) : Int)
  | 0, _ => by
    rw [PySem.W.mc_fp_zero]
    cases n <;> rfl
  | k + 1, h => by
    rw [PySem.W.mc_fp_succ, fp_choose n k (by omega)]
    have h1 := choose_fac n k (by omega)
    have h2 := choose_fac n (k + 1) h
    have e2 : n - k = (n - (k + 1)) + 1 := by omega
    have f1 : fac (n - k) = (n - k) * fac (n - (k + 1)) := by
      conv => lhs; rw [e2]
      show (n - (k + 1) + 1) * _ = _
      rw [← e2]
    have key : choose n (k + 1) * fac (k + 1) = choose n k * fac k * (n - k) := by
      apply Nat.eq_of_mul_eq_mul_right (fac_pos (n - (k + 1)))
      rw [Nat.mul_assoc, h2, ← h1, f1]
      simp only [Nat.mul_assoc]
    rw [key]
    have : ((n - k : Nat) : Int) = (n : Int) - (k : Int) := by omega
    rw [Int.natCast_mul (choose n k * fac k), this]
theorem mcComb_choose {n k : Nat} (h : k ≤ n) : PySem.W.mcComb n k = ((choose n k : Nat) : Int) := by
  have hm : min (k : Int) ((n : Int) - k) = ((min k (n - k) : Nat) : Int) := by omega
  rw [PySem.W.mcComb_at (by omega) (by omega) hm]
  rw [Int.toNat_natCast, fp_choose n _ (by omega), fp_choose _ _ (Nat.le_refl _), choose_self, Nat.one_mul]
  have hd := fac_pos (min k (n - k))
  rw [Int.natCast_mul, Int.mul_ediv_cancel _ (by omega)]
  congr 1
  by_cases q : k ≤ n - k
  · rw [Nat.min_eq_left q]
  · rw [Nat.min_eq_right (by omega), choose_symm h]
theorem call_comb {X : Cx} : CallR X (.builtin "math.comb") (fun xs H Q => ∃ n k : Nat, xs = [.int n, .int k] ∧ k ≤ n ∧ n ≤ 18000 ∧ Q (.int (choose n k : Nat)) H) := by
  intro pins s σ H xs us Q I r h
  obtain ⟨n, k, rfl, h1, h2, q⟩ := h
  obtain ⟨u, w', rfl, ⟨t, rfl⟩, ⟨t', rfl⟩⟩ := vals2 r
  have g := PySem.W.mc_gives_comb (a := (n : Int)) (b := (k : Int)) t t' (by omega) (by omega) (by omega) (.inr (by omega))
  rw [mcComb_choose h1] at g
  exact call_function_meets PySem.W.MGF.kind_comb PySem.W.MGF.plain_comb PySem.W.MGF.entry_comb (PySem.W.MGF.args_comb _ _) g.meets ⟨.int (choose n k : Nat), H, I.tok _, ⟨_, rfl⟩, q⟩
theorem CalD.comb {X : Cx} {po : Option Addr} {Φ : Dat → Prop} {n k : Nat} (h1 : k ≤ n) (h2 : n ≤ 18000) (kk : Φ (.int (choose n k : Nat))) : CalD X po (.builtin "math.comb") [.int n, .int k] Φ := fun vs F H Q s p r q => by
  obtain ⟨v, v', rfl, h, h'⟩ := ds2 r
  rw [dp_int h, dp_int h']
  exact ⟨_, call_comb, n, k, rfl, h1, h2, q _ F H _ kk (.refl s p) (.int _)⟩

/-! ### great divisors in a def's body -/
theorem seer_b {P : Program} {w : World} {K : Frag} {mg : Str → Option Value} {base : Heap} {N ps : List Str} {qual : Str} {st : Stmt} {f : Addr} {cdv : Value} {A : Around} {outer : List Env} {s : Shared} {H : Hp} {E : XK} {k : Nat}
    (S : FnScope N ps (defScope st)) (hr : Room k (A.deeper (envOfC qual (defScope st) s.heap.objs.size f cdv))) (hk : 32 ≤ k) (hb : base.NoSeer) (ht : P.given.tree = none) : SeerX (bX P w K mg base N qual st f cdv A outer s H E) where
  depth := by
    have := hr.dp
    show (A.deeper _).depth + Builtin.pylongFrames < recursionLimit
    have e : Builtin.pylongFrames = 100 := rfl
    omega
  tree := ht
  seer := hb
  top := ⟨_, _, rfl, S.gen, S.co, rfl, rfl⟩
end PD
end

section
set_option Elab.async false
set_option linter.all false
set_option maxRecDepth 100000
set_option maxHeartbeats 4000000
/-! PDj: short rules for rows of whole numbers. -/
namespace PD
open PySem PySem.Spec PyProof.Rows L2
abbrev LI (ns : List Int) : Dat := .list (ns.map PyData.int)
abbrev TI (ns : List Int) : Dat := .tuple (ns.map PyData.int)
/-- a list (true) or a tuple -/
def SQ (b : Bool) (ns : List Int) : Dat := if b then LI ns else TI ns

/-- names of built-ins that the text leaves as they are -/
structure Bi (mg : Str → Option Value) : Prop where
  len : mg "len" = none
  range : mg "range" = none
  list : mg "list" = none
  tuple : mg "tuple" = none
  rev : mg "reversed" = none
  enum : mg "enumerate" = none
  max : mg "max" = none
  min : mg "min" = none
  abs : mg "abs" = none
  int : mg "int" = none
  bool : mg "bool" = none
  sum : mg "sum" = none
  all : mg "all" = none
  isi : mg "isinstance" = none
theorem boot_isinstance' : bootBuiltins "isinstance" = some (.builtin "isinstance") := by decide +kernel
theorem boot_len' : bootBuiltins "len" = some (.builtin "len") := by decide +kernel
theorem boot_abs' : bootBuiltins "abs" = some (.builtin "abs") := by decide +kernel
theorem boot_max' : bootBuiltins "max" = some (.builtin "max") := by decide +kernel
theorem boot_min' : bootBuiltins "min" = some (.builtin "min") := by decide +kernel
theorem boot_sum' : bootBuiltins "sum" = some (.builtin "sum") := by decide +kernel
theorem boot_all' : bootBuiltins "all" = some (.builtin "all") := by decide +kernel
theorem boot_int' : bootBuiltins "int" = some (.type "int") := by decide +kernel
theorem boot_bool' : bootBuiltins "bool" = some (.type "bool") := by decide +kernel
theorem boot_list' : bootBuiltins "list" = some (.type "list") := by decide +kernel
theorem boot_tuple' : bootBuiltins "tuple" = some (.type "tuple") := by decide +kernel

section
variable {X : Cx} {po : Option Addr} {tg elt iter a b c e : Expr} {es : List Expr} {ifs : List Expr} {ρ : Env'} {Φ : Dat → Prop} {P : Post} {scope : Scope} {own : List (Str × Nat)} {g : TG} {R : Dat → (Env' → Env') → Prop} {pos p : Pos} {x : Str}
/-! built-ins in short -/
theorem JE.len (hg : Gl X "len") (hm : X.mg "len" = none) (h : JE X po e ρ fun d => ∃ ds, (d = .list ds ∨ d = .tuple ds) ∧ Φ (.int ds.length))
    (he : starEach [e] X.env = (false, eval e X.env) :: starEach [] X.env := by rfl) (hpl : (backTo pos (starEach [] X.env)).any (·.1) = false := by rfl) : JE X po (.Call (.Name "len" p) [e] [] pos) ρ Φ :=
  .callB hg hm boot_len' (.cons (h.mono fun d ⟨ds, hd, k⟩ => .nil (by rcases hd with rfl | rfl; exact .lenL k; exact .lenT k)) he) (by decide) (by decide) he hpl
theorem JE.toInt (hg : Gl X "int") (hm : X.mg "int" = none) (h : JE X po e ρ fun d => ∃ i, d = .int i ∧ Φ (.int i))
    (he : starEach [e] X.env = (false, eval e X.env) :: starEach [] X.env := by rfl) (hpl : (backTo pos (starEach [] X.env)).any (·.1) = false := by rfl) : JE X po (.Call (.Name "int" p) [e] [] pos) ρ Φ :=
  .callTy hg hm boot_int' (.cons (h.mono fun d ⟨i, hd, k⟩ => .nil (by subst hd; exact .toInt k)) he) (by decide) (by decide) he hpl
theorem JE.abs (hg : Gl X "abs") (hm : X.mg "abs" = none) (h : JE X po e ρ fun d => ∃ i : Int, d = .int i ∧ Φ (.int (i.natAbs : Nat)))
    (he : starEach [e] X.env = (false, eval e X.env) :: starEach [] X.env := by rfl) (hpl : (backTo pos (starEach [] X.env)).any (·.1) = false := by rfl) : JE X po (.Call (.Name "abs" p) [e] [] pos) ρ Φ :=
  .callB hg hm boot_abs' (.cons (h.mono fun d ⟨i, hd, k⟩ => .nil (by
    subst hd
    refine .abs ?_
    have : (if i < 0 then -i else i) = ((i.natAbs : Nat) : Int) := by split <;> omega
    rw [this]; exact k)) he) (by decide) (by decide) he hpl
theorem JE.max2 (hc : X.calm = true) (hg : Gl X "max") (hm : X.mg "max" = none) (h : JE X po a ρ fun d => JE X po b ρ fun d' => ∃ i j : Int, d = .int i ∧ d' = .int j ∧ Φ (.int (Max.max i j)))
    (he : starEach [a, b] X.env = (false, eval a X.env) :: starEach [b] X.env := by rfl) (he2 : starEach [b] X.env = (false, eval b X.env) :: starEach [] X.env := by rfl) (hpl : (backTo pos (starEach [b] X.env)).any (·.1) = false := by rfl) : JE X po (.Call (.Name "max" p) [a, b] [] pos) ρ Φ :=
  .callB hg hm boot_max' (.cons (h.mono fun d h' => .cons (h'.mono fun d' ⟨i, j, hd, hd', k⟩ => .nil (by
    subst hd hd'
    refine .max2 hc ?_
    have : (if j > i then j else i) = Max.max i j := by split <;> omega
    rw [this]; exact k)) he2) he) (by decide) (by decide) he hpl
theorem JE.min2 (hc : X.calm = true) (hg : Gl X "min") (hm : X.mg "min" = none) (h : JE X po a ρ fun d => JE X po b ρ fun d' => ∃ i j : Int, d = .int i ∧ d' = .int j ∧ Φ (.int (Min.min i j)))
    (he : starEach [a, b] X.env = (false, eval a X.env) :: starEach [b] X.env := by rfl) (he2 : starEach [b] X.env = (false, eval b X.env) :: starEach [] X.env := by rfl) (hpl : (backTo pos (starEach [b] X.env)).any (·.1) = false := by rfl) : JE X po (.Call (.Name "min" p) [a, b] [] pos) ρ Φ :=
  .callB hg hm boot_min' (.cons (h.mono fun d h' => .cons (h'.mono fun d' ⟨i, j, hd, hd', k⟩ => .nil (by
    subst hd hd'
    refine .min2 hc ?_
    have : (if j < i then j else i) = Min.min i j := by split <;> omega
    rw [this]; exact k)) he2) he) (by decide) (by decide) he hpl
theorem JE.sum (hc : X.calm = true) (hg : Gl X "sum") (hm : X.mg "sum" = none) (h : JE X po e ρ fun d => ∃ ns, d = LI ns ∧ Φ (.int ns.sum))
    (he : starEach [e] X.env = (false, eval e X.env) :: starEach [] X.env := by rfl) (hpl : (backTo pos (starEach [] X.env)).any (·.1) = false := by rfl) : JE X po (.Call (.Name "sum" p) [e] [] pos) ρ Φ :=
  .callB hg hm boot_sum' (.cons (h.mono fun d ⟨ns, hd, k⟩ => .nil (by subst hd; exact .sumI hc k)) he) (by decide) (by decide) he hpl
theorem JE.all (hc : X.calm = true) (hg : Gl X "all") (hm : X.mg "all" = none) (h : JE X po e ρ fun d => ∃ bs : List Bool, d = .list (bs.map .bool) ∧ Φ (.bool (bs.all id)))
    (he : starEach [e] X.env = (false, eval e X.env) :: starEach [] X.env := by rfl) (hpl : (backTo pos (starEach [] X.env)).any (·.1) = false := by rfl) : JE X po (.Call (.Name "all" p) [e] [] pos) ρ Φ :=
  .callB hg hm boot_all' (.cons (h.mono fun d ⟨ns, hd, k⟩ => .nil (by subst hd; exact .allB hc k)) he) (by decide) (by decide) he hpl
theorem JE.listOf (hg : Gl X "list") (hm : X.mg "list" = none) (h : JE X po e ρ fun d => ∃ ds, (d = .list ds ∨ d = .tuple ds) ∧ Φ (.list ds))
    (he : starEach [e] X.env = (false, eval e X.env) :: starEach [] X.env := by rfl) (hpl : (backTo pos (starEach [] X.env)).any (·.1) = false := by rfl) : JE X po (.Call (.Name "list" p) [e] [] pos) ρ Φ :=
  .callTy hg hm boot_list' (.cons (h.mono fun d ⟨ds, hd, k⟩ => .nil (by rcases hd with rfl | rfl; exact .listL k; exact .listT k)) he) (by decide) (by decide) he hpl
theorem JE.tupOf (hg : Gl X "tuple") (hm : X.mg "tuple" = none) (h : JE X po e ρ fun d => ∃ ds, (d = .list ds ∨ d = .tuple ds) ∧ Φ (.tuple ds))
    (he : starEach [e] X.env = (false, eval e X.env) :: starEach [] X.env := by rfl) (hpl : (backTo pos (starEach [] X.env)).any (·.1) = false := by rfl) : JE X po (.Call (.Name "tuple" p) [e] [] pos) ρ Φ :=
  .callTy hg hm boot_tuple' (.cons (h.mono fun d ⟨ds, hd, k⟩ => .nil (by rcases hd with rfl | rfl; exact .tupL k; exact .tupT k)) he) (by decide) (by decide) he hpl
theorem JE.gcd (hg : Gl X "gcd") (hm : X.mg "gcd" = some (.builtin "math.gcd")) (h : JE X po a ρ fun d => JE X po b ρ fun d' => ∃ i j : Int, d = .int i ∧ d' = .int j ∧ Φ (.int (Nat.gcd i.natAbs j.natAbs : Nat)))
    (he : starEach [a, b] X.env = (false, eval a X.env) :: starEach [b] X.env := by rfl) (he2 : starEach [b] X.env = (false, eval b X.env) :: starEach [] X.env := by rfl) (hpl : (backTo pos (starEach [b] X.env)).any (·.1) = false := by rfl) : JE X po (.Call (.Name "gcd" p) [a, b] [] pos) ρ Φ :=
  .callBm hg hm (.cons (h.mono fun d h' => .cons (h'.mono fun d' ⟨i, j, hd, hd', k⟩ => .nil (by subst hd hd'; exact .gcd k)) he2) he) (by decide) he hpl
theorem JE.comb (hg : Gl X "comb") (hm : X.mg "comb" = some (.builtin "math.comb")) (h : JE X po a ρ fun d => JE X po b ρ fun d' => ∃ n k : Nat, d = .int n ∧ d' = .int k ∧ k ≤ n ∧ n ≤ 18000 ∧ Φ (.int (choose n k : Nat)))
    (he : starEach [a, b] X.env = (false, eval a X.env) :: starEach [b] X.env := by rfl) (he2 : starEach [b] X.env = (false, eval b X.env) :: starEach [] X.env := by rfl) (hpl : (backTo pos (starEach [b] X.env)).any (·.1) = false := by rfl) : JE X po (.Call (.Name "comb" p) [a, b] [] pos) ρ Φ :=
  .callBm hg hm (.cons (h.mono fun d h' => .cons (h'.mono fun d' ⟨i, j, hd, hd', h1, h2, k⟩ => .nil (by subst hd hd'; exact .comb h1 h2 k)) he2) he) (by decide) he hpl

/-! comprehensions that map -/
theorem JE.lcm (hc : X.calm = true) (hN : X.N.Nodup) (ok : BlkOk X.N X.env.scope scope own) (hg : ∀ (s : Shared) (H : Hp) (C : Addr) (cl : List (Str × Addr)) (fp : List Addr), PG (X.blk s H scope (compEnvC scope cl C X.env) fp) tg g) (gd : GD g (own.map (·.2)) R)
    (h : JI X po tg iter ρ fun ds => ∃ rs : List Dat, rs.length = ds.length ∧ (∀ (i : Nat) d r, ds[i]? = some d → rs[i]? = some r → ∃ u, R d u ∧ JB X scope po elt (u (wipeE ρ (own.map (·.2)))) fun y => y = r) ∧ Φ (.list rs))
    (hs : ∀ x, foldedSetIterable iter X.env x = pure x := by intro _; rfl) : JE X po (.ListComp elt [⟨tg, iter, [], 0⟩] scope pos) ρ Φ :=
  .lc hc hN ok hg gd (by decide) (fun pins s σ F H R I S k => h pins s σ F H R I S fun J F' H' ds ⟨rs, hl, st, fin⟩ A Y => k J F' H' ds ⟨fun i acc => acc = rs.take i, by simp, fun i d acc hd _ ha => by
      have hi : i < rs.length := by rw [hl]; exact (List.getElem?_eq_some_iff.mp hd).1
      obtain ⟨u, hu, hb⟩ := st i d rs[i] hd (List.getElem?_eq_getElem hi)
      refine ⟨u, hu, fun s H C cl fp => (hb s H C cl fp).mono fun y hy => ?_⟩
      subst ha hy
      rw [List.take_succ_eq_append_getElem hi], fun acc _ ha => by
      subst ha
      rw [← hl, List.take_length]; exact fin⟩ A Y) hs
theorem JS.setLcm (i : Nat) {py spos : Pos} (hc : X.calm = true) (hN : X.N.Nodup) (ok : BlkOk X.N X.env.scope scope own)
    (hg : ∀ (s : Shared) (H : Hp) (C : Addr) (cl : List (Str × Addr)) (fp : List Addr), PG (X.blk s H scope (compEnvC scope cl C X.env) fp) tg g) (gd : GD g (own.map (·.2)) R)
    (h : JI X po tg iter ρ fun ds => ∃ rs : List Dat, rs.length = ds.length ∧ (∀ (i : Nat) d r, ds[i]? = some d → rs[i]? = some r → ∃ u, R d u ∧ JB X scope po elt (u (wipeE ρ (own.map (·.2)))) fun y => y = r) ∧ P.nx (ρ.set i (.d (.list rs))))
    (hy : X.N[i]? = some x := by rfl) (hyl : X.env.scope.names.lookup x = some .local := by rfl) (hsw : swapsWith (.ListComp elt [⟨tg, iter, [], 0⟩] scope pos) (some (.Name x py)) spos.line X.env = pure true := by exact sw_true rfl rfl rfl (by decide +kernel))
    (hs : ∀ x, foldedSetIterable iter X.env x = pure x := by intro _; rfl) : JS X po (.Assign [.Name x py] (.ListComp elt [⟨tg, iter, [], 0⟩] scope pos) spos) ρ P :=
  .setLc i hc hN ok hg gd (by decide) (fun pins s σ F H R I S k => h pins s σ F H R I S fun J F' H' ds ⟨rs, hl, st, fin⟩ A Y => k J F' H' ds ⟨fun i acc => acc = rs.take i, by simp, fun i d acc hd _ ha => by
      have hi : i < rs.length := by rw [hl]; exact (List.getElem?_eq_some_iff.mp hd).1
      obtain ⟨u, hu, hb⟩ := st i d rs[i] hd (List.getElem?_eq_getElem hi)
      refine ⟨u, hu, fun s H C cl fp => (hb s H C cl fp).mono fun y hy => ?_⟩
      subst ha hy
      rw [List.take_succ_eq_append_getElem hi], fun acc _ ha => by
      subst ha
      rw [← hl, List.take_length]; exact fin⟩ A Y) hy hyl hsw hs
end

/-! ### rows of whole numbers -/
theorem at_nat {ns : List Int} {i : Nat} (h : i < ns.length) : atI (ns.map PyData.int) (i : Int) = some (.int (ns.getD i 0)) := by
  refine atI_nat ?_
  rw [List.getElem?_map, List.getElem?_eq_getElem h]
  simp [List.getD, h]
theorem at_int {ns : List Int} {i : Int} (h0 : 0 ≤ i) (h : i < ns.length) : atI (ns.map PyData.int) i = some (.int (ns.getD i.toNat 0)) := by
  have e : i = ((i.toNat : Nat) : Int) := by omega
  have q := at_nat (ns := ns) (i := i.toNat) (by omega)
  rw [← e] at q
  exact q
theorem at_last {ns : List Int} (h : ns ≠ []) : atI (ns.map PyData.int) (-1) = some (.int (ns.getD (ns.length - 1) 0)) := by
  have hl : 0 < ns.length := List.length_pos_iff.mpr h
  unfold atI ixN
  have h1 : ¬ (0 : Int) ≤ -1 := by decide
  rw [if_neg h1, if_pos (by simp; omega)]
  have e : ((-1 : Int) + ((ns.map PyData.int).length : Nat)).toNat = ns.length - 1 := by simp; omega
  rw [e]
  show (ns.map PyData.int)[ns.length - 1]? = _
  rw [List.getElem?_map, List.getElem?_eq_getElem (by omega)]
  have : ns.length - 1 < ns.length := by omega
  simp [List.getD, this]
theorem get_ints {ns : List Int} {i : Nat} {d : Dat} (h : (ns.map PyData.int)[i]? = some d) : i < ns.length ∧ d = .int (ns.getD i 0) := by
  rw [List.getElem?_map] at h
  cases q : ns[i]? with
  | none => rw [q] at h; cases h
  | some n =>
    rw [q] at h
    refine ⟨(List.getElem?_eq_some_iff.mp q).1, ?_⟩
    have e : d = .int n := (Option.some.inj h).symm
    rw [e]
    simp [List.getD, q]
theorem get_rng {lo : Int} {n i : Nat} {d : Dat} (h : (rng lo n)[i]? = some d) : i < n ∧ d = .int (lo + (i : Nat)) := by
  unfold rng at h
  have hi : i < n := by have := (List.getElem?_eq_some_iff.mp h).1; simpa using this
  rw [List.getElem?_map, List.getElem?_range hi] at h
  exact ⟨hi, (Option.some.inj h).symm⟩
theorem rng_len (lo : Int) (n : Nat) : (rng lo n).length = n := by simp [rng]
theorem sq_or (b : Bool) (ns : List Int) : SQ b ns = .list (ns.map .int) ∨ SQ b ns = .tuple (ns.map .int) := by cases b; exact .inr rfl; exact .inl rfl
/-! ### comprehensions over ints, ranges and numbered ints -/
theorem SeerX.blk {X : Cx} (h : SeerX X) {s : Shared} {H : Hp} {scope : Scope} {cenv : Env} {fp : List Addr} : SeerX (X.blk s H scope cenv fp) := ⟨h.depth, h.tree, h.seer, h.top⟩
theorem get_map {α β : Type} {xs : List α} {g : α → β} {i : Nat} {r : β} (h : (xs.map g)[i]? = some r) : ∃ x, xs[i]? = some x ∧ r = g x := by
  rw [List.getElem?_map] at h
  cases q : xs[i]? with
  | none => rw [q] at h; cases h
  | some x => rw [q] at h; exact ⟨x, rfl, (Option.some.inj h).symm⟩
theorem get_enum {ns : List Int} {i : Nat} {d : Dat} (h : (enum (ns.map .int))[i]? = some d) : i < ns.length ∧ d = .tuple [.int (i : Nat), .int (ns.getD i 0)] := by
  have hi : i < ns.length := by have := (List.getElem?_eq_some_iff.mp h).1; simpa [enum] using this
  unfold enum at h
  rw [List.getElem?_map, List.getElem?_range (by simpa using hi)] at h
  refine ⟨hi, ?_⟩
  rw [← Option.some.inj h]
  simp [List.getD, hi]
/-- numbers with their places -/
def imap (ns : List Int) (f : Nat → Int → Int) : List Int := (List.range ns.length).map fun i => f i (ns.getD i 0)
theorem imap_len (ns : List Int) (f : Nat → Int → Int) : (imap ns f).length = ns.length := by simp [imap]
theorem imap_get {ns : List Int} {f : Nat → Int → Int} {i : Nat} (h : i < ns.length) : (imap ns f).getD i 0 = f i (ns.getD i 0) := by simp [imap, List.getD, h]
theorem get_imap {ns : List Int} {f : Nat → Int → Int} {i : Nat} {r : Dat} (h : ((imap ns f).map PyData.int)[i]? = some r) : i < ns.length ∧ r = .int (f i (ns.getD i 0)) := by
  obtain ⟨hi, e⟩ := get_ints h
  rw [imap_len] at hi
  exact ⟨hi, by rw [e, imap_get hi]⟩
section
variable {X : Cx} {po : Option Addr} {elt e : Expr} {ρ : Env'} {Φ : Dat → Prop} {scope : Scope} {pos p : Pos} {tg : Expr} {iter : Expr} {y y2 : Str}
/-- `[elt for y in e]` over a row of numbers -/
theorem JE.lcI (j : Nat) (hc : X.calm = true) (hN : X.N.Nodup) (ok : BlkOk X.N X.env.scope scope [(y, j)]) (hg : ∀ (s : Shared) (H : Hp) (C : Addr) (cl : List (Str × Addr)) (fp : List Addr), PG (X.blk s H scope (compEnvC scope cl C X.env) fp) tg (gName j))
    (h : JE X po iter ρ fun d => ∃ ns sq, d = SQ sq ns ∧ ∃ f : Int → Int, (∀ i, i < ns.length → JB X scope po elt ((ρ.set j .x).set j (.d (.int (ns.getD i 0)))) fun v => v = .int (f (ns.getD i 0))) ∧ Φ (LI (ns.map f)))
    (hs : ∀ x, foldedSetIterable iter X.env x = pure x := by intro _; rfl) : JE X po (.ListComp elt [⟨tg, iter, [], 0⟩] scope pos) ρ Φ :=
  .lcm hc hN ok hg (gd1 j) (.seq (h.mono fun d ⟨ns, sq, hd, f, st, fin⟩ => ⟨ns.map .int, hd ▸ sq_or sq ns, (ns.map f).map .int, by simp, fun i d r h1 h2 => by
    obtain ⟨hi, rfl⟩ := get_ints h1
    obtain ⟨_, e⟩ := get_ints h2
    refine ⟨_, rfl, ?_⟩
    have := st i hi
    rw [e]
    have e2 : (ns.map f).getD i 0 = f (ns.getD i 0) := by simp [List.getD, hi]
    rw [e2]
    exact this, fin⟩)) hs
/-- `[elt for y in range(n)]` -/
theorem JE.lcR (j : Nat) {a : Expr} {rpos rp : Pos} (hc : X.calm = true) (hN : X.N.Nodup) (ok : BlkOk X.N X.env.scope scope [(y, j)]) (hg : ∀ (s : Shared) (H : Hp) (C : Addr) (cl : List (Str × Addr)) (fp : List Addr), PG (X.blk s H scope (compEnvC scope cl C X.env) fp) tg (gName j))
    (hgr : Gl X "range") (hmr : X.mg "range" = none)
    (h : JE X po a ρ fun d => ∃ n : Nat, d = .int n ∧ n ≤ 2 ^ 20 ∧ ∃ g : Nat → Dat, (∀ i, i < n → JB X scope po elt ((ρ.set j .x).set j (.d (.int (i : Nat)))) fun v => v = g i) ∧ Φ (.list ((List.range n).map g)))
    (hsr : starEach [a] X.env = [(false, eval a X.env)] := by rfl) 
    (hs : ∀ x, foldedSetIterable (.Call (.Name "range" rp) [a] [] rpos) X.env x = pure x := by intro _; rfl) : JE X po (.ListComp elt [⟨tg, .Call (.Name "range" rp) [a] [] rpos, [], 0⟩] scope pos) ρ Φ :=
  .lcm hc hN ok hg (gd1 j) (.range1 hgr hmr (.cons (h.mono fun d ⟨n, hd, hn, g, st, fin⟩ => .nil ⟨n, by rw [hd], by omega, by show n ≤ sizeLine; exact Nat.le_trans hn (by decide), (List.range n).map g, by simp [rng], fun i d r h1 h2 => by
    obtain ⟨hi, rfl⟩ := get_rng h1
    obtain ⟨x, hx, rfl⟩ := get_map h2
    have : x = i := by rw [List.getElem?_range (show i < n from hi)] at hx; exact (Option.some.inj hx).symm
    subst this
    refine ⟨_, rfl, ?_⟩
    have := st x hi
    rw [show (0 : Int) + ((x : Nat) : Int) = (x : Nat) by omega]
    exact this, fin⟩) hsr) hsr) hs
/-- `[elt for y, y2 in enumerate(e)]` over a row of numbers -/
theorem JE.lcE (j j2 : Nat) {k : Frag} (hc : X.calm = true) (hN : X.N.Nodup) (hj : j ≠ j2) (ok : BlkOk X.N X.env.scope scope [(y, j), (y2, j2)]) (hg : ∀ (s : Shared) (H : Hp) (C : Addr) (cl : List (Str × Addr)) (fp : List Addr), PG (X.blk s H scope (compEnvC scope cl C X.env) fp) tg (gTup k 2 (gCons (gName j) (gCons (gName j2) gNil))))
    (h : JI X po tg iter ρ fun ds => ∃ ns, ds = enum (ns.map .int) ∧ ∃ f : Nat → Int → Int, (∀ i, i < ns.length → JB X scope po elt ((((ρ.set j2 .x).set j .x).set j (.d (.int (i : Nat)))).set j2 (.d (.int (ns.getD i 0)))) fun v => v = .int (f i (ns.getD i 0))) ∧ Φ (LI (imap ns f)))
    (hs : ∀ x, foldedSetIterable iter X.env x = pure x := by intro _; rfl) : JE X po (.ListComp elt [⟨tg, iter, [], 0⟩] scope pos) ρ Φ :=
  .lcm hc hN ok hg (gd2 hj) (fun pins s σ F H R I S q => h pins s σ F H R I S fun J F' H' ds ⟨ns, hd, f, st, fin⟩ A Y => q J F' H' ds ⟨(imap ns f).map .int, by rw [hd]; simp [imap, enum], fun i d r h1 h2 => by
    subst hd
    obtain ⟨hi, rfl⟩ := get_enum h1
    obtain ⟨_, rfl⟩ := get_imap h2
    exact ⟨_, ⟨_, _, rfl, rfl⟩, st i hi⟩, fin⟩ A Y) hs
theorem JS.setLcE (m : Nat) (j j2 : Nat) {P : Post} {x : Str} {py spos : Pos} {k : Frag} (hc : X.calm = true) (hN : X.N.Nodup) (hj : j ≠ j2) (ok : BlkOk X.N X.env.scope scope [(y, j), (y2, j2)]) (hg : ∀ (s : Shared) (H : Hp) (C : Addr) (cl : List (Str × Addr)) (fp : List Addr), PG (X.blk s H scope (compEnvC scope cl C X.env) fp) tg (gTup k 2 (gCons (gName j) (gCons (gName j2) gNil))))
    (h : JI X po tg iter ρ fun ds => ∃ ns, ds = enum (ns.map .int) ∧ ∃ f : Nat → Int → Int, (∀ i, i < ns.length → JB X scope po elt ((((ρ.set j2 .x).set j .x).set j (.d (.int (i : Nat)))).set j2 (.d (.int (ns.getD i 0)))) fun v => v = .int (f i (ns.getD i 0))) ∧ P.nx (ρ.set m (.d (LI (imap ns f)))))
    (hy : X.N[m]? = some x := by rfl) (hyl : X.env.scope.names.lookup x = some .local := by rfl) (hsw : swapsWith (.ListComp elt [⟨tg, iter, [], 0⟩] scope pos) (some (.Name x py)) spos.line X.env = pure true := by exact sw_true rfl rfl rfl (by decide +kernel))
    (hs : ∀ x, foldedSetIterable iter X.env x = pure x := by intro _; rfl) : JS X po (.Assign [.Name x py] (.ListComp elt [⟨tg, iter, [], 0⟩] scope pos) spos) ρ P :=
  .setLcm m hc hN ok hg (gd2 hj) (fun pins s σ F H R I S q => h pins s σ F H R I S fun J F' H' ds ⟨ns, hd, f, st, fin⟩ A Y => q J F' H' ds ⟨(imap ns f).map .int, by rw [hd]; simp [imap, enum], fun i d r h1 h2 => by
    subst hd
    obtain ⟨hi, rfl⟩ := get_enum h1
    obtain ⟨_, rfl⟩ := get_imap h2
    exact ⟨_, ⟨_, _, rfl, rfl⟩, st i hi⟩, fin⟩ A Y) hy hyl hsw hs
/-- `name = [elt for y in range(n)]` -/
theorem JS.setLcR (m : Nat) (j : Nat) {P : Post} {x : Str} {py spos : Pos} {a : Expr} {rpos rp : Pos} (hc : X.calm = true) (hN : X.N.Nodup) (ok : BlkOk X.N X.env.scope scope [(y, j)]) (hg : ∀ (s : Shared) (H : Hp) (C : Addr) (cl : List (Str × Addr)) (fp : List Addr), PG (X.blk s H scope (compEnvC scope cl C X.env) fp) tg (gName j))
    (hgr : Gl X "range") (hmr : X.mg "range" = none)
    (h : JE X po a ρ fun d => ∃ n : Nat, d = .int n ∧ n ≤ 2 ^ 20 ∧ ∃ g : Nat → Dat, (∀ i, i < n → JB X scope po elt ((ρ.set j .x).set j (.d (.int (i : Nat)))) fun v => v = g i) ∧ P.nx (ρ.set m (.d (.list ((List.range n).map g)))))
    (hy : X.N[m]? = some x := by rfl) (hyl : X.env.scope.names.lookup x = some .local := by rfl) (hsw : swapsWith (.ListComp elt [⟨tg, .Call (.Name "range" rp) [a] [] rpos, [], 0⟩] scope pos) (some (.Name x py)) spos.line X.env = pure true := by exact sw_true rfl rfl rfl (by decide +kernel))
    (hsr : starEach [a] X.env = [(false, eval a X.env)] := by rfl) 
    (hs : ∀ x, foldedSetIterable (.Call (.Name "range" rp) [a] [] rpos) X.env x = pure x := by intro _; rfl) : JS X po (.Assign [.Name x py] (.ListComp elt [⟨tg, .Call (.Name "range" rp) [a] [] rpos, [], 0⟩] scope pos) spos) ρ P :=
  .setLcm m hc hN ok hg (gd1 j) (.range1 hgr hmr (.cons (h.mono fun d ⟨n, hd, hn, g, st, fin⟩ => .nil ⟨n, by rw [hd], by omega, by show n ≤ sizeLine; exact Nat.le_trans hn (by decide), (List.range n).map g, by simp [rng], fun i d r h1 h2 => by
    obtain ⟨hi, rfl⟩ := get_rng h1
    obtain ⟨x, hx, rfl⟩ := get_map h2
    have : x = i := by rw [List.getElem?_range (show i < n from hi)] at hx; exact (Option.some.inj hx).symm
    subst this
    refine ⟨_, rfl, ?_⟩
    have := st x hi
    rw [show (0 : Int) + ((x : Nat) : Int) = (x : Nat) by omega]
    exact this, fin⟩) hsr) hsr) hy hyl hsw hs
end
theorem emp_dec (ns : List Int) : (ns.map PyData.int).isEmpty = decide (ns = []) := by cases ns <;> simp
theorem rep0 (n : Nat) (z : Int) : (List.replicate n [PyData.int z]).flatten = (List.replicate n z).map PyData.int := by
  induction n with
  | zero => rfl
  | succ n ih => rw [List.replicate_succ, List.flatten_cons, ih, List.replicate_succ]; rfl
theorem ix_nat {n : Nat} {i : Int} (h0 : 0 ≤ i) (h : i < n) : ixN n i = some i.toNat := by
  unfold ixN
  rw [if_pos h0, if_pos (by omega)]
section
variable {X : Cx} {po : Option Addr} {elt e : Expr} {ρ : Env'} {Φ : Dat → Prop} {scope : Scope} {pos p : Pos} {tg : Expr} {iter : Expr} {y y2 : Str}
theorem JE.globI {x : Str} {i : Int} {t : Tok} (hg : Gl X x) (hm : X.mg x = some (.int i t)) (k : Φ (.int i)) (hd : (x == ("__debug__" : Str)) = false := by decide) : JE X po (.Name x pos) ρ Φ :=
  .of (pe_glob (v := .int i) hg hm ⟨_, rfl⟩ hd) fun σ F H Q S q => q _ F H _ k (.refl S.sub S.pool) (.int i)
/-- `[elt for y in range(a, b)]` -/
theorem JE.lcR2 (j : Nat) {a b : Expr} {rpos rp : Pos} (hc : X.calm = true) (hN : X.N.Nodup) (ok : BlkOk X.N X.env.scope scope [(y, j)]) (hg : ∀ (s : Shared) (H : Hp) (C : Addr) (cl : List (Str × Addr)) (fp : List Addr), PG (X.blk s H scope (compEnvC scope cl C X.env) fp) tg (gName j))
    (hgr : Gl X "range") (hmr : X.mg "range" = none)
    (h : JE X po a ρ fun d => JE X po b ρ fun d' => ∃ lo hi : Nat, d = .int lo ∧ d' = .int hi ∧ hi ≤ 2 ^ 20 ∧ lo ≤ 2 ^ 20 ∧ ∃ g : Nat → Dat, (∀ i, i < hi - lo → JB X scope po elt ((ρ.set j .x).set j (.d (.int ((lo + i : Nat) : Int)))) fun v => v = g i) ∧ Φ (.list ((List.range (hi - lo)).map g)))
    (hsr : starEach [a, b] X.env = [(false, eval a X.env), (false, eval b X.env)] := by rfl) (hsr1 : starEach [a, b] X.env = (false, eval a X.env) :: starEach [b] X.env := by rfl) (hsr2 : starEach [b] X.env = (false, eval b X.env) :: starEach [] X.env := by rfl)
    (hs : ∀ x, foldedSetIterable (.Call (.Name "range" rp) [a, b] [] rpos) X.env x = pure x := by intro _; rfl) : JE X po (.ListComp elt [⟨tg, .Call (.Name "range" rp) [a, b] [] rpos, [], 0⟩] scope pos) ρ Φ :=
  .lcm hc hN ok hg (gd1 j) (.range2 hgr hmr (.cons (h.mono fun d h' => .cons (h'.mono fun d' ⟨lo, up, hd, hd', h1, h2, g, st, fin⟩ => .nil ⟨lo, up, by rw [hd, hd'], by omega, by show _ ≤ 2 ^ 24; omega, (List.range (up - lo)).map g, by simp only [rng, List.length_map, List.length_range]; omega, fun i d r h1 h2 => by
    obtain ⟨hi, rfl⟩ := get_rng h1
    obtain ⟨x, hx, rfl⟩ := get_map h2
    have hi' : i < up - lo := by omega
    have : x = i := by rw [List.getElem?_range hi'] at hx; exact (Option.some.inj hx).symm
    subst this
    refine ⟨_, rfl, ?_⟩
    have := st x hi'
    rw [show (lo : Int) + ((x : Nat) : Int) = ((lo + x : Nat) : Int) by omega]
    exact this, fin⟩) hsr2) hsr1) hsr hsr2) hs
end
end PD
end

section
set_option Elab.async false
set_option linter.all false
set_option maxRecDepth 100000
set_option maxHeartbeats 4000000
/-! PDk: a def that reads and changes the pool, by what stands in it. -/
namespace PD
open PySem PySem.Spec PyProof.Rows L2
/-- what stands in the pool -/
structure Pv where
  c : Addr
  cells : List Int
  i : Int
  d : Int
  m : Int
abbrev Pv.row (v : Pv) : List V := [.ref v.c, .int v.i, .int v.d, .int v.m]
abbrev Pv.dat (v : Pv) : Dat := .list [LI v.cells, .int v.i, .int v.d, .int v.m]
structure Pv.Ok (v : Pv) : Prop where
  cells : ∀ x ∈ v.cells, 0 ≤ x
  i : 0 ≤ v.i
  d : 0 ≤ v.d
  m0 : 0 ≤ v.m
  m1 : v.m < 2147483647
structure PSt (a : Addr) (v : Pv) (F H : Hp) : Prop where
  fa : F a = none
  at_ : H a = some (.lst v.row)
  fc : F v.c = some (.lst (v.cells.map V.int))
  ok : v.Ok
theorem PSt.pool {a : Addr} {v : Pv} {F H : Hp} (p : PSt a v F H) : Pool F H a := ⟨p.fa, v.c, v.cells, v.i, v.d, v.m, p.at_, p.fc, p.ok.cells, p.ok.i, p.ok.d, p.ok.m0, p.ok.m1⟩
theorem Pool.pst {a : Addr} {F H : Hp} (p : Pool F H a) : ∃ v, PSt a v F H := by
  obtain ⟨fa, c, cells, i, d, m, h, hc, h1, h2, h3, h4, h5⟩ := p
  exact ⟨⟨c, cells, i, d, m⟩, fa, h, hc, ⟨h1, h2, h3, h4, h5⟩⟩
/-- what is wanted behind -/
structure PPost where
  nx : Pv → Env' → Prop
  rt : Dat → Prop
structure LkP (a : Addr) (F0 H0 : Hp) (P : PPost) (D : Ends) : Prop where
  nx : ∀ σ F H ρ v, P.nx v ρ → SS (some a) F0 H0 σ F H ρ → PSt a v F H → D.nx σ H
  rt : ∀ u F H d, P.rt d → Adv (some a) F0 H0 F H → Dv F u d → D.rt u H
def JP (X : Cx) (a : Addr) (v : Pv) (st : Stmt) (ρ : Env') (P : PPost) : Prop :=
  ∀ (pins : List (Addr × Obj)) (s : Shared) (σ : L2.St) (F0 H0 F H : Hp) (D : Ends), Inv X pins σ H s → SS (some a) F0 H0 σ F H ρ → PSt a v F H → LkP a F0 H0 P D →
    wpAny (model X.prog X.w) X.A (exec st X.env) (SP X pins D) X.xe s
def JPs (X : Cx) (a : Addr) (v : Pv) (sts : List Stmt) (ρ : Env') (P : PPost) : Prop :=
  ∀ (pins : List (Addr × Obj)) (s : Shared) (σ : L2.St) (F0 H0 F H : Hp) (D : Ends), Inv X pins σ H s → SS (some a) F0 H0 σ F H ρ → PSt a v F H → LkP a F0 H0 P D →
    wpAny (model X.prog X.w) X.A (execs sts X.env) (SP X pins D) X.xe s
section
variable {X : Cx} {a : Addr} {v : Pv} {st : Stmt} {sts rest th el : List Stmt} {ρ : Env'} {P : PPost} {e b c : Expr} {pos pos' : Pos} {x : Str}
def tJP (X : Cx) (a : Addr) (st : Stmt) : TS := fun D σ H => ∃ F0 H0 F v ρ P, JP X a v st ρ P ∧ SS (some a) F0 H0 σ F H ρ ∧ PSt a v F H ∧ LkP a F0 H0 P D
theorem ps_JP : PS X st (tJP X a st) := ⟨fun pins s σ H D I ⟨F0, H0, F, v, ρ, P, j, S, p, k⟩ => j pins s σ F0 H0 F H D I S p k⟩
def tJPs (X : Cx) (a : Addr) (sts : List Stmt) : TS := fun D σ H => ∃ F0 H0 F v ρ P, JPs X a v sts ρ P ∧ SS (some a) F0 H0 σ F H ρ ∧ PSt a v F H ∧ LkP a F0 H0 P D
theorem pss_JP : PSs X sts (tJPs X a sts) := ⟨fun pins s σ H D I ⟨F0, H0, F, v, ρ, P, j, S, p, k⟩ => j pins s σ F0 H0 F H D I S p k⟩
theorem JP.of {t : TS} (h : PS X st t) (hw : ∀ σ F0 H0 F H (D : Ends), SS (some a) F0 H0 σ F H ρ → PSt a v F H → LkP a F0 H0 P D → t D σ H) : JP X a v st ρ P :=
  fun pins s σ F0 H0 F H D I S p k => h.run pins s σ H D I (hw σ F0 H0 F H D S p k)
theorem JPs.of {t : TS} (h : PSs X sts t) (hw : ∀ σ F0 H0 F H (D : Ends), SS (some a) F0 H0 σ F H ρ → PSt a v F H → LkP a F0 H0 P D → t D σ H) : JPs X a v sts ρ P :=
  fun pins s σ F0 H0 F H D I S p k => h.run pins s σ H D I (hw σ F0 H0 F H D S p k)
theorem JPs.nil (k : P.nx v ρ) : JPs X a v [] ρ P := .of pss_nil fun σ F0 H0 F H D S p l => l.nx σ F H ρ v k S p
theorem JPs.one (h : JP X a v st ρ P) : JPs X a v [st] ρ P := .of (pss_one (ps_JP (a := a))) fun σ F0 H0 F H D S p l => ⟨F0, H0, F, v, ρ, P, h, S, p, l⟩
theorem JPs.cons (h : JP X a v st ρ { P with nx := fun v' ρ' => JPs X a v' rest ρ' P }) : JPs X a v (st :: rest) ρ P :=
  .of (pss_cons (ps_JP (a := a)) (pss_JP (a := a))) fun σ F0 H0 F H D S p l => ⟨F0, H0, F, v, ρ, _, h, S, p, ⟨fun σ' F' H' ρ' v' j S' p' => ⟨F0, H0, F', v', ρ', P, j, S', p', l⟩, l.rt⟩⟩
theorem JPs.cut (M : Pv → Env' → Prop) (h : JP X a v st ρ { P with nx := M }) (r : ∀ v' ρ', M v' ρ' → JPs X a v' rest ρ' P) : JPs X a v (st :: rest) ρ P :=
  .cons fun pins s σ F0 H0 F H D I S p l => h pins s σ F0 H0 F H D I S p ⟨fun σ F H ρ v m S p => l.nx σ F H ρ v (r v ρ m) S p, l.rt⟩
/-! ### reading -/
def plS (v : Pv) : Sl → Sl
  | .own ds => .x
  | .pool => .d v.dat
  | s => s
def plE (v : Pv) (ρ : Env') : Env' := ρ.map (plS v)
theorem same_up {F : Hp} {a : Addr} {o : HO} (h : F a = none) : Same F (upd F a o) := fun b u e => by rw [upd_ne (ne_of_none e h)]; exact e
theorem Stt.pl {σ : L2.St} {F H : Hp} (S : Stt (some a) σ F H ρ) (p : PSt a v F H) : Stt none σ (upd F a (.lst v.row)) H (plE v ρ) where
  len := by simp [plE, S.len]
  sl := fun i s h => by
    unfold plE at h
    rw [List.getElem?_map] at h
    cases q : ρ[i]? with
    | none => rw [q] at h; cases h
    | some s0 =>
      rw [q] at h
      have h := Option.some.inj h
      obtain ⟨o, e, k⟩ := S.sl i s0 q
      refine ⟨o, e, ?_⟩
      subst h
      cases s0 with
      | x => cases o <;> exact trivial
      | d d =>
        cases o with
        | none => exact k.elim
        | some u => exact dmono (same_up p.fa) k
      | own ds => cases o <;> exact trivial
      | pool =>
        cases o with
        | none => exact k.elim
        | some u =>
          obtain ⟨a', rfl, ha⟩ := k
          cases ha
          exact .lst upd_same (.cons (.lst (same_up p.fa _ _ p.fc) (intsd v.cells)) (.cons (.int _) (.cons (.int _) (.cons (.int _) .nil))))
  sep := fun i j a' ds es h1 h2 h3 h4 => by
    unfold plE at h1
    rw [List.getElem?_map] at h1
    cases q : ρ[i]? with
    | none => rw [q] at h1; cases h1
    | some s0 => rw [q] at h1; cases s0 <;> cases h1
  sub := fun b u h => by
    by_cases e : b = a
    · subst e; rw [upd_same] at h; rw [p.at_]; exact h
    · rw [upd_ne e] at h; exact S.sub b u h
  pool := fun _ h => by cases h
theorem Adv.unpl {σ : L2.St} {F H : Hp} (S : Stt (some a) σ F H ρ) (p : PSt a v F H) {F' H' : Hp} (A : Adv none (upd F a (.lst v.row)) H F' H') : Adv (some a) F H F H' ∧ PSt a v F H' := by
  have h1 : H' a = some (.lst v.row) := A.keep a _ (fun z => by cases z) p.at_
  have ps : PSt a v F H' := ⟨p.fa, h1, p.fc, p.ok⟩
  exact ⟨⟨fun b o _ h => A.keep b o (fun z => by cases z) h, Same.refl F, fun b o h => A.sub b o (A.frz b o (same_up p.fa b o h)), fun b h _ => h, fun b hb => by cases hb; exact ps.pool⟩, ps⟩
/-- e reads the pool and hands back flat data -/
abbrev JR (X : Cx) (v : Pv) (e : Expr) (ρ : Env') (Φ : Dat → Prop) : Prop := JE X none e (plE v ρ) fun d => flat d = true ∧ Φ d
theorem jr_of {Φ : Dat → Prop} {σ : L2.St} {F H : Hp} {Q : VK} (h : JR X v e ρ Φ) (S : Stt (some a) σ F H ρ) (p : PSt a v F H) (q : ∀ u H' d, Φ d → Adv (some a) F H F H' → PSt a v F H' → Dv F u d → Q u H') : tJ X none e σ H Q :=
  tJ_of h (S.pl p) fun u F' H' d ⟨f, k⟩ A r => q u H' d k (Adv.unpl S p A).1 (Adv.unpl S p A).2 (flat_dv f r)
theorem JP.set (i : Nat) (nd : X.N.Nodup) (h : JR X v e ρ fun d => P.nx v (ρ.set i (.d d))) (hi : X.N[i]? = some x := by rfl) (hx : Loc X.env.scope x := by first | exact Or.inl rfl | exact Or.inr rfl) (hs : swapsWith e (some (.Name x pos')) pos.line X.env = pure false := by rfl)
    (hf : X.fn x = true ∨ X.env.scope.names.lookup x = some .local := by first | exact .inl rfl | exact .inr rfl) : JP X a v (.Assign [.Name x pos'] e pos) ρ P :=
  .of (ps_set nd hi hx (pe_J (po := none)) hs hf) fun σ F0 H0 F H D S p l => jr_of h S.st p fun u H' d k A p' r => l.nx _ _ _ _ _ k ((S.advd A).set r) p'
theorem JP.ret (h : JR X v e ρ P.rt) : JP X a v (.Return (some e) pos) ρ P :=
  .of (ps_ret (pe_J (po := none))) fun σ F0 H0 F H D S p l => jr_of h S.st p fun u H' d k A p' r => l.rt u _ H' d k (S.adv.trans A) r
theorem JP.ite (h : JT X none c (plE v ρ) fun b => if b = true then JPs X a v th ρ P else JPs X a v el ρ P) : JP X a v (.If c th el pos) ρ P :=
  .of (ps_if (pt_J (po := none)) (pss_JP (a := a)) (pss_JP (a := a))) fun σ F0 H0 F H D S p l => ttJ_of h (S.st.pl p) fun b F' H' k A => by
    have A' := Adv.unpl S.st p A
    cases b with
    | true => exact iteT ⟨F0, H0, F, v, ρ, P, unT k, S.advd A'.1, A'.2, l⟩
    | false => exact iteF ⟨F0, H0, F, v, ρ, P, unF k, S.advd A'.1, A'.2, l⟩
/-- what the pool becomes -/
def Pv.put (v : Pv) : Nat → Int → Pv
  | 1, z => { v with i := z }
  | 2, z => { v with d := z }
  | _, z => { v with m := z }
theorem SS.putP {F0 H0 : Hp} {σ : L2.St} {F H : Hp} (S : SS (some a) F0 H0 σ F H ρ) (p : PSt a v F H) {v' : Pv} (hc : v'.c = v.c) (hcs : v'.cells = v.cells) (ok : v'.Ok) :
    SS (some a) F0 H0 σ F (upd H a (.lst v'.row)) ρ ∧ PSt a v' F (upd H a (.lst v'.row)) := by
  have ps : PSt a v' F (upd H a (.lst v'.row)) := ⟨p.fa, upd_same, by rw [hc, hcs]; exact p.fc, ok⟩
  have sb : Same F (upd H a (.lst v'.row)) := fun b u h => by rw [upd_ne (ne_of_none h p.fa)]; exact S.st.sub b u h
  have pk : PoolOk (some a) F (upd H a (.lst v'.row)) := fun b hb => by cases hb; exact ps.pool
  refine ⟨⟨⟨S.st.len, fun i s h => ?_, S.st.sep, sb, pk⟩, ?_, S.own⟩, ps⟩
  · obtain ⟨o, e, k⟩ := S.st.sl i s h
    refine ⟨o, e, ?_⟩
    cases s with
    | x => cases o <;> exact trivial
    | d d =>
      cases o with
      | none => exact k.elim
      | some u => exact k
    | own ds =>
      cases o with
      | none => exact k.elim
      | some u =>
        obtain ⟨b, vs, rfl, f, n, hb, r⟩ := k
        exact ⟨b, vs, rfl, f, n, by rw [upd_ne (fun z : b = a => n (by rw [z]))]; exact hb, r⟩
    | pool =>
      cases o with
      | none => exact k.elim
      | some u => exact k
  · exact ⟨fun b o n h => by rw [upd_ne (fun z : b = a => n (by rw [z]))]; exact S.adv.keep b o n h, S.adv.frz, sb, S.adv.new, pk⟩
/-- pool[j] = e -/
theorem JP.put (i j : Nat) {npos spos : Pos} {tok : Nat} (ho : ρ[i]? = some .pool) (h0 : 0 < j) (h4 : j < 4) (h : JR X v e ρ fun d => ∃ z, d = .int z ∧ (v.put j z).Ok ∧ P.nx (v.put j z) ρ) (hN : X.N[i]? = some x := by rfl) (hv : Vis X.env.scope x := by first | exact Or.inl rfl | exact Or.inr (Or.inl rfl) | exact Or.inr (Or.inr rfl))
    (hd : (x == ("__debug__" : Str)) = false := by decide) (hcd : (x == ("__classdict__" : Str)) = false := by decide)
    (ha : ∀ v, assign (.Subscript (.Name x npos) (.Constant (.int (j : Nat)) tok pos') spos) X.env v = (do
      let ov ← holding [v] (eval (.Name x npos) X.env)
      let iv ← holding [v, ov] (eval (.Constant (.int (j : Nat)) tok pos') X.env)
      standAt spos
      holding [v, ov, iv] (setItem ov iv v)
      release [v, ov, iv] []) := by intro _; rfl)
    (hs : swapsWithSole [.Subscript (.Name x npos) (.Constant (.int (j : Nat)) tok pos') spos] e pos.line X.env = pure false := by rfl) (hw : swappedStores [.Subscript (.Name x npos) (.Constant (.int (j : Nat)) tok pos') spos] e X.env = pure none := by rfl)
    (h1 : (assignEach [.Subscript (.Name x npos) (.Constant (.int (j : Nat)) tok pos') spos] X.env).map (·.2) = [assign (.Subscript (.Name x npos) (.Constant (.int (j : Nat)) tok pos') spos) X.env] := by rfl) :
    JP X a v (.Assign [.Subscript (.Name x npos) (.Constant (.int (j : Nat)) tok pos') spos] e pos) ρ P :=
  .of (ps_asg (pe_J (po := none)) (pg_sub (pe_var hN hv hd hcd) pe_int set_list ha) hs hw h1) fun σ F0 H0 F H D S p l => jr_of h S.st p fun u H' d ⟨z, hz, hok, k⟩ A p' r => by
    obtain ⟨o, e1, e2⟩ := S.st.sl i _ ho
    cases o with
    | none => exact e2.elim
    | some w =>
      obtain ⟨a', rfl, ha'⟩ := e2
      cases ha'
      subst hz
      have hu := dp_int r
      subst hu
      refine ⟨.ref a, e1, a, v.row, (j : Nat), j, rfl, rfl, p'.at_, ?_, ?_⟩
      · exact ix_nat (by omega) (by show _ < ((4 : Nat) : Int); omega)
      · have hp := (S.advd A).putP p' (v' := v.put j z) (by unfold Pv.put; split <;> rfl) (by unfold Pv.put; split <;> rfl) hok
        have er : v.row.set j (.int z) = (v.put j z).row := by
          rcases (show j = 1 ∨ j = 2 ∨ j = 3 by omega) with rfl | rfl | rfl <;> rfl
        rw [er]
        exact l.nx _ _ _ _ _ k hp.1 hp.2
end
end PD
end

section
set_option Elab.async false
set_option linter.all false
set_option maxRecDepth 100000
set_option maxHeartbeats 4000000
/-! PDl: defs whose first argument is a pool in a known state; the pool is made. -/
namespace PD
open PySem PySem.Spec PyProof.Rows L2
def spT (pre : Pv → Int → Prop) (post : Int → Dat → Prop) : Sp := fun vs H Q _ => ∃ a F v n, vs = [.ref a, .int n] ∧ Same F H ∧ PSt a v F H ∧ pre v n ∧ ∀ u F' H' d, post n d → Adv (some a) F H F' H' → Dv F' u d → Q u H'
section
variable {P : Program} {w : World} {K : Frag} {mg : Str → Option Value} {base : Heap} {N ps : List Str} {x qual : Str} {st : Stmt} {f : Addr} {fd : FuncData} {k : Nat} {pre : Pv → Int → Prop} {post : Int → Dat → Prop}
theorem fn_okT (F : Fun K x qual st f fd) (S : FnScope N ps (defScope st)) (hlen : ps.length = 2)
    (hbody : ∀ (cdv : Value) (A : Around) (outer : List Env) (s : Shared) (H : Hp) (E : XK) (a : Addr) (v : Pv) (n : Int), v.Ok → Room k (A.deeper (envOfC qual (defScope st) s.heap.objs.size f cdv)) → pre v n →
      JPs (bX P w K mg base N qual st f cdv A outer s H E) a v (defBody st) (startE N.length [.pool, .d (.int n)]) { nx := fun _ _ => post n .none, rt := post n }) :
    FnOk P w K mg base CX0 (k + 1) f fd ps (spT pre post) := by
  have hpl : 2 ≤ N.length := by have := congrArg List.length S.pre; rw [List.length_take] at this; omega
  refine F.ok S (fun vs H Q E h => ?_) (fun cdv A outer s H vs Q E hr h => ?_)
  · obtain ⟨a, F, v, n, rfl, _⟩ := h
    rw [hlen]; rfl
  · obtain ⟨a, F1, v, n, rfl, sm, p, hp, q⟩ := h
    have pok : PoolOk (some a) F1 H := fun b hb => by cases hb; exact p.pool
    have st1 := start_stt (N := N.tail) (vs := [V.int n]) (ds := [.int n]) sm pok (.cons (.int n) .nil) (by rw [List.length_tail]; show 1 ≤ _; omega)
    have eσ : L2.start N [V.ref a, V.int n] = some (V.ref a) :: L2.start N.tail [V.int n] := by
      have e1 : N.length - [V.ref a, V.int n].length = N.tail.length - [V.int n].length := by rw [List.length_tail]; show _ - 2 = _ - 1; omega
      unfold L2.start
      rw [e1]
      rfl
    have eρ : startE N.length [.pool, .d (.int n)] = .pool :: startE N.tail.length ([PyData.int n].map Sl.d) := by
      have e1 : N.length - [Sl.pool, .d (.int n)].length = N.tail.length - ([PyData.int n].map Sl.d).length := by rw [List.length_tail]; show _ - 2 = _ - 1; omega
      unfold startE
      rw [e1]
      rfl
    have st0 : Stt (some a) (L2.start N [V.ref a, V.int n]) F1 H (startE N.length [.pool, .d (.int n)]) := by
      rw [eσ, eρ]
      refine ⟨by simp [st1.len], fun j s h => ?_, fun j j' b ds es h1 h2 h3 h4 => ?_, sm, pok⟩
      · cases j with
        | zero => simp at h; subst h; exact ⟨_, rfl, a, rfl, rfl⟩
        | succ j => exact st1.sl j s (by simpa using h)
      · cases j with
        | zero => simp at h1
        | succ j => exact (no_own (N := N.tail.length) (ds := [.int n]) (by simpa using h1)).elim
    refine ⟨_, pss_JP (a := a), ⟨F1, H, F1, v, _, _, hbody cdv A outer s H E a v n p.ok hr hp, ⟨st0, .refl sm pok, fun j ds b h1 _ => ?_⟩, p, ⟨fun σ F' H' ρ' v' k S' p' => ?_, fun u F' H' d k A' r' => q u F' H' d k A' r'⟩⟩⟩
    · rw [eρ] at h1
      cases j with
      | zero => simp at h1
      | succ j => exact (no_own (N := N.tail.length) (ds := [.int n]) (by simpa using h1)).elim
    · exact q _ F' H' _ k S'.adv .non
/-- a pool in a known state is a pool -/
theorem spT_Q {vs : List V} {H : Hp} {Q : VK} {E : XK} (h : spQ (fun n : Int => [.int n]) (fun n => ∀ v, v.Ok → pre v n) post vs H Q E) : spT pre post vs H Q E := by
  obtain ⟨a, F, vr, n, rfl, sm, pl, r, hp, q⟩ := h
  obtain ⟨v, p⟩ := pl.pst
  obtain ⟨u, rfl, r'⟩ := ds1 r
  have hu := dp_int r'
  subst hu
  exact ⟨a, F, v, n, rfl, sm, p, hp v p.ok, q⟩
end
section
variable {X : Cx} {a : Addr} {v : Pv} {ρ : Env'} {P : PPost} {pos rpos p p2 p3 : Pos} {x pn qn : Str} {k : Nat} {pre : Pv → Int → Prop} {post : Int → Dat → Prop}
/-- return x(pool, n) -/
theorem JP.retT (i j : Nat) {n : Int} (G : FnD X.prog X.w X.K X.mg X.base k x (spT pre post)) (hr : Room k X.A) (hg : Gl X x) (hi : ρ[i]? = some .pool) (hj : ρ[j]? = some (.d (.int n))) (hp : pre v n) (hq : ∀ d, post n d → P.rt d)
    (hN : X.N[i]? = some pn := by rfl) (hv : Vis X.env.scope pn := by first | exact Or.inl rfl | exact Or.inr (Or.inl rfl) | exact Or.inr (Or.inr rfl)) (hd : (pn == ("__debug__" : Str)) = false := by decide) (hcd : (pn == ("__classdict__" : Str)) = false := by decide)
    (hN2 : X.N[j]? = some qn := by rfl) (hv2 : Vis X.env.scope qn := by first | exact Or.inl rfl | exact Or.inr (Or.inl rfl) | exact Or.inr (Or.inr rfl)) (hd2 : (qn == ("__debug__" : Str)) = false := by decide) (hcd2 : (qn == ("__classdict__" : Str)) = false := by decide)
    (hdb : (x == ("__debug__" : Str)) = false := by decide) (he : starEach [.Name pn p2, .Name qn p3] X.env = (false, eval (.Name pn p2) X.env) :: starEach [.Name qn p3] X.env := by rfl) (he2 : starEach [.Name qn p3] X.env = (false, eval (.Name qn p3) X.env) :: starEach [] X.env := by rfl)
    (hpl : (backTo pos (starEach [.Name qn p3] X.env)).any (·.1) = false := by rfl) : JP X a v (.Return (some (.Call (.Name x p) [.Name pn p2, .Name qn p3] [] pos)) rpos) ρ P := by
  obtain ⟨f, fd, ps, F, hm, hk, hb⟩ := G
  refine .of (ps_ret (pe_call F hr hg hm hk hb .nil pass0 (pa_cons (pe_var hN hv hd hcd) (pa_cons (pe_var hN2 hv2 hd2 hcd2) pa_nil he2) he) hdb he hpl)) fun σ F0 H0 F H D S pp l => ?_
  obtain ⟨o, e1, e2⟩ := S.st.sl i _ hi
  cases o with
  | none => exact e2.elim
  | some u =>
    obtain ⟨a', rfl, ha'⟩ := e2
    cases ha'
    obtain ⟨u2, e3, r3⟩ := S.st.dat hj
    have hu := dp_int r3
    subst hu
    exact ⟨.ref a, e1, .int n, e3, a, F, v, n, rfl, S.st.sub, pp, hp, fun u F' H' d hd A r => l.rt u F' H' d (hq d hd) (S.adv.trans A) r⟩
end
end PD
end

section
set_option Elab.async false
set_option linter.all false
set_option maxRecDepth 100000
set_option maxHeartbeats 4000000
/-! PDm: a list made from the script; calls without arguments. -/
namespace PD
open PySem PySem.Spec PyProof.Rows L2

section
variable {X : Cx} {po : Option Addr} {tg elt iter : Expr} {ifs : List Expr} {ρ : Env'} {Φ : Dat → Prop} {scope : Scope} {own : List (Str × Nat)} {g : TG} {R : Dat → (Env' → Env') → Prop} {pos : Pos}
theorem lc_readT {t : L2.TI} {σ : L2.St} {F H : Hp} (gd : GD g (own.map (·.2)) R) (ht : ∀ R' : It → Hp → Prop, (∀ J F' H' ds, (∃ I : Nat → List Dat → Prop, I 0 [] ∧
      (∀ (i : Nat) d acc, ds[i]? = some d → acc.length ≤ i → I i acc → ∃ u, R d u ∧ Turn1 X scope po ifs elt (u (wipeE ρ (own.map (·.2)))) (fun y => I (i + 1) (acc ++ [y])) (I (i + 1) acc)) ∧ ∀ acc, acc.length ≤ ds.length → I ds.length acc → Φ (.list acc)) → Adv po F H F' H' → Yields J F' ds → R' J H') → t σ H R')
    {Q : VK} (S : Stt po σ F H ρ) (q : ∀ v F' H' d, Φ d → Adv po F H F' H' → Dv F' v d → Q v H') :
    tLc t g (ttIfs X scope po ifs) (tbJ X scope po elt) (own.map (·.2)) σ H Q := by
  refine ht _ fun J F1 H1 ds ⟨I, i0, step, fin⟩ A1 Y => fun D nD => ?_
  have hpD : po ≠ some D := A1.pool.ne nD
  have hF1D : F1 D = none := A1.sub.free nD
  refine ⟨fun i m Hc => m = ds.length - i ∧ i ≤ ds.length ∧ ∃ Fc acc dacc, Adv po F1 H1 Fc Hc ∧ Fc D = none ∧ Hc D = some (.lst acc) ∧ Ds Fc acc dacc ∧ dacc.length ≤ i ∧ I i dacc, ⟨ds.length, by simp, Nat.zero_le _, F1, [], [], (Adv.newO A1.sub nD).up A1.pool, hF1D, upd_same, .nil, Nat.le_refl _, i0⟩, ?_⟩
  rintro i m Hc ⟨rfl, hi, Fc, acc, dacc, Ac, nFc, eD, rd, hl, hI⟩
  by_cases hlt : i < ds.length
  · refine .inr ⟨Y.go i Hc hlt (Ac.frz.trans Ac.sub), fun Hc' => ∃ Fc acc dacc, Adv po F1 H1 Fc Hc' ∧ Fc D = none ∧ Hc' D = some (.lst acc) ∧ Ds Fc acc dacc ∧ dacc.length ≤ i + 1 ∧ I (i + 1) dacc, fun Hc' hN => ⟨ds.length - (i + 1), by omega, rfl, hlt, hN⟩, fun x H' y => ?_⟩
    obtain ⟨F', A2, rx⟩ := Y.yld i Fc Hc x H' ds[i] (by simp [hlt]) Ac.frz Ac.sub y
    have A2' := A2.up Ac.pool
    have hF'D : F' D = none := A2.new D nFc (ne_none_of eD)
    have eD' : H' D = some (.lst acc) := A2.keep D _ (by simp) eD
    obtain ⟨u, hR, hT⟩ := step i ds[i] dacc (by simp [hlt]) hl hI
    refine gd ds[i] u hR x (wipe σ (own.map (·.2))) F' H' _ A2.sub rx ?_
    intro σ' hw hS hSS
    refine ⟨?_, ?_⟩
    · rw [hw]
      generalize own.map (·.2) = vs
      clear hw hS hSS hT hR ht step q S gd
      -- wiping twice
      have aux : ∀ (σ : L2.St) (vs ws : List Nat), (∀ v ∈ vs, v ∈ ws) → wipe (wipe σ ws) vs = wipe σ ws := by
        intro σ vs ws
        induction vs with
        | nil => intro _; rfl
        | cons v vs ih =>
          intro hm
          show (wipe (wipe σ ws) vs).set v none = _
          rw [ih fun z hz => hm z (List.mem_cons_of_mem _ hz)]
          apply List.ext_getElem?
          intro k
          by_cases e : v = k
          · subst e
            by_cases l : v < (wipe σ ws).length
            · rw [List.getElem?_set_self l]
              cases q : (wipe σ ws)[v]? with
              | none => rw [List.getElem?_eq_none_iff] at q; omega
              | some o =>
                cases o with
                | none => rfl
                | some x => exact absurd (hm v List.mem_cons_self) (wipe_some q).2
            · rw [List.getElem?_eq_none (by simp; omega), List.getElem?_eq_none (by omega)]
          · rw [List.getElem?_set_ne e]
      exact aux σ vs vs fun _ h => h
    · have S1 : Stt po σ' F' H' (u (wipeE ρ (own.map (·.2)))) := hS po _ ((((S.adv A1).adv Ac).adv A2').wipe _)
      have A3 := Ac.trans A2'
      have yes : ∀ {F3 H3 : Hp}, Adv po F' H' F3 H3 → JB X scope po elt (u (wipeE ρ (own.map (·.2)))) (fun y => I (i + 1) (dacc ++ [y])) → tbJ X scope po elt σ' H3 fun y H4 => ∃ acc, H4 D = some (.lst acc) ∧ acc.length < sizeLine ∧ ∃ Fc acc' dacc, Adv po F1 H1 Fc (upd H4 D (.lst (acc ++ [y]))) ∧ Fc D = none ∧ (upd H4 D (.lst (acc ++ [y]))) D = some (.lst acc') ∧ Ds Fc acc' dacc ∧ dacc.length ≤ i + 1 ∧ I (i + 1) dacc := fun {F3 H3} A4 hj =>
        tbJ_of hj (S1.adv A4) fun v F4 H4 dy hy A5 ry => by
          have hF3D : F3 D = none := A4.new D hF'D (ne_none_of eD')
          have e3 : H3 D = some (.lst acc) := A4.keep D _ hpD eD'
          have e4 : H4 D = some (.lst acc) := A5.keep D _ hpD e3
          have hF4D : F4 D = none := A5.new D hF3D (ne_none_of e3)
          refine ⟨acc, e4, ?_, F4, acc ++ [v], dacc ++ [dy], (A3.trans (A4.trans A5)).mut nD hF4D hpD, hF4D, upd_same, dapp (dmonoA (A2.frz.trans (A4.frz.trans A5.frz)) rd) (.cons ry .nil), by simp; omega, hy⟩
          have := Y.len
          rw [dlen rd]; omega
      match ifs, hT with
      | [], hT =>
        refine ttIfs0 ?_
        dsimp only
        rw [if_pos rfl]
        exact yes (.refl A2.sub A3.pool) hT
      | [c], hT =>
        refine ttIfs1 (tbtJ_of hT S1 fun b F3 H3 hb A4 => ?_)
        cases b with
          | true =>
            dsimp only
            rw [if_pos rfl]
            exact yes A4 (unT hb)
          | false =>
            dsimp only
            rw [if_neg Bool.false_ne_true]
            exact ⟨F3, acc, dacc, A3.trans A4, A4.new D hF'D (ne_none_of eD'), A4.keep D _ hpD eD', dmonoA (A2.frz.trans A4.frz) rd, by omega, unF hb⟩
  · have e : i = ds.length := by omega
    subst e
    exact .inl ⟨Y.stop Hc (Ac.frz.trans Ac.sub), q _ _ _ _ (fin dacc hl hI) (A1.trans (Ac.frzO nD nFc eD hpD)) (new_lst_of nFc rd)⟩
where
  new_lst_of {F : Hp} {p : Addr} {xs : List V} {ds : List Dat} (n : F p = none) (h : Ds F xs ds) : Dv (upd F p (.lst xs)) (.ref p) (.list ds) :=
    .lst upd_same (dmonoA (fun b u e => by rw [upd_ne (ne_of_none e n)]; exact e) h)
end
section
variable {X : Cx} {po : Option Addr} {ρ : Env'} {Φ : Dat → Prop} {pos p : Pos} {ι : Type} {args : ι → List Dat} {pre : ι → Prop} {post : ι → Dat → Prop} {k : Nat}
theorem JE.call0 {x : Str} (G : FnD X.prog X.w X.K X.mg X.base k x (spP args pre post)) (hr : Room k X.A) (hg : Gl X x) (h : ∃ i, args i = [] ∧ pre i ∧ ∀ d, post i d → Φ d)
    (hdb : (x == ("__debug__" : Str)) = false := by decide) : JE X po (.Call (.Name x p) [] [] pos) ρ Φ := by
  obtain ⟨f, fd, ps, F, hm, hk, hb⟩ := G
  obtain ⟨i, hi, hp, kk⟩ := h
  exact .of (pe_call0 F hr hg hm hk hb .nil pass0 hdb) fun σ F H Q S q => by
    refine ⟨F, i, S.sub, by rw [hi]; exact .nil, hp, fun v F' H' d hd A2 r2 => q v F' H' d (kk d hd) (A2.up S.pool) r2⟩
end
end PD
end

section
set_option Elab.async false
set_option linter.all false
set_option maxRecDepth 100000
set_option maxHeartbeats 4000000
/-! K2a: the text by places. -/
namespace K2
open PySem PySem.Spec PyProof.Rows L2 PD
def topS (i : Nat) : Stmt := PySem.Challenge.pw_gapsproved_k02_whole_polynomials_of_move.main.body.getD i (.Pass ⟨0, 0, 0, 0⟩)
-- def is_number: value:0
abbrev s_is_number : Stmt := topS 4
abbrev N_is_number : List Str := ["value"]
abbrev P_is_number : List Str := ["value"]
theorem sc_is_number : FnScope N_is_number P_is_number (defScope s_is_number) := ⟨rfl, rfl, rfl, by decide +kernel, rfl, by decide +kernel, by decide +kernel⟩
-- def power: number:0 many:1 found:2 by:3
abbrev s_power : Stmt := topS 5
abbrev N_power : List Str := ["number", "many", "found", "by"]
abbrev P_power : List Str := ["number", "many"]
theorem sc_power : FnScope N_power P_power (defScope s_power) := ⟨rfl, rfl, rfl, by decide +kernel, rfl, by decide +kernel, by decide +kernel⟩
-- def trimmed: numbers:0 stop:1
abbrev s_trimmed : Stmt := topS 7
abbrev N_trimmed : List Str := ["numbers", "stop"]
abbrev P_trimmed : List Str := ["numbers"]
theorem sc_trimmed : FnScope N_trimmed P_trimmed (defScope s_trimmed) := ⟨rfl, rfl, rfl, by decide +kernel, rfl, by decide +kernel, by decide +kernel⟩
-- def content: numbers:0 found:1 number:2
abbrev s_content : Stmt := topS 8
abbrev N_content : List Str := ["numbers", "found", "number"]
abbrev P_content : List Str := ["numbers"]
theorem sc_content : FnScope N_content P_content (defScope s_content) := ⟨rfl, rfl, rfl, by decide +kernel, rfl, by decide +kernel, by decide +kernel⟩
-- def small: p:0 common:1 number:2
abbrev s_small : Stmt := topS 9
abbrev N_small : List Str := ["p", "common", "number"]
abbrev P_small : List Str := ["p"]
theorem sc_small : FnScope N_small P_small (defScope s_small) := ⟨rfl, rfl, rfl, by decide +kernel, rfl, by decide +kernel, by decide +kernel⟩
-- def plain_of: p:0 found:1 number:2
abbrev s_plain_of : Stmt := topS 10
abbrev N_plain_of : List Str := ["p", "found", "number"]
abbrev P_plain_of : List Str := ["p"]
theorem sc_plain_of : FnScope N_plain_of P_plain_of (defScope s_plain_of) := ⟨rfl, rfl, rfl, by decide +kernel, rfl, by decide +kernel, by decide +kernel⟩
-- def added: p:0 q:1 many:2 one:3 other:4 at:5
abbrev s_added : Stmt := topS 11
abbrev N_added : List Str := ["p", "q", "many", "one", "other", "at"]
abbrev P_added : List Str := ["p", "q"]
theorem sc_added : FnScope N_added P_added (defScope s_added) := ⟨rfl, rfl, rfl, by decide +kernel, rfl, by decide +kernel, by decide +kernel⟩
-- def multiple: p:0 by:1 number:2
abbrev s_multiple : Stmt := topS 12
abbrev N_multiple : List Str := ["p", "by", "number"]
abbrev P_multiple : List Str := ["p", "by"]
theorem sc_multiple : FnScope N_multiple P_multiple (defScope s_multiple) := ⟨rfl, rfl, rfl, by decide +kernel, rfl, by decide +kernel, by decide +kernel⟩
-- def multiplied: p:0 q:1 found:2 at:3 number:4 place:5 part:6
abbrev s_multiplied : Stmt := topS 13
abbrev N_multiplied : List Str := ["p", "q", "found", "at", "number", "place", "part"]
abbrev P_multiplied : List Str := ["p", "q"]
theorem sc_multiplied : FnScope N_multiplied P_multiplied (defScope s_multiplied) := ⟨rfl, rfl, rfl, by decide +kernel, rfl, by decide +kernel, by decide +kernel⟩
-- def monic: p:0 lead:1 last:2 at:3 number:4
abbrev s_monic : Stmt := topS 14
abbrev N_monic : List Str := ["p", "lead", "last", "at", "number"]
abbrev P_monic : List Str := ["p"]
theorem sc_monic : FnScope N_monic P_monic (defScope s_monic) := ⟨rfl, rfl, rfl, by decide +kernel, rfl, by decide +kernel, by decide +kernel⟩
-- def sums_of_powers: p:0 many:1 last:2 found:3 at:4 total:5 back:6
abbrev s_sums_of_powers : Stmt := topS 15
abbrev N_sums_of_powers : List Str := ["p", "many", "last", "found", "at", "total", "back"]
abbrev P_sums_of_powers : List Str := ["p", "many"]
theorem sc_sums_of_powers : FnScope N_sums_of_powers P_sums_of_powers (defScope s_sums_of_powers) := ⟨rfl, rfl, rfl, by decide +kernel, rfl, by decide +kernel, by decide +kernel⟩
-- def of_sums: sums:0 many:1 found:2 at:3 total:4 back:5
abbrev s_of_sums : Stmt := topS 16
abbrev N_of_sums : List Str := ["sums", "many", "found", "at", "total", "back"]
abbrev P_of_sums : List Str := ["sums"]
theorem sc_of_sums : FnScope N_of_sums P_of_sums (defScope s_of_sums) := ⟨rfl, rfl, rfl, by decide +kernel, rfl, by decide +kernel, by decide +kernel⟩
-- def scaled_of: p:0 n:1 d:2 last:3 at:4 number:5
abbrev s_scaled_of : Stmt := topS 17
abbrev N_scaled_of : List Str := ["p", "n", "d", "last", "at", "number"]
abbrev P_scaled_of : List Str := ["p", "n", "d"]
theorem sc_scaled_of : FnScope N_scaled_of P_scaled_of (defScope s_scaled_of) := ⟨rfl, rfl, rfl, by decide +kernel, rfl, by decide +kernel, by decide +kernel⟩
-- def turned_of: p:0 a:1 b:2 c:3 e:4 found:5 under:6 number:7
abbrev s_turned_of : Stmt := topS 18
abbrev N_turned_of : List Str := ["p", "a", "b", "c", "e", "found", "under", "number"]
abbrev P_turned_of : List Str := ["p", "a", "b", "c", "e"]
theorem sc_turned_of : FnScope N_turned_of P_turned_of (defScope s_turned_of) := ⟨rfl, rfl, rfl, by decide +kernel, rfl, by decide +kernel, by decide +kernel⟩
-- def squared_of: p:0 even:1 odd:2
abbrev s_squared_of : Stmt := topS 19
abbrev N_squared_of : List Str := ["p", "even", "odd"]
abbrev P_squared_of : List Str := ["p"]
theorem sc_squared_of : FnScope N_squared_of P_squared_of (defScope s_squared_of) := ⟨rfl, rfl, rfl, by decide +kernel, rfl, by decide +kernel, by decide +kernel⟩
-- def is_polynomial: value:0 part:1
abbrev s_is_polynomial : Stmt := topS 23
abbrev N_is_polynomial : List Str := ["value", "part"]
abbrev P_is_polynomial : List Str := ["value"]
theorem sc_is_polynomial : FnScope N_is_polynomial P_is_polynomial (defScope s_is_polynomial) := ⟨rfl, rfl, rfl, by decide +kernel, rfl, by decide +kernel, by decide +kernel⟩
-- def checked: value:0 number:1 empty:2
abbrev s_checked : Stmt := topS 24
abbrev N_checked : List Str := ["value", "number", "empty"]
abbrev P_checked : List Str := ["value", "number", "empty"]
theorem sc_checked : FnScope N_checked P_checked (defScope s_checked) := ⟨rfl, rfl, rfl, by decide +kernel, rfl, by decide +kernel, by decide +kernel⟩
-- def shifted: p:0 t:1
abbrev s_shifted : Stmt := topS 25
abbrev N_shifted : List Str := ["p", "t"]
abbrev P_shifted : List Str := ["p", "t"]
theorem sc_shifted : FnScope N_shifted P_shifted (defScope s_shifted) := ⟨rfl, rfl, rfl, by decide +kernel, rfl, by decide +kernel, by decide +kernel⟩
-- def scaled: p:0 t:1
abbrev s_scaled : Stmt := topS 26
abbrev N_scaled : List Str := ["p", "t"]
abbrev P_scaled : List Str := ["p", "t"]
theorem sc_scaled : FnScope N_scaled P_scaled (defScope s_scaled) := ⟨rfl, rfl, rfl, by decide +kernel, rfl, by decide +kernel, by decide +kernel⟩
-- def squared: p:0
abbrev s_squared : Stmt := topS 27
abbrev N_squared : List Str := ["p"]
abbrev P_squared : List Str := ["p"]
theorem sc_squared : FnScope N_squared P_squared (defScope s_squared) := ⟨rfl, rfl, rfl, by decide +kernel, rfl, by decide +kernel, by decide +kernel⟩
-- def whole_pair: p:0 q:1 one:2 whole:3 other:4 more:5 many:6
abbrev s_whole_pair : Stmt := topS 28
abbrev N_whole_pair : List Str := ["p", "q", "one", "whole", "other", "more", "many"]
abbrev P_whole_pair : List Str := ["p", "q"]
theorem sc_whole_pair : FnScope N_whole_pair P_whole_pair (defScope s_whole_pair) := ⟨rfl, rfl, rfl, by decide +kernel, rfl, by decide +kernel, by decide +kernel⟩
-- def sums_of: p:0 q:1 one:2 whole:3 other:4 more:5 many:6 first:7 at:8 number:9 second:10 sums:11 back:12
abbrev s_sums_of : Stmt := topS 29
abbrev N_sums_of : List Str := ["p", "q", "one", "whole", "other", "more", "many", "first", "at", "number", "second", "sums", "back"]
abbrev P_sums_of : List Str := ["p", "q"]
theorem sc_sums_of : FnScope N_sums_of P_sums_of (defScope s_sums_of) := ⟨rfl, rfl, rfl, by decide +kernel, rfl, by decide +kernel, by decide +kernel⟩
-- def products_of: p:0 q:1 one:2 whole:3 other:4 more:5 many:6 first:7 second:8 at:9
abbrev s_products_of : Stmt := topS 30
abbrev N_products_of : List Str := ["p", "q", "one", "whole", "other", "more", "many", "first", "second", "at"]
abbrev P_products_of : List Str := ["p", "q"]
theorem sc_products_of : FnScope N_products_of P_products_of (defScope s_products_of) := ⟨rfl, rfl, rfl, by decide +kernel, rfl, by decide +kernel, by decide +kernel⟩
-- def _law_pool: script:0 cell:1
abbrev s_law_pool : Stmt := topS 32
abbrev N_law_pool : List Str := ["script", "cell"]
abbrev P_law_pool : List Str := ["script"]
theorem sc_law_pool : FnScope N_law_pool P_law_pool (defScope s_law_pool) := ⟨rfl, rfl, rfl, by decide +kernel, rfl, by decide +kernel, by decide +kernel⟩
-- def _law_take: pool:0 many:1 digit:2 cell:3 mixed:4
abbrev s_law_take : Stmt := topS 33
abbrev N_law_take : List Str := ["pool", "many", "digit", "cell", "mixed"]
abbrev P_law_take : List Str := ["pool", "many"]
theorem sc_law_take : FnScope N_law_take P_law_take (defScope s_law_take) := ⟨rfl, rfl, rfl, by decide +kernel, rfl, by decide +kernel, by decide +kernel⟩
-- def _law_pick: pool:0 rows:1
abbrev s_law_pick : Stmt := topS 34
abbrev N_law_pick : List Str := ["pool", "rows"]
abbrev P_law_pick : List Str := ["pool", "rows"]
theorem sc_law_pick : FnScope N_law_pick P_law_pick (defScope s_law_pick) := ⟨rfl, rfl, rfl, by decide +kernel, rfl, by decide +kernel, by decide +kernel⟩
-- def _law_is_integer: actual:0
abbrev s_law_is_integer : Stmt := topS 35
abbrev N_law_is_integer : List Str := ["actual"]
abbrev P_law_is_integer : List Str := ["actual"]
theorem sc_law_is_integer : FnScope N_law_is_integer P_law_is_integer (defScope s_law_is_integer) := ⟨rfl, rfl, rfl, by decide +kernel, rfl, by decide +kernel, by decide +kernel⟩
-- def _law_same: actual:0 due:1 k:2
abbrev s_law_same : Stmt := topS 36
abbrev N_law_same : List Str := ["actual", "due", "k"]
abbrev P_law_same : List Str := ["actual", "due"]
theorem sc_law_same : FnScope N_law_same P_law_same (defScope s_law_same) := ⟨rfl, rfl, rfl, by decide +kernel, rfl, by decide +kernel, by decide +kernel⟩
-- def _law_below: pool:0 many:1 found:2 turn:3
abbrev s_law_below : Stmt := topS 37
abbrev N_law_below : List Str := ["pool", "many", "found", "turn"]
abbrev P_law_below : List Str := ["pool", "many"]
theorem sc_law_below : FnScope N_law_below P_law_below (defScope s_law_below) := ⟨rfl, rfl, rfl, by decide +kernel, rfl, by decide +kernel, by decide +kernel⟩
-- def _law_lowest: n:0 d:1 shared:2
abbrev s_law_lowest : Stmt := topS 38
abbrev N_law_lowest : List Str := ["n", "d", "shared"]
abbrev P_law_lowest : List Str := ["n", "d"]
theorem sc_law_lowest : FnScope N_law_lowest P_law_lowest (defScope s_law_lowest) := ⟨rfl, rfl, rfl, by decide +kernel, rfl, by decide +kernel, by decide +kernel⟩
-- def _law_sum: one:0 other:1
abbrev s_law_sum : Stmt := topS 39
abbrev N_law_sum : List Str := ["one", "other"]
abbrev P_law_sum : List Str := ["one", "other"]
theorem sc_law_sum : FnScope N_law_sum P_law_sum (defScope s_law_sum) := ⟨rfl, rfl, rfl, by decide +kernel, rfl, by decide +kernel, by decide +kernel⟩
-- def _law_times: one:0 other:1
abbrev s_law_times : Stmt := topS 40
abbrev N_law_times : List Str := ["one", "other"]
abbrev P_law_times : List Str := ["one", "other"]
theorem sc_law_times : FnScope N_law_times P_law_times (defScope s_law_times) := ⟨rfl, rfl, rfl, by decide +kernel, rfl, by decide +kernel, by decide +kernel⟩
-- def _law_power: base:0 many:1 found:2 turn:3
abbrev s_law_power : Stmt := topS 41
abbrev N_law_power : List Str := ["base", "many", "found", "turn"]
abbrev P_law_power : List Str := ["base", "many"]
theorem sc_law_power : FnScope N_law_power P_law_power (defScope s_law_power) := ⟨rfl, rfl, rfl, by decide +kernel, rfl, by decide +kernel, by decide +kernel⟩
-- def _law_power_sums: polynomial:0 many:1 n:2 found:3 k:4 total:5 j:6
abbrev s_law_power_sums : Stmt := topS 42
abbrev N_law_power_sums : List Str := ["polynomial", "many", "n", "found", "k", "total", "j"]
abbrev P_law_power_sums : List Str := ["polynomial", "many"]
theorem sc_law_power_sums : FnScope N_law_power_sums P_law_power_sums (defScope s_law_power_sums) := ⟨rfl, rfl, rfl, by decide +kernel, rfl, by decide +kernel, by decide +kernel⟩
-- def _law_value: polynomial:0 at:1 up:2 down:3 found:4 power_v:5 part:6
abbrev s_law_value : Stmt := topS 43
abbrev N_law_value : List Str := ["polynomial", "at", "up", "down", "found", "power_v", "part"]
abbrev P_law_value : List Str := ["polynomial", "at"]
theorem sc_law_value : FnScope N_law_value P_law_value (defScope s_law_value) := ⟨rfl, rfl, rfl, by decide +kernel, rfl, by decide +kernel, by decide +kernel⟩
-- def _law_product: one:0 other:1 found:2 k:3 j:4
abbrev s_law_product : Stmt := topS 44
abbrev N_law_product : List Str := ["one", "other", "found", "k", "j"]
abbrev P_law_product : List Str := ["one", "other"]
theorem sc_law_product : FnScope N_law_product P_law_product (defScope s_law_product) := ⟨rfl, rfl, rfl, by decide +kernel, rfl, by decide +kernel, by decide +kernel⟩
-- def _law_whole_root: number:0 low:1 high:2 turn:3 middle:4
abbrev s_law_whole_root : Stmt := topS 45
abbrev N_law_whole_root : List Str := ["number", "low", "high", "turn", "middle"]
abbrev P_law_whole_root : List Str := ["number"]
theorem sc_law_whole_root : FnScope N_law_whole_root P_law_whole_root (defScope s_law_whole_root) := ⟨rfl, rfl, rfl, by decide +kernel, rfl, by decide +kernel, by decide +kernel⟩
-- def _law_divisor: one:0 other:1 turn:2
abbrev s_law_divisor : Stmt := topS 46
abbrev N_law_divisor : List Str := ["one", "other", "turn"]
abbrev P_law_divisor : List Str := ["one", "other"]
theorem sc_law_divisor : FnScope N_law_divisor P_law_divisor (defScope s_law_divisor) := ⟨rfl, rfl, rfl, by decide +kernel, rfl, by decide +kernel, by decide +kernel⟩
-- def _law_content: numbers:0 found:1 number:2
abbrev s_law_content : Stmt := topS 47
abbrev N_law_content : List Str := ["numbers", "found", "number"]
abbrev P_law_content : List Str := ["numbers"]
theorem sc_law_content : FnScope N_law_content P_law_content (defScope s_law_content) := ⟨rfl, rfl, rfl, by decide +kernel, rfl, by decide +kernel, by decide +kernel⟩
-- def _law_plain: numbers:0 shared:1 number:2
abbrev s_law_plain : Stmt := topS 48
abbrev N_law_plain : List Str := ["numbers", "shared", "number"]
abbrev P_law_plain : List Str := ["numbers"]
theorem sc_law_plain : FnScope N_law_plain P_law_plain (defScope s_law_plain) := ⟨rfl, rfl, rfl, by decide +kernel, rfl, by decide +kernel, by decide +kernel⟩
-- def _law_factor: pool:0 size:1 last:2 first:3 middle:4 found:5 inner:6 root:7
abbrev s_law_factor : Stmt := topS 49
abbrev N_law_factor : List Str := ["pool", "size", "last", "first", "middle", "found", "inner", "root"]
abbrev P_law_factor : List Str := ["pool", "size"]
theorem sc_law_factor : FnScope N_law_factor P_law_factor (defScope s_law_factor) := ⟨rfl, rfl, rfl, by decide +kernel, rfl, by decide +kernel, by decide +kernel⟩
-- def _law_factors: pool:0 many:1 size:2 found:3 turn:4 factor:5
abbrev s_law_factors : Stmt := topS 50
abbrev N_law_factors : List Str := ["pool", "many", "size", "found", "turn", "factor"]
abbrev P_law_factors : List Str := ["pool", "many", "size"]
theorem sc_law_factors : FnScope N_law_factors P_law_factors (defScope s_law_factors) := ⟨rfl, rfl, rfl, by decide +kernel, rfl, by decide +kernel, by decide +kernel⟩
-- def _law_product_of: factors:0 often:1 found:2 k:3 turn:4
abbrev s_law_product_of : Stmt := topS 51
abbrev N_law_product_of : List Str := ["factors", "often", "found", "k", "turn"]
abbrev P_law_product_of : List Str := ["factors", "often"]
theorem sc_law_product_of : FnScope N_law_product_of P_law_product_of (defScope s_law_product_of) := ⟨rfl, rfl, rfl, by decide +kernel, rfl, by decide +kernel, by decide +kernel⟩
-- def _law_grown: p:0 by:1 number:2
abbrev s_law_grown : Stmt := topS 52
abbrev N_law_grown : List Str := ["p", "by", "number"]
abbrev P_law_grown : List Str := ["p", "by"]
theorem sc_law_grown : FnScope N_law_grown P_law_grown (defScope s_law_grown) := ⟨rfl, rfl, rfl, by decide +kernel, rfl, by decide +kernel, by decide +kernel⟩
-- def _law_fraction: pool:0 size:1 top:2
abbrev s_law_fraction : Stmt := topS 53
abbrev N_law_fraction : List Str := ["pool", "size", "top"]
abbrev P_law_fraction : List Str := ["pool"]
theorem sc_law_fraction : FnScope N_law_fraction P_law_fraction (defScope s_law_fraction) := ⟨rfl, rfl, rfl, by decide +kernel, rfl, by decide +kernel, by decide +kernel⟩
-- def _law_rough: p:0 x:1
abbrev s_law_rough : Stmt := topS 54
abbrev N_law_rough : List Str := ["p", "x"]
abbrev P_law_rough : List Str := ["p", "x"]
theorem sc_law_rough : FnScope N_law_rough P_law_rough (defScope s_law_rough) := ⟨rfl, rfl, rfl, by decide +kernel, rfl, by decide +kernel, by decide +kernel⟩
-- def _law_is_plain: told:0 degree:1 part:2
abbrev s_law_is_plain : Stmt := topS 55
abbrev N_law_is_plain : List Str := ["told", "degree", "part"]
abbrev P_law_is_plain : List Str := ["told", "degree"]
theorem sc_law_is_plain : FnScope N_law_is_plain P_law_is_plain (defScope s_law_is_plain) := ⟨rfl, rfl, rfl, by decide +kernel, rfl, by decide +kernel, by decide +kernel⟩
-- def _law_alike: one:0 other:1 chosen:2 k:3 a:4 b:5 left:6 right:7
abbrev s_law_alike : Stmt := topS 56
abbrev N_law_alike : List Str := ["one", "other", "chosen", "k", "a", "b", "left", "right"]
abbrev P_law_alike : List Str := ["one", "other"]
theorem sc_law_alike : FnScope N_law_alike P_law_alike (defScope s_law_alike) := ⟨rfl, rfl, rfl, by decide +kernel, rfl, by decide +kernel, by decide +kernel⟩
-- def _law_whole_sums: p:0 many:1 lead:2 n:3 whole:4 k:5
abbrev s_law_whole_sums : Stmt := topS 57
abbrev N_law_whole_sums : List Str := ["p", "many", "lead", "n", "whole", "k"]
abbrev P_law_whole_sums : List Str := ["p", "many"]
theorem sc_law_whole_sums : FnScope N_law_whole_sums P_law_whole_sums (defScope s_law_whole_sums) := ⟨rfl, rfl, rfl, by decide +kernel, rfl, by decide +kernel, by decide +kernel⟩
-- def _law_any: pool:0 degree:1 size:2 found:3 k:4
abbrev s_law_any : Stmt := topS 58
abbrev N_law_any : List Str := ["pool", "degree", "size", "found", "k"]
abbrev P_law_any : List Str := ["pool", "degree", "size"]
theorem sc_law_any : FnScope N_law_any P_law_any (defScope s_law_any) := ⟨rfl, rfl, rfl, by decide +kernel, rfl, by decide +kernel, by decide +kernel⟩
-- def _law_one: pool:0 size:1 factors:2 factor:3
abbrev s_law_one : Stmt := topS 59
abbrev N_law_one : List Str := ["pool", "size", "factors", "factor"]
abbrev P_law_one : List Str := ["pool"]
theorem sc_law_one : FnScope N_law_one P_law_one (defScope s_law_one) := ⟨rfl, rfl, rfl, by decide +kernel, rfl, by decide +kernel, by decide +kernel⟩
-- def _law_moved_so: pool:0 p:1 n:2 kept:3 places:4 k:5 by:6 told:7 back:8 x:9 ahead:10 points:11 due:12
abbrev s_law_moved_so : Stmt := topS 60
abbrev N_law_moved_so : List Str := ["pool", "p", "n", "kept", "places", "k", "by", "told", "back", "x", "ahead", "points", "due"]
abbrev P_law_moved_so : List Str := ["pool", "p"]
theorem sc_law_moved_so : FnScope N_law_moved_so P_law_moved_so (defScope s_law_moved_so) := ⟨rfl, rfl, rfl, by decide +kernel, rfl, by decide +kernel, by decide +kernel⟩
-- def _law_pairs_so: told:0 p:1 q:2 is_sum:3 n:4 first:5 a:6 second:7 b:8 third:9 c:10 row:11 left:12 right:13 k:14 due:15 up:16 j:17
abbrev s_law_pairs_so : Stmt := topS 61
abbrev N_law_pairs_so : List Str := ["told", "p", "q", "is_sum", "n", "first", "a", "second", "b", "third", "c", "row", "left", "right", "k", "due", "up", "j"]
abbrev P_law_pairs_so : List Str := ["told", "p", "q", "is_sum"]
theorem sc_law_pairs_so : FnScope N_law_pairs_so P_law_pairs_so (defScope s_law_pairs_so) := ⟨rfl, rfl, rfl, by decide +kernel, rfl, by decide +kernel, by decide +kernel⟩
-- def _law_always: told:0
abbrev s_law_always : Stmt := topS 62
abbrev N_law_always : List Str := ["told"]
abbrev P_law_always : List Str := []
theorem sc_law_always : FnScope N_law_always P_law_always (defScope s_law_always) := ⟨rfl, rfl, rfl, by decide +kernel, rfl, by decide +kernel, by decide +kernel⟩
-- def law: script:0 pool:1 turn:2 p:3 q:4 keep:5 far:6
abbrev s_law : Stmt := topS 63
abbrev N_law : List Str := ["script", "pool", "turn", "p", "q", "keep", "far"]
abbrev P_law : List Str := ["script"]
theorem sc_law : FnScope N_law P_law (defScope s_law) := ⟨rfl, rfl, rfl, by decide +kernel, rfl, by decide +kernel, by decide +kernel⟩
end K2
end

section
set_option Elab.async false
set_option linter.all false
set_option maxRecDepth 100000
set_option maxHeartbeats 4000000
/-! K2p: sums and rows of whole numbers, no program in sight. -/
namespace K2
/-- a sum of n parts -/
def sm : Nat → (Nat → Int) → Int
  | 0, _ => 0
  | n + 1, f => sm n f + f n
abbrev co (ns : List Int) (i : Nat) : Int := ns.getD i 0
theorem sm_list (n : Nat) (f : Nat → Int) : ((List.range n).map f).sum = sm n f := by
  induction n with
  | zero => rfl
  | succ n ih => rw [List.range_succ, List.map_append, List.sum_append, ih]; simp [sm]
theorem sm_congr {n : Nat} {f g : Nat → Int} (h : ∀ i, i < n → f i = g i) : sm n f = sm n g := by
  induction n with
  | zero => rfl
  | succ n ih =>
    show sm n f + f n = sm n g + g n
    rw [ih (fun i hi => h i (by omega)), h n (by omega)]
theorem sm_zero (n : Nat) {f : Nat → Int} (h : ∀ i, i < n → f i = 0) : sm n f = 0 := by
  induction n with
  | zero => rfl
  | succ n ih =>
    show sm n f + f n = 0
    rw [ih (fun i hi => h i (by omega)), h n (by omega)]
    rfl
theorem sm_add (n : Nat) (f g : Nat → Int) : sm n (fun i => f i + g i) = sm n f + sm n g := by
  induction n with
  | zero => rfl
  | succ n ih =>
    show sm n (fun i => f i + g i) + (f n + g n) = (sm n f + f n) + (sm n g + g n)
    rw [ih]; omega
theorem sm_sub (n : Nat) (f g : Nat → Int) : sm n (fun i => f i - g i) = sm n f - sm n g := by
  induction n with
  | zero => rfl
  | succ n ih =>
    show sm n (fun i => f i - g i) + (f n - g n) = (sm n f + f n) - (sm n g + g n)
    rw [ih]; omega
theorem sm_neg (n : Nat) (f : Nat → Int) : sm n (fun i => -f i) = -sm n f := by
  induction n with
  | zero => rfl
  | succ n ih =>
    show sm n (fun i => -f i) + (-f n) = -(sm n f + f n)
    rw [ih]; omega
theorem sm_mul (c : Int) (n : Nat) (f : Nat → Int) : sm n (fun i => c * f i) = c * sm n f := by
  induction n with
  | zero => exact (Int.mul_zero c).symm
  | succ n ih =>
    show sm n (fun i => c * f i) + c * f n = c * (sm n f + f n)
    rw [ih, Int.mul_add]
theorem sm_mulR (c : Int) (n : Nat) (f : Nat → Int) : sm n (fun i => f i * c) = sm n f * c := by
  rw [Int.mul_comm, ← sm_mul]
  exact sm_congr fun i _ => Int.mul_comm _ _
theorem sm_succ (n : Nat) (f : Nat → Int) : sm (n + 1) f = f 0 + sm n (fun i => f (i + 1)) := by
  induction n with
  | zero => simp [sm]
  | succ n ih =>
    show sm (n + 1) f + f (n + 1) = f 0 + (sm n (fun i => f (i + 1)) + f (n + 1))
    rw [ih]; omega
theorem sm_swap (n m : Nat) (f : Nat → Nat → Int) : sm n (fun i => sm m (f i)) = sm m (fun j => sm n fun i => f i j) := by
  induction n with
  | zero => exact (sm_zero m fun _ _ => rfl).symm
  | succ n ih =>
    show sm n (fun i => sm m (f i)) + sm m (f n) = sm m (fun j => sm n (fun i => f i j) + f n j)
    rw [ih, sm_add]
theorem sm_rev (n : Nat) (f : Nat → Int) : sm n f = sm n (fun i => f (n - 1 - i)) := by
  induction n generalizing f with
  | zero => rfl
  | succ n ih =>
    rw [sm_succ n (fun i => f (n + 1 - 1 - i))]
    show sm n f + f n = f (n + 1 - 1 - 0) + _
    rw [ih f, Int.add_comm]
    congr 1
    exact sm_congr fun i hi => by congr 1; omega
theorem sm_more {n m : Nat} {f : Nat → Int} (h : n ≤ m) (z : ∀ i, n ≤ i → i < m → f i = 0) : sm m f = sm n f := by
  induction m with
  | zero => have : n = 0 := by omega
            subst this; rfl
  | succ m ih =>
    by_cases e : n = m + 1
    · subst e; rfl
    · show sm m f + f m = sm n f
      rw [ih (by omega) (fun i a b => z i a (by omega)), z m (by omega) (by omega)]
      omega
theorem sm_one {n k : Nat} {f : Nat → Int} (h : k < n) (z : ∀ i, i < n → i ≠ k → f i = 0) : sm n f = f k := by
  induction n with
  | zero => omega
  | succ n ih =>
    show sm n f + f n = f k
    by_cases e : k = n
    · subst e
      rw [sm_zero k fun i hi => z i (by omega) (by omega)]
      omega
    · rw [ih (by omega) (fun i a b => z i (by omega) b), z n (by omega) (fun q => e q.symm)]
      omega
/-! ### rows -/
def pad (p : List Int) (m : Nat) : List Int := p ++ List.replicate (m - p.length) 0
theorem pad_len (p : List Int) (m : Nat) : (pad p m).length = max p.length m := by simp [pad]; omega
theorem co_pad (p : List Int) (m i : Nat) : co (pad p m) i = co p i := by
  unfold pad co
  by_cases h : i < p.length
  · simp [List.getD, List.getElem?_append_left h]
  · by_cases h2 : i - p.length < m - p.length
    · simp [List.getD, List.getElem?_append_right (Nat.le_of_not_lt h), h2, List.getElem?_eq_none (Nat.le_of_not_lt h)]
    · simp [List.getD, List.getElem?_append_right (Nat.le_of_not_lt h), h2, List.getElem?_eq_none (Nat.le_of_not_lt h)]
theorem co_out {p : List Int} {i : Nat} (h : p.length ≤ i) : co p i = 0 := by simp [co, List.getD, List.getElem?_eq_none h]
theorem co_map (n i : Nat) (f : Nat → Int) : co ((List.range n).map f) i = if i < n then f i else 0 := by
  by_cases h : i < n
  · simp [co, List.getD, h]
  · rw [if_neg h]; exact co_out (by simp; omega)
theorem co_set (p : List Int) (i j : Nat) (z : Int) : co (p.set i z) j = if i = j ∧ i < p.length then z else co p j := by
  by_cases h : i = j
  · subst h
    by_cases h2 : i < p.length
    · simp [co, List.getD, h2]
    · rw [if_neg (by omega), co_out (by simp; omega), co_out (by omega)]
  · rw [if_neg (by omega)]
    simp [co, List.getD, List.getElem?_set_ne h]
theorem row_ext {p q : List Int} (h : p.length = q.length) (e : ∀ i, i < p.length → co p i = co q i) : p = q := by
  apply List.ext_getElem h
  intro i h1 h2
  have := e i h1
  simpa [co, List.getD, h1, h2] using this
/-- all numbers below 2 ^ n -/
def Bd (n : Nat) (ns : List Int) : Prop := ∀ x ∈ ns, x.natAbs < 2 ^ n
theorem Bd.co {n : Nat} {ns : List Int} (h : Bd n ns) (i : Nat) : (co ns i).natAbs < 2 ^ n := by
  by_cases hi : i < ns.length
  · have : K2.co ns i = ns[i] := by simp [K2.co, List.getD, hi]
    rw [this]; exact h _ (List.getElem_mem hi)
  · rw [co_out (by omega)]; exact Nat.two_pow_pos n
/-! ### what they reckon -/
/-- how many numbers are left when zeros at the end are dropped -/
def stopAt (ns : List Int) : Nat → Nat
  | 0 => 0
  | k + 1 => if ns.getD k 0 = 0 then stopAt ns k else k + 1
def trim (ns : List Int) : List Int := ns.take (stopAt ns ns.length)
theorem stopAt_le (ns : List Int) : ∀ k, stopAt ns k ≤ k
  | 0 => Nat.le_refl _
  | k + 1 => by
    unfold stopAt
    split
    · exact Nat.le_succ_of_le (stopAt_le ns k)
    · exact Nat.le_refl _
def cont (ns : List Int) : Nat := ns.foldl (fun g x => Nat.gcd g x.natAbs) 0
def small (ns : List Int) : List Int := if 1 < cont ns then ns.map fun x => x / (cont ns : Nat) else ns
def plain (ns : List Int) : List Int := if small ns ≠ [] ∧ (small ns).getD ((small ns).length - 1) 0 < 0 then (small ns).map fun x => -x else small ns

def padd (p q : List Int) : List Int := trim ((List.range (max p.length q.length)).map fun i => co p i + co q i)
def pmult (p : List Int) (by_ : Int) : List Int := trim (p.map fun x => x * by_)
/-- sums and products of rows -/
def acc (p q : List Int) (a k : Nat) : Int := sm a fun i => if i ≤ k then co p i * co q (k - i) else 0
def pmul (p q : List Int) : List Int := if p = [] ∨ q = [] then [] else (List.range (p.length + q.length - 1)).map fun k => acc p q p.length k
end K2
end

section
set_option Elab.async false
set_option linter.all false
set_option maxRecDepth 100000
set_option maxHeartbeats 4000000
/-! K2b: the program's small defs. -/
namespace K2
open PySem PySem.Spec PyProof.Rows L2 PD

theorem pow_lt {b : Int} {n : Nat} (h : b.natAbs < 2 ^ n) (k : Nat) : (b ^ k).natAbs < 2 ^ (n * k + 1) := by
  rw [Int.natAbs_pow]
  have h1 : b.natAbs ^ k ≤ (2 ^ n) ^ k := Nat.pow_le_pow_left (Nat.le_of_lt h) k
  rw [← Nat.pow_mul] at h1
  exact Nat.lt_of_le_of_lt h1 (Nat.pow_lt_pow_right (by decide) (Nat.lt_succ_self _))
theorem cut_to {α : Type} (xs : List α) (k : Nat) : PD.cutD xs none (some (k : Int)) = xs.take k := by
  unfold PD.cutD
  rw [HT.sIx_none, HT.sIx_nat, List.drop_zero, Nat.sub_zero]
  by_cases h : k ≤ xs.length
  · rw [Nat.min_eq_left h]
  · rw [Nat.min_eq_right (by omega), List.take_length, List.take_of_length_le (by omega)]
theorem cut_from {α : Type} (xs : List α) (k : Nat) : PD.cutD xs (some (k : Int)) none = xs.drop k := by
  unfold PD.cutD
  rw [HT.sIx_none, HT.sIx_nat]
  by_cases h : k ≤ xs.length
  · rw [Nat.min_eq_left h, List.take_of_length_le (by simp)]
  · rw [Nat.min_eq_right (by omega), List.drop_eq_nil_of_le (Nat.le_refl _), List.drop_eq_nil_of_le (by omega)]
    simp

theorem kit_ii : kitB "int" "int" = some true := by decide +kernel
theorem kit_ib : kitB "int" "bool" = some false := by decide +kernel

/-! ### promises -/
abbrev p_is_number : Sp := spP (ι := Int) (fun i => [.int i]) (fun _ => True) fun _ d => d = .bool true
abbrev p_power : Sp := spP (ι := Int × Nat) (fun i => [.int i.1, .int i.2]) (fun i => ∃ n, i.1.natAbs < 2 ^ n ∧ n * i.2 ≤ 10000000) fun i d => d = .int (i.1 ^ i.2)
abbrev p_trimmed : Sp := spP (ι := Bool × List Int) (fun i => [SQ i.1 i.2]) (fun _ => True) fun i d => d = TI (trim i.2)
abbrev p_content : Sp := spP (ι := Bool × List Int) (fun i => [SQ i.1 i.2]) (fun _ => True) fun i d => d = .int (cont i.2 : Nat)
abbrev p_small : Sp := spP (ι := Bool × List Int) (fun i => [SQ i.1 i.2]) (fun i => True) fun i d => d = TI (small i.2)
abbrev p_plain : Sp := spP (ι := Bool × List Int) (fun i => [SQ i.1 i.2]) (fun i => True) fun i d => d = TI (plain i.2)

section
variable {P : Program} {w : World} {K : PD.Frag} {mg : Str → Option Value} {base : Heap} {fd : FuncData} {f : Addr}
theorem ok_is_number (F : Fun K "is_number" "is_number" s_is_number f fd) (B : Bi mg) : FnOk P w K mg base CX0 33 f fd P_is_number p_is_number := by
  refine fn_ok F sc_is_number (fun _ => rfl) fun cdv A outer s H E hr i hp => ?_
  refine .one (.ret (.and (.isi (by rfl) B.isi (by rfl) B.int boot_int' (by decide) (by decide) (.var 0 rfl ⟨true, kit_ii, .mk (iteT ?_)⟩))))
  exact .one (.not (.isi (by rfl) B.isi (by rfl) B.bool boot_bool' (by decide) (by decide) (.var 0 rfl ⟨false, kit_ib, .mk rfl⟩)))
theorem ok_power (F : Fun K "power" "power" s_power f fd) (sr : base.NoSeer) (ht : P.given.tree = none) : FnOk P w K mg base CX0 33 f fd P_power p_power := by
  refine fn_ok F sc_power (fun _ => rfl) fun cdv A outer s H E hr i hp => ?_
  have sx := seer_b (P := P) (w := w) (K := K) (mg := mg) (outer := outer) (H := H) (E := E) sc_power hr (by decide) sr ht
  obtain ⟨b, m⟩ := i
  obtain ⟨n, hb, hn⟩ := hp
  replace hb : b.natAbs < 2 ^ n := hb
  replace hn : n * m ≤ 10000000 := hn
  refine .cons (.set 2 sc_power.nd (.int ?_))
  refine .cons (.set 3 sc_power.nd (.var 0 rfl ?_))
  refine .cons (.while_ PassesOwn.never (fun ρ => ∃ (i j k : Nat), ρ = [.d (.int b), .d (.int k), .d (.int (b ^ i)), .d (.int (b ^ j))] ∧ i + j * k = m) (fun ρ => match ρ with | [_, .d (.int k), _, _] => k.toNat | _ => 0) ⟨0, 1, m, by simp [startE, Int.pow_succ], by omega⟩ ?_)
  rintro _ ⟨i, j, k, rfl, hk⟩
  refine .cmp (.var 1 rfl (.int (.gt (.mk (ways (fun h0 => ?_) fun h0 => ?_)))))
  · refine .cut (fun ρ => ∃ i', ρ = [.d (.int b), .d (.int k), .d (.int (b ^ i')), .d (.int (b ^ j))] ∧ i' + j * (2 * (k / 2)) = m)
      (.ite (.cmp (.bin (.var 1 rfl (.int (.mod (by decide) (.int (.eqI (.mk (ways (fun h1 => ?_) fun h1 => ?_)))))))))) ?_
    · have e : k = 2 * (k / 2) + 1 := by omega
      have hm : i + j + j * (2 * (k / 2)) = m := by
        rw [← hk]
        conv => rhs; rw [e, Nat.mul_add]
        omega
      refine .one (.set 2 sc_power.nd (.bin (.var 2 rfl (.var 3 rfl (.mul ?_ ⟨i + j, ?_, hm⟩)))))
      · refine mulok (pow_lt hb i) (pow_lt hb j) ?_
        have : n * (i + j) ≤ n * m := Nat.mul_le_mul_left n (by omega)
        rw [Nat.mul_add] at this
        omega
      · show _ = _
        rw [Int.pow_add]
        rfl
    · refine .nil ⟨i, rfl, ?_⟩
      have e : k = 2 * (k / 2) := by omega
      rw [← e]
      exact hk
    · rintro _ ⟨i', rfl, hi⟩
      refine .cons (.set 1 sc_power.nd (.bin (.var 1 rfl (.int (.fdiv sx (by decide) ?_)))))
      refine .one (.ite (.cmp (.var 1 rfl (.int (.gt (.mk (ways (fun h1 => ?_) fun h1 => ?_)))))))
      · refine .one (.set 3 sc_power.nd (.bin (.var 3 rfl (.var 3 rfl (.mul ?_ ⟨⟨i', 2 * j, k / 2, ?_, ?_⟩, ?_⟩)))))
        · refine mulok (pow_lt hb j) (pow_lt hb j) ?_
          have hk2 : 1 ≤ k / 2 := by omega
          have : n * (j * 2) ≤ n * m := Nat.mul_le_mul_left n (by
            have : j * 2 * 1 ≤ j * 2 * (k / 2) := Nat.mul_le_mul_left _ hk2
            rw [Nat.mul_assoc j 2 (k / 2)] at this
            omega)
          rw [← Nat.mul_assoc] at this
          omega
        · show _ = _
          rw [show 2 * j = j + j by omega, Int.pow_add]
          rfl
        · rw [← hi, Nat.mul_assoc, Nat.mul_left_comm]
        · show (((k : Int) / 2)).toNat < k
          omega
      · refine .nil ⟨⟨i', j, k / 2, rfl, ?_⟩, ?_⟩
        · have : k / 2 = 0 := by omega
          rw [this] at hi ⊢
          exact hi
        · show (((k : Int) / 2)).toNat < k
          omega
  · refine .one (.ret (.var 2 rfl ?_))
    have : k = 0 := by omega
    subst this
    show _ = _
    simp at hk
    rw [hk]
theorem ok_trimmed (F : Fun K "trimmed" "trimmed" s_trimmed f fd) (B : Bi mg) : FnOk P w K mg base CX0 33 f fd P_trimmed p_trimmed := by
  refine fn_ok F sc_trimmed (fun _ => rfl) fun cdv A outer s H E hr i hp => ?_
  obtain ⟨sq, ns⟩ := i
  have ix : ∀ {X : Cx} {po : Option Addr} {Φ : Dat → Prop} {k : Nat}, k < ns.length → Φ (.int (ns.getD k 0)) → IxD X po (SQ sq ns) (.int (k : Int)) Φ := fun {X po Φ k} h q => by
    cases sq
    · exact .tup (at_nat h) q
    · exact .list (at_nat h) q
  refine .cons (.set 1 sc_trimmed.nd (.len (by rfl) B.len (.var 0 rfl ⟨_, sq_or sq ns, ?_⟩)))
  rw [List.length_map]
  refine .cons (.while_ PassesOwn.never (fun ρ => ∃ k : Nat, ρ = [.d (SQ sq ns), .d (.int k)] ∧ k ≤ ns.length ∧ stopAt ns k = stopAt ns ns.length) (fun ρ => match ρ with | [_, .d (.int k)] => k.toNat | _ => 0) ⟨ns.length, rfl, Nat.le_refl _, rfl⟩ ?_)
  rintro _ ⟨k, rfl, hk, he⟩
  have ret : stopAt ns k = k → JSs (bX P w K mg base N_trimmed "trimmed" s_trimmed f cdv A outer s H E) none ((defBody s_trimmed).drop 2) [.d (SQ sq ns), .d (.int k)] { nx := fun _ => PyData.none = TI (trim ns), rt := fun d => d = TI (trim ns) } := fun e => by
    have e2 : trim ns = ns.take k := by unfold trim; rw [← he, e]
    refine .one (.ret (.tupOf (by rfl) B.tuple ?_))
    rw [e2]
    cases sq
    · refine .sliceT (.var 0 rfl (.var 1 rfl ⟨_, rfl, _, rfl, _, .inr rfl, ?_⟩))
      show _ = _
      rw [cut_to, ← List.map_take]
    · refine .sliceL (.var 0 rfl (.var 1 rfl ⟨_, rfl, _, rfl, _, .inl rfl, ?_⟩))
      show _ = _
      rw [cut_to, ← List.map_take]
  refine JTw.jt (.and (.cmp (.var 1 rfl (.int (.gt (.mk (ways (fun h0 => ?_) fun h0 => ?_)))))))
  · refine .and1 (.cmp (.ix (.var 0 rfl (.bin (.var 1 rfl (.int (.sub ?_)))))))
    have e1 : (k : Int) - 1 = ((k - 1 : Nat) : Int) := by omega
    rw [e1]
    refine ix (by omega) (.int (.eqI (.mk (ways (fun h1 => ?_) fun h1 => ?_))))
    · have es : stopAt ns k = stopAt ns (k - 1) := by
        conv => lhs; rw [show k = (k - 1) + 1 by omega]
        show (if ns.getD (k - 1) 0 = 0 then _ else _) = _
        rw [if_pos h1]
      refine .one (.set 1 sc_trimmed.nd (.bin (.var 1 rfl (.int (.sub ⟨⟨k - 1, by rw [e1]; rfl, by omega, es.symm.trans he⟩, ?_⟩)))))
      show (((k : Int) - 1)).toNat < k
      omega
    · refine ret ?_
      conv => lhs; rw [show k = (k - 1) + 1 by omega]
      show (if ns.getD (k - 1) 0 = 0 then _ else _) = _
      rw [if_neg h1]
      omega
  · rw [if_neg Bool.false_ne_true]
    have : k = 0 := by omega
    subst this
    exact ret rfl
theorem ok_content (F : Fun K "content" "content" s_content f fd) (B : Bi mg) (gg : mg "gcd" = some (.builtin "math.gcd")) : FnOk P w K mg base CX0 33 f fd P_content p_content := by
  refine fn_ok F sc_content (fun _ => rfl) fun cdv A outer s H E hr i hp => ?_
  obtain ⟨sq, ns⟩ := i
  refine .cons (.set 1 sc_content.nd (.int ?_))
  refine .cons (.for_ PassesOwn.never rfl (pg_name (i := 2) sc_content.nd rfl (.inl rfl)) (gd1 2) (.seq (.var 0 rfl ⟨ns.map .int, sq_or sq ns, fun k ρ => ∃ z, ρ = [.d (SQ sq ns), .d (.int (cont (ns.take k) : Nat)), z], ⟨_, rfl⟩, ?_, ?_⟩)))
  · rintro k d _ hd ⟨z, rfl⟩
    obtain ⟨hk, rfl⟩ := get_ints hd
    refine ⟨_, rfl, .one (.set 1 sc_content.nd (.gcd (by rfl) gg (.var 1 rfl (.var 2 rfl ⟨_, _, rfl, rfl, .d (.int (ns.getD k 0)), ?_⟩))))⟩
    have e : cont (ns.take (k + 1)) = Nat.gcd (cont (ns.take k)) (ns.getD k 0).natAbs := by
      unfold cont
      rw [List.take_succ_eq_append_getElem hk, List.foldl_append]
      simp [List.getD, hk]
    rw [e]
    rfl
  · rintro _ ⟨z, rfl⟩
    refine .one (.ret (.var 1 rfl ?_))
    show _ = _
    rw [List.length_map, List.take_length]
theorem ok_small (C : FnD P w K mg base 33 "content" p_content) (sr : base.NoSeer) (ht : P.given.tree = none) (B : Bi mg) (F : Fun K "small" "small" s_small f fd) : FnOk P w K mg base CX0 34 f fd P_small p_small := by
  refine fn_ok F sc_small (fun _ => rfl) fun cdv A outer s H E hr i hp => ?_
  have sx := seer_b (P := P) (w := w) (K := K) (mg := mg) (outer := outer) (H := H) (E := E) sc_small hr (by decide) sr ht
  obtain ⟨sq, ns⟩ := i
  refine .cons (.set 1 sc_small.nd (.callF C hr (by rfl) (.cons (.var 0 rfl (.nil ⟨(sq, ns), rfl, trivial, ?_⟩)))))
  refine .one (.ret (.ifx (.cmp (.var 1 rfl (.int (.gt (.mk (ways (fun h0 => ?_) fun h0 => ?_))))))))
  · have h1 : 1 < cont ns := by have q : (1 : Int) < ((cont ns : Nat) : Int) := h0; omega
    refine .tupOf (by rfl) B.tuple (.lcI 2 rfl sc_small.nd (⟨rfl, by decide +kernel, by decide +kernel, by decide +kernel, by decide +kernel⟩ : BlkOk N_small (defScope s_small) _ [("number", 2)]) (fun _ _ _ _ _ => pg_name (i := 2) sc_small.nd rfl (.inl rfl)) (.var 0 rfl ⟨ns, sq, rfl, fun x => x / (cont ns : Nat), fun i hi s' H' C cl fp => ?_, _, .inl rfl, ?_⟩))
    · exact .bin (.var 2 rfl (.var 1 rfl (.fdiv sx.blk (by omega) rfl)))
    · show _ = _
      unfold small
      rw [if_pos h1]
  · refine .tupOf (by rfl) B.tuple (.var 0 rfl ⟨_, sq_or sq ns, ?_⟩)
    show _ = _
    unfold small
    rw [if_neg (by omega)]
end
end K2
end

section
set_option Elab.async false
set_option linter.all false
set_option maxRecDepth 100000
set_option maxHeartbeats 4000000
/-! K2c: rows of numbers added and multiplied. -/
namespace K2
open PySem PySem.Spec PyProof.Rows L2 PD

theorem isE (ns : List Int) : truD (TI ns) = some (!decide (ns = [])) := by
  show some (!(ns.map PyData.int).isEmpty) = _
  rw [emp_dec]
theorem ways2 {q : Prop} [Decidable q] {A B : Prop} (h1 : q → A) (h2 : ¬ q → B) : if (!!decide q) = true then A else B := by
  rw [Bool.not_not]; exact ways h1 h2
theorem yes {A B : Prop} (h : A) : if true = true then A else B := by rw [if_pos rfl]; exact h
theorem no {A B : Prop} (h : B) : if false = true then A else B := by rw [if_neg Bool.false_ne_true]; exact h
abbrev p_added : Sp := spP (ι := List Int × List Int) (fun i => [TI i.1, TI i.2]) (fun i => i.1.length ≤ 2 ^ 19 ∧ i.2.length ≤ 2 ^ 19) fun i d => d = TI (padd i.1 i.2)
abbrev p_multiple : Sp := spP (ι := List Int × Int) (fun i => [TI i.1, .int i.2]) (fun i => ∃ a b, Bd a i.1 ∧ i.2.natAbs < 2 ^ b ∧ a + b ≤ 100000000) fun i d => d = TI (pmult i.1 i.2)
abbrev p_multiplied : Sp := spP (ι := List Int × List Int) (fun i => [TI i.1, TI i.2]) (fun i => (∃ a b, Bd a i.1 ∧ Bd b i.2 ∧ a + b ≤ 100000000) ∧ i.1.length ≤ 2 ^ 19 ∧ i.2.length ≤ 2 ^ 19) fun i d => d = TI (pmul i.1 i.2)

section
variable {P : Program} {w : World} {K : PD.Frag} {mg : Str → Option Value} {base : Heap} {fd : FuncData} {f : Addr}
theorem ok_plain_of (C : FnD P w K mg base 34 "small" p_small) (B : Bi mg) (F : Fun K "plain_of" "plain_of" s_plain_of f fd) : FnOk P w K mg base CX0 35 f fd P_plain_of p_plain := by
  refine fn_ok F sc_plain_of (fun _ => rfl) fun cdv A outer s H E hr i hp => ?_
  obtain ⟨sq, ns⟩ := i
  refine .cons (.set 1 sc_plain_of.nd (.callF C hr (by rfl) (.cons (.var 0 rfl (.nil ⟨(sq, ns), rfl, trivial, ?_⟩)))))
  refine .one (.ret (.ifx (JTw.jt (.and (.tru (.var 1 rfl ⟨_, isE _, ?_⟩))))))
  refine waysN (fun h0 => .and1 (.cmp (.ix (.var 1 rfl (.neg (.int ⟨1, rfl, .tup (at_last h0) (.int (.lt (.mk (ways (fun h1 => ?_) fun h1 => ?_))))⟩)))))) fun h0 => ?_
  · refine .tupOf (by rfl) B.tuple (.lcI 2 rfl sc_plain_of.nd (⟨rfl, by decide +kernel, by decide +kernel, by decide +kernel, by decide +kernel⟩ : BlkOk N_plain_of (defScope s_plain_of) _ [("number", 2)]) (fun _ _ _ _ _ => pg_name (i := 2) sc_plain_of.nd rfl (.inl rfl)) (.var 1 rfl ⟨small ns, false, rfl, fun x => -x, fun i hi s' H' C cl fp => ?_, _, .inl rfl, ?_⟩))
    · exact .neg (.var 2 rfl ⟨_, rfl, rfl⟩)
    · show _ = _
      unfold plain
      rw [if_pos ⟨h0, h1⟩]
  · refine .var 1 rfl ?_
    show _ = _
    unfold plain
    rw [if_neg fun z => h1 z.2]
  · rw [if_neg Bool.false_ne_true]
    refine .var 1 rfl ?_
    show _ = _
    unfold plain
    rw [if_neg fun z => z.1 h0]
theorem ok_added (C : FnD P w K mg base 33 "trimmed" p_trimmed) (B : Bi mg) (F : Fun K "added" "added" s_added f fd) : FnOk P w K mg base CX0 34 f fd P_added p_added := by
  refine fn_ok F sc_added (fun _ => rfl) fun cdv A outer s H E hr i hp => ?_
  obtain ⟨p, q⟩ := i
  obtain ⟨hp1, hp2⟩ := hp
  replace hp1 : p.length ≤ 2 ^ 19 := hp1
  replace hp2 : q.length ≤ 2 ^ 19 := hp2
  refine .cons (.set 2 sc_added.nd (.max2 rfl (by rfl) B.max (.len (by rfl) B.len (.var 0 rfl ⟨_, .inr rfl, .len (by rfl) B.len (.var 1 rfl ⟨_, .inr rfl, _, _, rfl, rfl, ?_⟩)⟩))))
  have em : max ((p.map PyData.int).length : Int) ((q.map PyData.int).length : Int) = ((max p.length q.length : Nat) : Int) := by
    rw [List.length_map, List.length_map]; omega
  rw [em]
  have go : ∀ (r : List Int), r.length ≤ 2 ^ 19 → r.length ≤ max p.length q.length → (List.replicate ((max p.length q.length : Nat) - ((r.map PyData.int).length : Int)).toNat [PyData.int 0]).flatten = (List.replicate (max p.length q.length - r.length) 0).map PyData.int := fun r h1 h2 => by
    rw [rep0, List.length_map]
    congr 2
    omega
  have gl : ∀ (r : List Int), r.length ≤ 2 ^ 19 → r.length ≤ max p.length q.length → (r.map PyData.int).length + ((List.replicate (max p.length q.length - r.length) 0).map PyData.int).length ≤ sizeLine := fun r h1 h2 => by
    show _ ≤ 2 ^ 24
    simp; omega
  have gz : ∀ (r : List Int), r.length ≤ 2 ^ 19 → r.length ≤ max p.length q.length → -(2 ^ 63) ≤ (((max p.length q.length : Nat) : Int) - ((r.map PyData.int).length : Int)) ∧ (((max p.length q.length : Nat) : Int) - ((r.map PyData.int).length : Int)) < 2 ^ 63 ∧ [PyData.int 0].length * (((max p.length q.length : Nat) : Int) - ((r.map PyData.int).length : Int)).toNat ≤ sizeLine := fun r h1 h2 => by
    rw [List.length_map]
    show _ ∧ _ ∧ 1 * _ ≤ 2 ^ 24
    omega
  refine .cons (.set 3 sc_added.nd (.bin (.listOf (by rfl) B.list (.var 0 rfl ⟨_, .inr rfl, .bin (.lst (.cons (.int (.nil ⟨by decide, .bin (.var 2 rfl (.len (by rfl) B.len (.var 0 rfl ⟨_, .inr rfl, .sub ?_⟩)))⟩))))⟩))))
  refine .repL (gz p hp1 (by omega)).1 (gz p hp1 (by omega)).2.1 (gz p hp1 (by omega)).2.2 ?_
  rw [go p hp1 (by omega)]
  refine .catL (gl p hp1 (by omega)) ?_
  rw [← List.map_append]
  refine .cons (.set 4 sc_added.nd (.bin (.listOf (by rfl) B.list (.var 1 rfl ⟨_, .inr rfl, .bin (.lst (.cons (.int (.nil ⟨by decide, .bin (.var 2 rfl (.len (by rfl) B.len (.var 1 rfl ⟨_, .inr rfl, .sub ?_⟩)))⟩))))⟩))))
  refine .repL (gz q hp2 (by omega)).1 (gz q hp2 (by omega)).2.1 (gz q hp2 (by omega)).2.2 ?_
  rw [go q hp2 (by omega)]
  refine .catL (gl q hp2 (by omega)) ?_
  rw [← List.map_append]
  refine .one (.ret (.callF C hr (by rfl) (.cons (.lcR 5 rfl sc_added.nd (⟨rfl, by decide +kernel, by decide +kernel, by decide +kernel, by decide +kernel⟩ : BlkOk N_added (defScope s_added) _ [("at", 5)]) (fun _ _ _ _ _ => pg_name (i := 5) sc_added.nd rfl (.inl rfl)) (by rfl) B.range (.var 2 rfl ⟨max p.length q.length, rfl, by omega, fun i => .int (co p i + co q i), fun i hi s' H' Cc cl fp => ?_, .nil ⟨(true, (List.range (max p.length q.length)).map fun i => co p i + co q i), ?_, trivial, rfl⟩⟩)))))
  · refine .bin (.ix (.var 3 rfl (.var 5 rfl (.list (at_nat (ns := pad p (max p.length q.length)) (by rw [pad_len]; omega)) (.ix (.var 4 rfl (.var 5 rfl (.list (at_nat (ns := pad q (max p.length q.length)) (by rw [pad_len]; omega)) (.add ?_)))))))))
    show PyData.int (co (pad p _) i + co (pad q _) i) = _
    rw [co_pad, co_pad]
  · show [PyData.list _] = [PyData.list _]
    rw [List.map_map]
    rfl
theorem ok_multiple (C : FnD P w K mg base 33 "trimmed" p_trimmed) (F : Fun K "multiple" "multiple" s_multiple f fd) : FnOk P w K mg base CX0 34 f fd P_multiple p_multiple := by
  refine fn_ok F sc_multiple (fun _ => rfl) fun cdv A outer s H E hr i hp => ?_
  obtain ⟨p, z⟩ := i
  obtain ⟨a, b, h1, h2, h3⟩ := hp
  refine .one (.ret (.callF C hr (by rfl) (.cons (.lcI 2 rfl sc_multiple.nd (⟨rfl, by decide +kernel, by decide +kernel, by decide +kernel, by decide +kernel⟩ : BlkOk N_multiple (defScope s_multiple) _ [("number", 2)]) (fun _ _ _ _ _ => pg_name (i := 2) sc_multiple.nd rfl (.inl rfl)) (.var 0 rfl ⟨p, false, rfl, fun x => x * z, fun i hi s' H' Cc cl fp => ?_, .nil ⟨(true, p.map fun x => x * z), rfl, trivial, rfl⟩⟩)))))
  exact .bin (.var 2 rfl (.var 1 rfl (.mul (mulok (h1.co i) h2 h3) rfl)))
theorem ok_multiplied (B : Bi mg) (F : Fun K "multiplied" "multiplied" s_multiplied f fd) : FnOk P w K mg base CX0 33 f fd P_multiplied p_multiplied := by
  refine fn_ok F sc_multiplied (fun _ => rfl) fun cdv A outer s H E hr i hp => ?_
  obtain ⟨p, q⟩ := i
  dsimp only at hp ⊢
  obtain ⟨⟨a, b, hpa, hqb, hab⟩, hp1, hq1⟩ := hp
  replace hp1 : p.length ≤ 2 ^ 19 := hp1
  replace hq1 : q.length ≤ 2 ^ 19 := hq1
  replace hpa : Bd a p := hpa
  replace hqb : Bd b q := hqb
  have e0 : (p = [] ∨ q = []) → pmul p q = [] := fun h => by unfold pmul; rw [if_pos h]
  refine .cons (.ite (JTw.jt (.or (.not (.tru (.var 0 rfl ⟨_, isE _, ways2 (fun h0 => yes ?_) fun h0 => .or1 (.not (.tru (.var 1 rfl ⟨_, isE _, ways2 (fun h1 => ?_) fun h1 => .nil ?_⟩)))⟩))))))
  · refine .one (.ret (.tup (.nil ⟨by decide, ?_⟩)))
    show _ = TI (pmul p q)
    rw [e0 (.inl h0)]
    rfl
  · refine .one (.ret (.tup (.nil ⟨by decide, ?_⟩)))
    show _ = TI (pmul p q)
    rw [e0 (.inr h1)]
    rfl
  have l0 : 0 < p.length := List.length_pos_iff.mpr h0
  have l1 : 0 < q.length := List.length_pos_iff.mpr h1
  have e1 : pmul p q = (List.range (p.length + q.length - 1)).map fun k => acc p q p.length k := by unfold pmul; rw [if_neg (by intro z; rcases z with z | z; exact h0 z; exact h1 z)]
  have en : (((p.map PyData.int).length : Int) + ((q.map PyData.int).length : Int) - 1).toNat = p.length + q.length - 1 := by
    rw [List.length_map, List.length_map]; omega
  refine .cons (.setF 2 sc_multiplied.nd (.rep (.lst (.cons (.int (.nil ⟨by decide, .bin (.bin (.len (by rfl) B.len (.var 0 rfl ⟨_, .inr rfl, .len (by rfl) B.len (.var 1 rfl ⟨_, .inr rfl, .add (.int (.sub ⟨_, _, rfl, rfl, ?_, ?_, ?_, ?_⟩))⟩)⟩)))⟩))))))
  · simp only [List.length_map]; omega
  · simp only [List.length_map]; omega
  · rw [en]; show 1 * _ ≤ 2 ^ 24; omega
  rw [en, rep0]
  refine .cons (.for_ PassesOwn.never rfl (pg_tup rfl (pgs_cons (pg_name (i := 3) sc_multiplied.nd rfl (.inl rfl)) (pgs_cons (pg_name (i := 4) sc_multiplied.nd rfl (.inl rfl)) pgs_nil))) (gd2 (by decide))
    (.enumT (by rfl) B.enum (.cons (.var 0 rfl (.nil ⟨_, rfl, ?_, fun at_ ρ => ∃ (L : List Int) (z3 z4 z5 z6 : Sl), ρ = [.d (TI p), .d (TI q), .own (L.map .int), z3, z4, z5, z6] ∧ L.length = p.length + q.length - 1 ∧ ∀ k, k < L.length → co L k = acc p q at_ k, ⟨List.replicate (p.length + q.length - 1) 0, .x, .x, .x, .x, rfl, by simp, ?_⟩, ?_, ?_⟩)))))
  · rw [List.length_map]; show _ ≤ 2 ^ 24; omega
  · intro k hk
    rw [List.length_replicate] at hk
    show _ = 0
    simp [co, List.getD, hk]
  · rintro at_ d _ hd ⟨L, z3, z4, z5, z6, rfl, hl, hL⟩
    obtain ⟨hat, rfl⟩ := get_enum hd
    refine ⟨_, ⟨_, _, rfl, rfl⟩, .one (.ite (.cmp (.var 4 rfl (.int (.neI (.mk (waysN (fun h2 => .one ?_) fun h2 => .nil ?_)))))))⟩
    · refine .for_ PassesOwn.never rfl (pg_tup rfl (pgs_cons (pg_name (i := 5) sc_multiplied.nd rfl (.inl rfl)) (pgs_cons (pg_name (i := 6) sc_multiplied.nd rfl (.inl rfl)) pgs_nil))) (gd2 (by decide))
        (.enumT (by rfl) B.enum (.cons (.var 1 rfl (.nil ⟨_, rfl, ?_, fun b_ ρ => ∃ (L : List Int) (z5 z6 : Sl), ρ = [.d (TI p), .d (TI q), .own (L.map .int), .d (.int (at_ : Nat)), .d (.int (co p at_)), z5, z6] ∧ L.length = p.length + q.length - 1 ∧ ∀ k, k < L.length → co L k = acc p q at_ k + (if at_ ≤ k ∧ k - at_ < b_ then co p at_ * co q (k - at_) else 0), ⟨L, z5, z6, rfl, hl, ?_⟩, ?_, ?_⟩))))
      · rw [List.length_map]; show _ ≤ 2 ^ 24; omega
      · intro k hk
        rw [hL k hk, if_neg (by omega)]; omega
      · rintro b_ d _ hd ⟨L, z5, z6, rfl, hl, hL⟩
        obtain ⟨hb, rfl⟩ := get_enum hd
        have hi : at_ + b_ < L.length := by rw [hl]; omega
        have ei : ((at_ : Nat) : Int) + ((b_ : Nat) : Int) = ((at_ + b_ : Nat) : Int) := by omega
        refine ⟨_, ⟨_, _, rfl, rfl⟩, .one (.setItem 2 rfl (.flat (.bin (.ix (.var 2 rfl (.bin (.var 3 rfl (.var 5 rfl (.add ?_)))))))) )⟩
        rw [ei]
        refine .list (at_nat hi) (.bin (.var 4 rfl (.var 6 rfl (.mul (mulok (hpa.co at_) (hqb.co b_) hab) (.add ⟨rfl, .bin (.var 3 rfl (.var 5 rfl (.add ⟨_, _, rfl, ix_nat (by omega) (by rw [List.length_map]; omega), L.set (at_ + b_) (co L (at_ + b_) + co p at_ * co q b_), .d (.int (b_ : Nat)), .d (.int (co q b_)), ?_, by rw [List.length_set]; exact hl, ?_⟩)))⟩)))))
        · rw [ei, Int.toNat_natCast, List.map_set]
          rfl
        · intro k hk
          rw [List.length_set] at hk
          rw [co_set]
          by_cases ek : at_ + b_ = k
          · subst ek
            rw [if_pos ⟨rfl, hk⟩, if_pos ⟨by omega, by omega⟩, hL _ hk, if_neg (by omega), show at_ + b_ - at_ = b_ by omega]
            omega
          · rw [if_neg (fun z => ek z.1), hL k hk]
            congr 1
            by_cases c : at_ ≤ k ∧ k - at_ < b_
            · rw [if_pos c, if_pos ⟨c.1, by omega⟩]
            · rw [if_neg c, if_neg (by omega)]
      · rintro _ ⟨L, z5, z6, rfl, hl, hL⟩
        refine ⟨L, _, _, z5, z6, rfl, hl, fun k hk => ?_⟩
        rw [hL k hk, enum_len, List.length_map]
        show _ = acc p q at_ k + (if at_ ≤ k then co p at_ * co q (k - at_) else 0)
        congr 1
        by_cases c : at_ ≤ k
        · rw [if_pos c]
          by_cases c2 : k - at_ < q.length
          · rw [if_pos ⟨c, c2⟩]
          · rw [if_neg (fun z => c2 z.2), co_out (p := q) (by omega), Int.mul_zero]
        · rw [if_neg c, if_neg (fun z => c z.1)]
    · refine ⟨L, _, _, z5, z6, rfl, hl, fun k hk => ?_⟩
      rw [hL k hk]
      show _ = acc p q at_ k + (if at_ ≤ k then co p at_ * co q (k - at_) else 0)
      have h2 : co p at_ = 0 := h2
      rw [h2, Int.zero_mul]
      split <;> omega
  · rintro _ ⟨L, z3, z4, z5, z6, rfl, hl, hL⟩
    rw [enum_len, List.length_map] at hL
    refine .freeze (.one (.ret (.tupOf (by rfl) B.tuple (.var 2 rfl ⟨_, .inl rfl, ?_⟩))))
    show _ = TI (pmul p q)
    rw [e1]
    have : L = (List.range (p.length + q.length - 1)).map fun k => acc p q p.length k := row_ext (by simpa using hl) fun k hk => by
      rw [hL k hk, co_map, if_pos (by omega)]
    rw [← this]
end
end K2
end

section
set_option Elab.async false
set_option linter.all false
set_option maxRecDepth 100000
set_option maxHeartbeats 4000000
/-! K2q: what the program's longer defs reckon, and how great it gets. -/
namespace K2
/-- a row built number by number from what stands already -/
def bl (g : List Int → Nat → Int) : Nat → List Int
  | 0 => []
  | k + 1 => bl g k ++ [g (bl g k) k]
theorem bl_len (g : List Int → Nat → Int) : ∀ k, (bl g k).length = k
  | 0 => rfl
  | k + 1 => by show (bl g k ++ [_]).length = _; rw [List.length_append, bl_len g k]; rfl
theorem co_app {p q : List Int} {i : Nat} (h : i < p.length) : co (p ++ q) i = co p i := by simp [co, List.getD, List.getElem?_append_left h]
theorem co_last (p : List Int) (z : Int) : co (p ++ [z]) p.length = z := by simp [co, List.getD]
theorem co_bl (g : List Int → Nat → Int) {k : Nat} : ∀ {m}, k < m → co (bl g m) k = g (bl g k) k
  | 0, h => by omega
  | m + 1, h => by
    show co (bl g m ++ [_]) k = _
    by_cases e : k = m
    · subst e
      have := co_last (bl g k) (g (bl g k) k)
      rw [bl_len] at this
      exact this
    · rw [co_app (by rw [bl_len]; omega)]
      exact co_bl g (by omega)
def lead (p : List Int) : Int := co p (p.length - 1)
def mon (p : List Int) : List Int := ((List.range (p.length - 1)).map fun i => co p i * lead p ^ (p.length - 2 - i)) ++ [1]
theorem mon_len {p : List Int} (h : p ≠ []) : (mon p).length = p.length := by
  have : 0 < p.length := List.length_pos_iff.mpr h
  simp [mon]; omega
theorem co_mon {p : List Int} {i : Nat} (h : i < p.length - 1) : co (mon p) i = co p i * lead p ^ (p.length - 2 - i) := by
  unfold mon
  rw [co_app (by simpa using h), co_map, if_pos h]
theorem co_mon_last (p : List Int) : co (mon p) (p.length - 1) = 1 := by
  have := co_last ((List.range (p.length - 1)).map fun i => co p i * lead p ^ (p.length - 2 - i)) 1
  simpa [mon] using this
/-- Newton's sums: the next of them -/
def pnx (p L : List Int) (k : Nat) : Int := -(if k ≤ p.length - 1 then (k : Int) * co p (p.length - 1 - k) else 0) - sm (min (k - 1) (p.length - 1)) fun j => co p (p.length - 1 - (j + 1)) * co L (k - (j + 1))
def pwl (p : List Int) : Nat → List Int := bl fun L k => if k = 0 then ((p.length - 1 : Nat) : Int) else pnx p L k
def psum (p : List Int) (k : Nat) : Int := co (pwl p (k + 1)) k
theorem co_pwl {p : List Int} {k m : Nat} (h : k < m) : co (pwl p m) k = psum p k := by
  unfold psum pwl
  rw [co_bl _ h, co_bl _ (Nat.lt_succ_self k)]
theorem psum_zero (p : List Int) : psum p 0 = ((p.length - 1 : Nat) : Int) := rfl
theorem psum_pos (p : List Int) {k : Nat} (h : k ≠ 0) : psum p k = -(if k ≤ p.length - 1 then (k : Int) * co p (p.length - 1 - k) else 0) - sm (min (k - 1) (p.length - 1)) fun j => co p (p.length - 1 - (j + 1)) * psum p (k - (j + 1)) := by
  unfold psum pwl
  rw [co_bl _ (Nat.lt_succ_self k)]
  rw [if_neg h]
  unfold pnx
  congr 1
  exact sm_congr fun j hj => by
    have : k - (j + 1) < k := by omega
    rw [co_bl _ this, co_bl _ (Nat.lt_succ_self _)]
/-- from sums of powers to coefficients, by floors -/
def eql (L : List Int) : Nat → List Int := bl fun E k => if k = 0 then 1 else -(sm k fun j => co E (k - (j + 1)) * co L (j + 1)) / (k : Int)
def esum (L : List Int) (k : Nat) : Int := co (eql L (k + 1)) k
theorem co_eql {L : List Int} {k m : Nat} (h : k < m) : co (eql L m) k = esum L k := by
  unfold esum eql
  rw [co_bl _ h, co_bl _ (Nat.lt_succ_self k)]
theorem esum_zero (L : List Int) : esum L 0 = 1 := rfl
theorem esum_pos (L : List Int) {k : Nat} (h : k ≠ 0) : esum L k = -(sm k fun j => esum L (k - (j + 1)) * co L (j + 1)) / (k : Int) := by
  unfold esum eql
  rw [co_bl _ (Nat.lt_succ_self k), if_neg h]
  congr 2
  exact sm_congr fun j hj => by
    have : k - (j + 1) < k := by omega
    rw [co_bl _ this, co_bl _ (Nat.lt_succ_self _)]
/-! ### how great -/
theorem sm_bd {n B : Nat} {f : Nat → Int} (h : ∀ i, i < n → (f i).natAbs ≤ B) : (sm n f).natAbs ≤ n * B := by
  induction n with
  | zero => exact Nat.zero_le _
  | succ n ih =>
    show (sm n f + f n).natAbs ≤ _
    refine Nat.le_trans (Int.natAbs_add_le _ _) ?_
    rw [Nat.succ_mul]
    exact Nat.add_le_add (ih fun i hi => h i (by omega)) (h n (by omega))
theorem mul_bd {x y : Int} {a b : Nat} (hx : x.natAbs ≤ 2 ^ a) (hy : y.natAbs ≤ 2 ^ b) : (x * y).natAbs ≤ 2 ^ (a + b) := by
  rw [Int.natAbs_mul, Nat.pow_add]
  exact Nat.mul_le_mul hx hy
theorem pow_bd {x : Int} {a : Nat} (hx : x.natAbs ≤ 2 ^ a) (k : Nat) : (x ^ k).natAbs ≤ 2 ^ (a * k) := by
  rw [Int.natAbs_pow, Nat.pow_mul]
  exact Nat.pow_le_pow_left hx k
theorem le_two {a b : Nat} (h : a ≤ b) : 2 ^ a ≤ 2 ^ b := Nat.pow_le_pow_right (by decide) h
theorem lt_two {x a b : Nat} (h : x ≤ 2 ^ a) (k : a < b) : x < 2 ^ b := Nat.lt_of_le_of_lt h (Nat.pow_lt_pow_right (by decide) k)
/-- graded: the number j below the top has at most b·j bits -/
def GB (b : Nat) (w : List Int) : Prop := ∀ j, 0 < j → j ≤ w.length - 1 → (co w (w.length - 1 - j)).natAbs ≤ 2 ^ (b * j)
theorem psum_bd {w : List Int} {b : Nat} (h : GB b w) (hl : w.length ≤ 65) : ∀ k, 0 < k → k ≤ 65 → (psum w k).natAbs ≤ 2 ^ ((b + 8) * k) := by
  intro k
  induction k using Nat.strongRecOn with
  | ind k ih =>
    intro h0 h65
    rw [psum_pos w (by omega)]
    have e1 : (-(if k ≤ w.length - 1 then (k : Int) * co w (w.length - 1 - k) else 0)).natAbs ≤ 65 * 2 ^ (b * k + 8 * (k - 1)) := by
      rw [Int.natAbs_neg]
      split
      · rename_i hk
        rw [Int.natAbs_mul]
        exact Nat.mul_le_mul (by simpa using h65) (Nat.le_trans (h k h0 hk) (le_two (by omega)))
      · exact Nat.zero_le _
    have e2 : (sm (min (k - 1) (w.length - 1)) fun j => co w (w.length - 1 - (j + 1)) * psum w (k - (j + 1))).natAbs ≤ 64 * 2 ^ (b * k + 8 * (k - 1)) := by
      refine Nat.le_trans (sm_bd (B := 2 ^ (b * k + 8 * (k - 1))) fun j hj => ?_) (Nat.mul_le_mul_right _ (by omega))
      refine Nat.le_trans (mul_bd (h (j + 1) (by omega) (by omega)) (ih (k - (j + 1)) (by omega) (by omega) (by omega))) (le_two ?_)
      obtain ⟨r, hr⟩ : ∃ r, k = r + (j + 1) := ⟨k - (j + 1), by omega⟩
      subst hr
      rw [Nat.add_sub_cancel, Nat.mul_add b r (j + 1), Nat.add_mul]
      have : r ≤ r + (j + 1) - 1 := by omega
      have := Nat.mul_le_mul_left 8 this
      omega
    have e3 : ∀ {x y : Int} {a c : Nat}, x.natAbs ≤ a → y.natAbs ≤ c → (x - y).natAbs ≤ a + c := fun h1 h2 => by omega
    refine Nat.le_trans (e3 e1 e2) ?_
    rw [← Nat.add_mul, Nat.add_mul b 8 k]
    have : b * k + 8 * k = 8 + (b * k + 8 * (k - 1)) := by omega
    rw [this, Nat.pow_add 2 8]
    exact Nat.mul_le_mul_right _ (show 65 + 64 ≤ 2 ^ 8 by decide)
theorem div_bd {x : Int} {k M : Nat} (hk : 0 < k) (h : x.natAbs ≤ k * M) : (x / (k : Int)).natAbs ≤ M := by
  have hk' : (0 : Int) < k := by omega
  have hM : (x.natAbs : Int) ≤ (k : Int) * (M : Int) := by
    have : ((x.natAbs : Nat) : Int) ≤ ((k * M : Nat) : Int) := Int.ofNat_le.mpr h
    rwa [Int.natCast_mul] at this
  have h1 : x / (k : Int) ≤ M := by
    have := Int.ediv_le_ediv hk' (show x ≤ k * M by omega)
    rwa [Int.mul_ediv_cancel_left _ (by omega)] at this
  have h2 : -(M : Int) ≤ x / (k : Int) := by
    rw [Int.le_ediv_iff_mul_le hk']
    rw [Int.neg_mul, Int.mul_comm]
    omega
  omega
theorem esum_bd {L : List Int} {b : Nat} {n : Nat} (h : ∀ k, 0 < k → k ≤ n → (co L k).natAbs ≤ 2 ^ (b * k)) : ∀ k, k ≤ n → (esum L k).natAbs ≤ 2 ^ (b * k) := by
  intro k
  induction k using Nat.strongRecOn with
  | ind k ih =>
    intro hn
    by_cases h0 : k = 0
    · subst h0; exact Nat.le_refl _
    · rw [esum_pos L h0]
      refine div_bd (by omega) ?_
      rw [Int.natAbs_neg]
      refine sm_bd fun j hj => ?_
      refine Nat.le_trans (mul_bd (ih (k - (j + 1)) (by omega) (by omega)) (h (j + 1) (by omega) (by omega))) (le_two ?_)
      rw [← Nat.mul_add]
      exact Nat.mul_le_mul_left b (by omega)
end K2
end

section
set_option Elab.async false
set_option linter.all false
set_option maxRecDepth 100000
set_option maxHeartbeats 4000000
/-! K2d: monic rows, sums of powers and back. -/
namespace K2
open PySem PySem.Spec PyProof.Rows L2 PD

/-- bits of the numbers of a row that comes in -/
abbrev CB : Nat := 400
structure PolOk (p : List Int) : Prop where
  ne : p ≠ []
  len : p.length ≤ 65
  bd : Bd CB p
abbrev p_monic : Sp := spP (ι := List Int) (fun p => [TI p]) PolOk fun p d => d = .tuple [.int (lead p), TI (mon p)]
abbrev p_sums_of_powers : Sp := spP (ι := List Int × Nat) (fun i => [TI i.1, .int i.2]) (fun i => i.1 ≠ [] ∧ i.1.length ≤ 65 ∧ 0 < i.2 ∧ i.2 ≤ 65 ∧ ∃ b, GB b i.1 ∧ b ≤ 100000) fun i d => d = LI (pwl i.1 i.2)
abbrev p_of_sums : Sp := spP (ι := List Int × Nat) (fun i => [LI i.1]) (fun i => i.1.length = i.2 + 1 ∧ i.2 ≤ 64 ∧ co i.1 0 = i.2 ∧ ∃ b, b ≤ 100000 ∧ ∀ k, 0 < k → k ≤ i.2 → (co i.1 k).natAbs ≤ 2 ^ (b * k)) fun i d => d = TI (eql i.1 (i.2 + 1)).reverse
abbrev scale (p : List Int) (n d : Int) : List Int := plain (imap p fun at_ x => x * d ^ at_ * n ^ (p.length - 1 - at_))
abbrev p_scaled_of : Sp := spP (ι := List Int × Int × Int) (fun i => [TI i.1, .int i.2.1, .int i.2.2]) (fun i => i.1.length ≤ 65 ∧ ∃ a b c, Bd a i.1 ∧ i.2.1.natAbs < 2 ^ b ∧ i.2.2.natAbs < 2 ^ c ∧ a ≤ 1000000 ∧ b ≤ 10000 ∧ c ≤ 10000) fun i d => d = TI (scale i.1 i.2.1 i.2.2)

section
variable {P : Program} {w : World} {K : PD.Frag} {mg : Str → Option Value} {base : Heap} {fd : FuncData} {f : Addr}
theorem ok_monic (C : FnD P w K mg base 33 "power" p_power) (B : Bi mg) (F : Fun K "monic" "monic" s_monic f fd) : FnOk P w K mg base CX0 34 f fd P_monic p_monic := by
  refine fn_ok F sc_monic (fun _ => rfl) fun cdv A outer s H E hr p hp => ?_
  have l0 : 0 < p.length := List.length_pos_iff.mpr hp.ne
  refine .cons (.set 1 sc_monic.nd (.ix (.var 0 rfl (.neg (.int ⟨1, rfl, .tup (at_last hp.ne) ?_⟩)))))
  refine .cons (.set 2 sc_monic.nd (.bin (.len (by rfl) B.len (.var 0 rfl ⟨_, .inr rfl, .int (.sub ?_)⟩))))
  have el : ((p.map PyData.int).length : Int) - 1 = ((p.length - 1 : Nat) : Int) := by rw [List.length_map]; omega
  rw [el]
  refine .one (.ret (.tup (.cons (.var 1 rfl (.cons (.tupOf (by rfl) B.tuple ?_))))))
  refine .bin (.lcE 3 4 rfl sc_monic.nd (by decide) (⟨rfl, by decide +kernel, by decide +kernel, by decide +kernel, by decide +kernel⟩ : BlkOk N_monic (defScope s_monic) _ [("at", 3), ("number", 4)])
    (fun _ _ _ _ _ => pg_tup rfl (pgs_cons (pg_name (i := 3) sc_monic.nd rfl (.inl rfl)) (pgs_cons (pg_name (i := 4) sc_monic.nd rfl (.inl rfl)) pgs_nil))) ?_)
  refine .enumT (by rfl) B.enum (.cons ?_)
  refine .sliceT (.var 0 rfl (.var 2 rfl ⟨_, rfl, _, rfl, .nil ⟨_, rfl, ?_, p.take (p.length - 1), ?_, fun at_ x => x * lead p ^ (p.length - 2 - at_), fun i hi s' H' Cc cl fp => ?_, ?_⟩⟩))
  · rw [cut_to, List.length_take, List.length_map]
    have := hp.len
    show _ ≤ 2 ^ 24
    omega
  · rw [cut_to, List.map_take]
  · rw [List.length_take] at hi
    have ec : (p.take (p.length - 1)).getD i 0 = co p i := by
      simp only [co, List.getD, List.getElem?_take]
      rw [if_pos (by omega)]
    rw [ec]
    refine .bin (.var 4 rfl (.callF C hr (by rfl) (.cons (.var 1 rfl (.cons (.bin (.bin (.var 2 rfl (.int (.sub (.var 3 rfl (.sub (.nil ⟨(lead p, p.length - 2 - i), ?_, ⟨CB, hp.bd.co _, ?_⟩, ?_⟩)))))))))))))
    · show [PyData.int _, PyData.int _] = [PyData.int _, PyData.int _]
      rw [show ((p.length - 1 : Nat) : Int) - 1 - (i : Int) = ((p.length - 2 - i : Nat) : Int) by omega]
      rfl
    · have := hp.len
      show 400 * (p.length - 2 - i) ≤ _
      omega
    · refine .mul (mulok (hp.bd.co i) (pow_lt (hp.bd.co _) _) ?_) rfl
      have := hp.len
      show 400 + (400 * (p.length - 2 - i) + 1) ≤ _
      omega
  · refine .lst (.cons (.int (.nil ⟨by decide, .catL ?_ ⟨_, .inl rfl, .nil ⟨by show 2 ≤ 2 ^ 24; decide, ?_⟩⟩⟩)))
    · have := hp.len
      show _ ≤ 2 ^ 24
      simp [imap_len]
      omega
    · show PyData.tuple [PyData.int _, PyData.tuple _] = PyData.tuple [PyData.int _, PyData.tuple _]
      have : imap (p.take (p.length - 1)) (fun at_ x => x * lead p ^ (p.length - 2 - at_)) = (List.range (p.length - 1)).map fun i => co p i * lead p ^ (p.length - 2 - i) := by
        refine row_ext (by rw [imap_len]; simp) fun i hi => ?_
        rw [imap_len] at hi
        have e := imap_get (f := fun at_ x => x * lead p ^ (p.length - 2 - at_)) hi
        rw [List.length_take] at hi
        rw [co_map, if_pos (by omega)]
        refine e.trans ?_
        have ec : (p.take (p.length - 1)).getD i 0 = co p i := by
          simp only [co, List.getD, List.getElem?_take]
          rw [if_pos (by omega)]
        rw [ec]
      rw [this]
      unfold mon
      rw [List.map_append]
      rfl
theorem ok_sums_of_powers (B : Bi mg) (F : Fun K "sums_of_powers" "sums_of_powers" s_sums_of_powers f fd) : FnOk P w K mg base CX0 33 f fd P_sums_of_powers p_sums_of_powers := by
  refine fn_ok F sc_sums_of_powers (fun _ => rfl) fun cdv A outer s H E hr i hp => ?_
  obtain ⟨p, many⟩ := i
  dsimp only at hp ⊢
  obtain ⟨hne, hl, hm0, hm, b, hb, hb1⟩ := hp
  have l0 : 0 < p.length := List.length_pos_iff.mpr hne
  refine .cons (.set 2 sc_sums_of_powers.nd (.bin (.len (by rfl) B.len (.var 0 rfl ⟨_, .inr rfl, .int (.sub ?_)⟩))))
  have el : ((p.map PyData.int).length : Int) - 1 = ((p.length - 1 : Nat) : Int) := by rw [List.length_map]; omega
  rw [el]
  refine .cons (.setF 3 sc_sums_of_powers.nd (.lst (.cons (.var 2 rfl (.nil ⟨by show 1 ≤ 2 ^ 24; decide, ?_⟩)))))
  refine .cons (.for_ PassesOwn.never rfl (pg_name (i := 4) sc_sums_of_powers.nd rfl (.inl rfl)) (gd1 4)
    (.range2 (by rfl) B.range (.cons (.int (.cons (.var 1 rfl (.nil ⟨1, (many : Nat), rfl, by omega, by show _ ≤ 2 ^ 24; omega, fun k ρ => ∃ (z4 z5 z6 : Sl), ρ = [.d (TI p), .d (.int (many : Nat)), .d (.int (p.length - 1 : Nat)), .own ((pwl p (k + 1)).map .int), z4, z5, z6], ⟨.x, .x, .x, rfl⟩, ?_, ?_⟩)))))))
  · rintro k d _ hd ⟨z4, z5, z6, rfl⟩
    obtain ⟨hk, rfl⟩ := get_rng hd
    refine ⟨_, rfl, ?_⟩
    have ek : (1 : Int) + (k : Nat) = ((k + 1 : Nat) : Int) := by omega
    rw [ek]
    have hf : ((pwl p (k + 1)).map PyData.int).length = k + 1 := by rw [List.length_map, pwl, bl_len]
    refine .cut (fun ρ => ρ = [.d (TI p), .d (.int (many : Nat)), .d (.int (p.length - 1 : Nat)), .own ((pwl p (k + 1)).map .int), .d (.int (k + 1 : Nat)), .d (.int (-(if k + 1 ≤ p.length - 1 then ((k + 1 : Nat) : Int) * co p (p.length - 1 - (k + 1)) else 0))), z6])
      (.set 5 sc_sums_of_powers.nd (.ifx (.cmp (.var 4 rfl (.var 2 rfl (.le (.mk (ways (fun h => ?_) fun h => .int ?_)))))))) ?_
    · have h' : k + 1 ≤ p.length - 1 := by omega
      refine .bin (.neg (.var 4 rfl ⟨_, rfl, .ix (.var 0 rfl (.bin (.var 2 rfl (.var 4 rfl (.sub ?_)))))⟩))
      rw [show ((p.length - 1 : Nat) : Int) - ((k + 1 : Nat) : Int) = ((p.length - 1 - (k + 1) : Nat) : Int) by omega]
      refine .tup (at_nat (by omega)) (.mul (mulokL (by omega)) ?_)
      show [_, _, _, _, _, Sl.d (PyData.int _), _] = [_, _, _, _, _, Sl.d (PyData.int _), _]
      rw [if_pos h', Int.neg_mul]
    · have h' : ¬ k + 1 ≤ p.length - 1 := by omega
      show [_, _, _, _, _, Sl.d (PyData.int _), _] = [_, _, _, _, _, Sl.d (PyData.int _), _]
      rw [if_neg h']
      rfl
    rintro _ rfl
    refine .cut (fun ρ => ∃ z6 : Sl, ρ = [.d (TI p), .d (.int (many : Nat)), .d (.int (p.length - 1 : Nat)), .own ((pwl p (k + 1)).map .int), .d (.int (k + 1 : Nat)), .d (.int (pnx p (pwl p (k + 1)) (k + 1))), z6]) ?_ ?_
    · refine .for_ PassesOwn.never rfl (pg_name (i := 6) sc_sums_of_powers.nd rfl (.inl rfl)) (gd1 6)
        (.range2 (by rfl) B.range (.cons (.int (.cons (.min2 rfl (by rfl) B.min (.var 4 rfl (.bin (.var 2 rfl (.int (.add ⟨_, _, rfl, rfl, .nil ⟨_, _, rfl, ?_, ?_, ?_⟩⟩)))))))))) 
      · omega
      · show _ ≤ 2 ^ 24; omega
      have er : (min ((k + 1 : Nat) : Int) (((p.length - 1 : Nat) : Int) + 1) - 1).toNat = min (k + 1 - 1) (p.length - 1) := by omega
      rw [er]
      refine ⟨fun j ρ => ∃ z6 : Sl, ρ = [.d (TI p), .d (.int (many : Nat)), .d (.int (p.length - 1 : Nat)), .own ((pwl p (k + 1)).map .int), .d (.int (k + 1 : Nat)), .d (.int (-(if k + 1 ≤ p.length - 1 then ((k + 1 : Nat) : Int) * co p (p.length - 1 - (k + 1)) else 0) - sm j fun j => co p (p.length - 1 - (j + 1)) * co (pwl p (k + 1)) (k + 1 - (j + 1)))), z6], ⟨z6, by show _ = _; simp [sm]⟩, ?_, ?_⟩
      · rintro j d _ hd ⟨z6, rfl⟩
        obtain ⟨hj, rfl⟩ := get_rng hd
        have ej : (1 : Int) + (j : Nat) = ((j + 1 : Nat) : Int) := by omega
        rw [ej]
        refine ⟨_, rfl, .one (.set 5 sc_sums_of_powers.nd (.bin (.var 5 rfl ?_)))⟩
        refine .flat (.bin (.ix (.var 0 rfl (.bin (.var 2 rfl (.var 6 rfl (.sub ?_)))))))
        rw [show ((p.length - 1 : Nat) : Int) - ((j + 1 : Nat) : Int) = ((p.length - 1 - (j + 1) : Nat) : Int) by omega]
        refine .tup (at_nat (by omega)) (.ix (.var 3 rfl (.bin (.var 4 rfl (.var 6 rfl (.sub ?_))))))
        rw [show ((k + 1 : Nat) : Int) - ((j + 1 : Nat) : Int) = ((k + 1 - (j + 1) : Nat) : Int) by omega]
        refine .list (at_nat (by rw [← List.length_map (f := PyData.int), hf]; omega)) (.mul ?_ ⟨rfl, .sub ⟨.d (.int (j + 1 : Nat)), ?_⟩⟩)
        · have h1 := hb (j + 1) (by omega) (by omega)
          have h2 := psum_bd hb hl (k + 1 - (j + 1)) (by omega) (by omega)
          rw [← co_pwl (m := k + 1) (by omega)] at h2
          refine mulok (lt_two h1 (Nat.lt_succ_self _)) (lt_two h2 (Nat.lt_succ_self _)) ?_
          have a1 : b * (j + 1) ≤ b * 65 := Nat.mul_le_mul_left _ (by omega)
          have a2 : (b + 8) * (k + 1 - (j + 1)) ≤ (b + 8) * 65 := Nat.mul_le_mul_left _ (by omega)
          omega
        · show [_, _, _, _, _, Sl.d (PyData.int _), _] = [_, _, _, _, _, Sl.d (PyData.int _), _]
          have e : ∀ x y z : Int, x - y - z = x - (y + z) := fun _ _ _ => by omega
          rw [e]
          rfl
      · rintro _ ⟨z6, rfl⟩
        refine ⟨z6, ?_⟩
        rw [rng_len]
        rfl
    · rintro _ ⟨z6, rfl⟩
      refine .one (.append 3 rfl (by rw [hf]; show _ < 2 ^ 24; omega) (.var 5 rfl ⟨.d (.int (k + 1 : Nat)), .d (.int (pnx p (pwl p (k + 1)) (k + 1))), z6, ?_⟩))
      have : List.map PyData.int (pwl p (k + 1 + 1)) = List.map PyData.int (pwl p (k + 1)) ++ [PyData.int (pnx p (pwl p (k + 1)) (k + 1))] := by
        show List.map _ (pwl p (k + 1) ++ [_]) = _
        rw [List.map_append]
        rfl
      rw [this]
      rfl
  · rintro _ ⟨z4, z5, z6, rfl⟩
    rw [rng_len]
    refine .freeze (.one (.ret (.sliceL (.var 3 rfl (.var 1 rfl ⟨_, rfl, _, rfl, ?_⟩)))))
    show _ = _
    rw [cut_to, ← List.map_take]
    have e1 : ((many : Int) - 1).toNat + 1 = many := by omega
    rw [e1, List.take_of_length_le (by rw [pwl, bl_len]; exact Nat.le_refl _)]
theorem ok_of_sums (sr : base.NoSeer) (ht : P.given.tree = none) (B : Bi mg) (F : Fun K "of_sums" "of_sums" s_of_sums f fd) : FnOk P w K mg base CX0 33 f fd P_of_sums p_of_sums := by
  refine fn_ok F sc_of_sums (fun _ => rfl) fun cdv A outer s H E hr i hp => ?_
  have sx := seer_b (P := P) (w := w) (K := K) (mg := mg) (outer := outer) (H := H) (E := E) sc_of_sums hr (by decide) sr ht
  obtain ⟨L, many⟩ := i
  dsimp only at hp ⊢
  obtain ⟨hl, hm, h0, b, hb, hB⟩ := hp
  refine .cons (.set 1 sc_of_sums.nd (.ix (.var 0 rfl (.int (.list (at_nat (i := 0) (by omega)) ?_)))))
  rw [show L.getD 0 0 = (many : Int) from h0]
  refine .cons (.setF 2 sc_of_sums.nd (.lst (.cons (.int (.nil ⟨by show 1 ≤ 2 ^ 24; decide, ?_⟩)))))
  refine .cons (.for_ PassesOwn.never rfl (pg_name (i := 3) sc_of_sums.nd rfl (.inr rfl)) (gd1 3)
    (.range2 (by rfl) B.range (.cons (.int (.cons (.bin (.var 1 rfl (.int (.add (.nil ⟨1, _, rfl, by omega, by show _ ≤ 2 ^ 24; omega, fun k ρ => ∃ (z3 z4 z5 : Sl), ρ = [.d (LI L), .d (.int (many : Nat)), .own ((eql L (k + 1)).map .int), z3, z4, z5], ⟨.x, .x, .x, rfl⟩, ?_, ?_⟩))))))))))
  · rintro k d _ hd ⟨z3, z4, z5, rfl⟩
    obtain ⟨hk, rfl⟩ := get_rng hd
    refine ⟨_, rfl, ?_⟩
    have ek : (1 : Int) + (k : Nat) = ((k + 1 : Nat) : Int) := by omega
    rw [ek]
    have hf : ((eql L (k + 1)).map PyData.int).length = k + 1 := by rw [List.length_map, eql, bl_len]
    have hk' : k + 1 ≤ many := by omega
    refine .cons (.set 4 sc_of_sums.nd (.flat (.sum rfl (by rfl) B.sum ?_)))
    refine .lcR2 5 rfl sc_of_sums.nd (⟨rfl, by decide +kernel, by decide +kernel, by decide +kernel, by decide +kernel⟩ : BlkOk N_of_sums (defScope s_of_sums) _ [("back", 5)]) (fun _ _ _ _ _ => pg_name (i := 5) sc_of_sums.nd rfl (.inl rfl)) (by rfl) B.range
      (.int (.bin (.var 3 rfl (.int (.add ⟨1, k + 2, rfl, ?_, by omega, by decide, fun j => .int (co (eql L (k + 1)) (k + 1 - (j + 1)) * co L (j + 1)), fun j hj s' H' Cc cl fp => ?_, (List.range (k + 1)).map fun j => co (eql L (k + 1)) (k + 1 - (j + 1)) * co L (j + 1), ?_, rfl, ?_⟩)))))
    · show PyData.int _ = PyData.int _
      congr 1
    · have e1 : ((k + 1 : Nat) : Int) - ((1 + j : Nat) : Int) = ((k + 1 - (j + 1) : Nat) : Int) := by omega
      refine .bin (.ix (.var 2 rfl (.bin (.var 3 rfl (.var 5 rfl (.sub ?_))))))
      rw [e1]
      refine .list (at_nat (by rw [← List.length_map (f := PyData.int), hf]; omega)) (.ix (.var 0 rfl (.var 5 rfl (.list (at_nat (by omega)) (.mul ?_ ?_)))))
      · have h1 := esum_bd hB (k + 1 - (j + 1)) (by omega)
        rw [← co_eql (m := k + 1) (by omega)] at h1
        have h2 := hB (1 + j) (by omega) (by omega)
        refine mulok (lt_two h1 (Nat.lt_succ_self _)) (lt_two h2 (Nat.lt_succ_self _)) ?_
        have a1 : b * (1 + j) ≤ b * 65 := Nat.mul_le_mul_left _ (by omega)
        have a2 : b * (k + 1 - (j + 1)) ≤ b * 65 := Nat.mul_le_mul_left _ (by omega)
        omega
      · rw [Nat.add_comm 1 j]
    · show PyData.list _ = PyData.list _
      rw [List.map_map]
      rfl
    · rw [sm_list]
      refine .one (.append 2 rfl (by rw [hf]; show _ < 2 ^ 24; omega) (.bin (.neg (.var 4 rfl ⟨_, rfl, .var 3 rfl (.fdiv sx (by omega) ⟨.d (.int (k + 1 : Nat)), .d (.int (sm (k + 1) fun j => co (eql L (k + 1)) (k + 1 - (j + 1)) * co L (j + 1))), z5, ?_⟩)⟩))))
      have : List.map PyData.int (eql L (k + 1 + 1)) = List.map PyData.int (eql L (k + 1)) ++ [PyData.int (-(sm (k + 1) fun j => co (eql L (k + 1)) (k + 1 - (j + 1)) * co L (j + 1)) / ((k + 1 : Nat) : Int))] := by
        show List.map _ (eql L (k + 1) ++ [_]) = _
        rw [List.map_append]
        rfl
      rw [this]
      rfl
  · rintro _ ⟨z3, z4, z5, rfl⟩
    rw [rng_len]
    refine .freeze (.one (.ret (.tupRev rfl (by rfl) B.tuple (by rfl) B.rev (.var 2 rfl ⟨_, rfl, ?_⟩))))
    show _ = _
    have e1 : ((many : Int) + 1 - 1).toNat + 1 = many + 1 := by omega
    rw [e1, ← List.map_reverse]
theorem ok_scaled_of (C : FnD P w K mg base 33 "power" p_power) (D : FnD P w K mg base 35 "plain_of" p_plain) (B : Bi mg) (F : Fun K "scaled_of" "scaled_of" s_scaled_of f fd) : FnOk P w K mg base CX0 36 f fd P_scaled_of p_scaled_of := by
  refine fn_ok F sc_scaled_of (fun _ => rfl) fun cdv A outer s H E hr i hp => ?_
  obtain ⟨p, n, d⟩ := i
  dsimp only at hp ⊢
  obtain ⟨hl, a, b, c, ha, hb, hc, ha1, hb1, hc1⟩ := hp
  refine .cons (.set 3 sc_scaled_of.nd (.bin (.len (by rfl) B.len (.var 0 rfl ⟨_, .inr rfl, .int (.sub ?_)⟩))))
  rw [List.length_map]
  refine .one (.ret (.callF D hr (by rfl) (.cons ?_)))
  refine .lcE 4 5 rfl sc_scaled_of.nd (by decide) (⟨rfl, by decide +kernel, by decide +kernel, by decide +kernel, by decide +kernel⟩ : BlkOk N_scaled_of (defScope s_scaled_of) _ [("at", 4), ("number", 5)])
    (fun _ _ _ _ _ => pg_tup rfl (pgs_cons (pg_name (i := 4) sc_scaled_of.nd rfl (.inl rfl)) (pgs_cons (pg_name (i := 5) sc_scaled_of.nd rfl (.inl rfl)) pgs_nil))) ?_
  refine .enumT (by rfl) B.enum (.cons (.var 0 rfl (.nil ⟨_, rfl, ?_, p, rfl, fun at_ x => x * d ^ at_ * n ^ (p.length - 1 - at_), fun i hi s' H' Cc cl fp => ?_, .nil ⟨(true, imap p fun at_ x => x * d ^ at_ * n ^ (p.length - 1 - at_)), rfl, trivial, rfl⟩⟩)))
  · rw [List.length_map]; show _ ≤ 2 ^ 24; omega
  · have b1 : c * i ≤ c * 64 := Nat.mul_le_mul_left _ (by omega)
    have b2 : b * (p.length - 1 - i) ≤ b * 64 := Nat.mul_le_mul_left _ (by omega)
    refine .bin (.bin (.var 5 rfl (.callF C (hr.mono (by decide)) (by rfl) (.cons (.var 2 rfl (.cons (.var 4 rfl (.nil ⟨(d, i), rfl, ⟨c, hc, by show c * i ≤ _; omega⟩, .mul ?_ ?_⟩))))))))
    · exact mulok (ha.co i) (pow_lt hc i) (by omega)
    refine .callF C (hr.mono (by decide)) (by rfl) (.cons (.var 1 rfl (.cons (.bin (.var 3 rfl (.var 4 rfl (.sub (.nil ⟨(n, p.length - 1 - i), ?_, ⟨b, hb, by show b * (p.length - 1 - i) ≤ _; omega⟩, .mul ?_ rfl⟩))))))))
    · show [PyData.int _, PyData.int _] = [PyData.int _, PyData.int _]
      rw [show (p.length : Int) - 1 - (i : Int) = ((p.length - 1 - i : Nat) : Int) by omega]
    · refine mulok (a := a + (c * i + 1)) ?_ (pow_lt hb _) (by show _ + (b * (p.length - 1 - i) + 1) ≤ _; omega)
      rw [Int.natAbs_mul, Nat.pow_add]
      exact Nat.mul_lt_mul'' (ha.co i) (pow_lt hc i)
end
end K2
end

section
set_option Elab.async false
set_option linter.all false
set_option maxRecDepth 100000
set_option maxHeartbeats 4000000
/-! K2r: more of what the program reckons; bounds. -/
namespace K2
open PD (choose choose_above choose_self)
/-! ### bounds of rows -/
theorem Bd.mono {a b : Nat} {p : List Int} (h : Bd a p) (k : a ≤ b) : Bd b p := fun x hx => Nat.lt_of_lt_of_le (h x hx) (le_two k)
theorem Bd.map_range {a n : Nat} {f : Nat → Int} (h : ∀ i, i < n → (f i).natAbs < 2 ^ a) : Bd a ((List.range n).map f) := fun x hx => by
  obtain ⟨i, hi, rfl⟩ := List.mem_map.mp hx
  exact h i (List.mem_range.mp hi)
theorem Bd.trim {a : Nat} {p : List Int} (h : Bd a p) : Bd a (trim p) := fun x hx => h x (List.mem_of_mem_take hx)
theorem trim_len (p : List Int) : (trim p).length ≤ p.length := by unfold trim; rw [List.length_take]; omega
theorem Bd.padd {a b : Nat} {p q : List Int} (hp : Bd a p) (hq : Bd b q) : Bd (max a b + 1) (padd p q) := by
  refine Bd.trim (Bd.map_range fun i _ => ?_)
  have h1 := Nat.lt_of_lt_of_le (hp.co i) (le_two (Nat.le_max_left a b))
  have h2 := Nat.lt_of_lt_of_le (hq.co i) (le_two (Nat.le_max_right a b))
  rw [Nat.pow_succ]
  omega
theorem padd_len (p q : List Int) : (padd p q).length ≤ max p.length q.length := Nat.le_trans (trim_len _) (by simp)
theorem lt_mul {x y : Int} {a b : Nat} (hx : x.natAbs < 2 ^ a) (hy : y.natAbs < 2 ^ b) : (x * y).natAbs < 2 ^ (a + b) := by
  rw [Int.natAbs_mul, Nat.pow_add]
  exact Nat.mul_lt_mul'' hx hy
theorem Bd.pmult {a b : Nat} {p : List Int} {z : Int} (hp : Bd a p) (hz : z.natAbs < 2 ^ b) : Bd (a + b) (pmult p z) := by
  refine Bd.trim fun x hx => ?_
  obtain ⟨y, hy, rfl⟩ := List.mem_map.mp hx
  exact lt_mul (hp y hy) hz
theorem pmult_len (p : List Int) (z : Int) : (pmult p z).length ≤ p.length := Nat.le_trans (trim_len _) (by simp)
theorem acc_bd {a b : Nat} {p q : List Int} (hp : Bd a p) (hq : Bd b q) {n : Nat} (hn : n ≤ 128) (k : Nat) : (acc p q n k).natAbs < 2 ^ (a + b + 8) := by
  have h : (acc p q n k).natAbs ≤ n * 2 ^ (a + b) := sm_bd fun i _ => by
    split
    · exact Nat.le_of_lt (lt_mul (hp.co i) (hq.co _))
    · exact Nat.zero_le _
  refine Nat.lt_of_le_of_lt h ?_
  rw [Nat.pow_add 2 (a + b) 8, Nat.mul_comm]
  exact Nat.mul_lt_mul_of_pos_left (Nat.lt_of_le_of_lt hn (show 128 < 2 ^ 8 by decide)) (Nat.two_pow_pos _)
theorem Bd.pmul {a b : Nat} {p q : List Int} (hp : Bd a p) (hq : Bd b q) (hn : p.length ≤ 128) : Bd (a + b + 8) (pmul p q) := by
  unfold K2.pmul
  split
  · intro x hx; cases hx
  · exact Bd.map_range fun i _ => acc_bd hp hq hn i
theorem pmul_len (p q : List Int) : (pmul p q).length ≤ p.length + q.length - 1 := by
  unfold pmul
  split
  · exact Nat.zero_le _
  · simp
/-! ### a row at (a + b x) / (c + e x) -/
def tstep (a b c e : Int) (st : List Int × List Int) (x : Int) : List Int × List Int := (padd (pmul st.1 (trim [a, b])) (pmult st.2 x), pmul st.2 (trim [c, e]))
def tst (p : List Int) (a b c e : Int) (k : Nat) : List Int × List Int := (p.reverse.take k).foldl (tstep a b c e) ([], [1])
def turn (p : List Int) (a b c e : Int) : List Int := (tst p a b c e p.length).1
theorem tst_succ {p : List Int} {a b c e : Int} {k : Nat} (h : k < p.length) : tst p a b c e (k + 1) = tstep a b c e (tst p a b c e k) (p.reverse.getD k 0) := by
  unfold tst
  have h' : k < p.reverse.length := by simpa using h
  rw [List.take_succ_eq_append_getElem h', List.foldl_append]
  have : p.reverse.getD k 0 = p.reverse[k] := by rw [List.getD, List.getElem?_eq_getElem h']; rfl
  rw [this]
  rfl
structure TB (k : Nat) (st : List Int × List Int) : Prop where
  b1 : Bd (110 * k + 402) st.1
  b2 : Bd (110 * k + 1) st.2
  l1 : st.1.length ≤ k
  l2 : st.2.length ≤ k + 1
theorem pair_bd {a b : Int} {n : Nat} (ha : a.natAbs < 2 ^ n) (hb : b.natAbs < 2 ^ n) : Bd n [a, b] := fun x hx => by
  rcases List.mem_cons.mp hx with rfl | hx
  · exact ha
  · rcases List.mem_cons.mp hx with rfl | hx
    · exact hb
    · cases hx
theorem TB.next {k : Nat} {st : List Int × List Int} (h : TB k st) (hk : k ≤ 100) {a b c e x : Int} (ha : a.natAbs < 2 ^ 100) (hb : b.natAbs < 2 ^ 100) (hc : c.natAbs < 2 ^ 100) (he : e.natAbs < 2 ^ 100) (hx : x.natAbs < 2 ^ 400) : TB (k + 1) (tstep a b c e st x) where
  b1 := ((h.b1.pmul (pair_bd ha hb).trim (Nat.le_trans h.l1 (by omega))).padd (h.b2.pmult hx)).mono (by omega)
  b2 := (h.b2.pmul (pair_bd hc he).trim (Nat.le_trans h.l2 (by omega))).mono (by omega)
  l1 := by
    have t := trim_len [a, b]
    have t' : [a, b].length = 2 := rfl
    refine Nat.le_trans (padd_len _ _) (Nat.max_le.mpr ⟨Nat.le_trans (pmul_len _ _) ?_, Nat.le_trans (pmult_len _ _) h.l2⟩)
    have := h.l1
    omega
  l2 := by
    have t := trim_len [c, e]
    have t' : [c, e].length = 2 := rfl
    refine Nat.le_trans (pmul_len _ _) ?_
    have := h.l2
    omega
theorem TB.start : TB 0 ([], [1]) where
  b1 := fun x hx => by cases hx
  b2 := fun x hx => by
    rcases List.mem_cons.mp hx with rfl | hx
    · decide
    · cases hx
  l1 := Nat.le_refl _
  l2 := Nat.le_refl _
theorem co_mem {p : List Int} {i : Nat} (h : i < p.length) : co p i ∈ p := by
  have : co p i = p[i] := by simp [co, List.getD, h]
  rw [this]; exact List.getElem_mem h
theorem tst_tb {p : List Int} {a b c e : Int} (hp : Bd 400 p) (hl : p.length ≤ 65) (ha : a.natAbs < 2 ^ 100) (hb : b.natAbs < 2 ^ 100) (hc : c.natAbs < 2 ^ 100) (he : e.natAbs < 2 ^ 100) : ∀ k, k ≤ p.length → TB k (tst p a b c e k) := by
  intro k
  induction k with
  | zero => exact fun _ => .start
  | succ k ih =>
    intro h
    rw [tst_succ (by omega)]
    exact (ih (by omega)).next (by omega) ha hb hc he (hp _ (List.mem_reverse.mp (co_mem (by rw [List.length_reverse]; omega))))
/-! ### every second number -/
def ev (p : List Int) (s : Nat) : List Int := (List.range ((p.length + 1 - s) / 2)).map fun i => co p (s + 2 * i)
def sqr (p : List Int) : List Int := plain (padd (pmul (trim (ev p 0)) (trim (ev p 0))) (pmult (0 :: pmul (trim (ev p 1)) (trim (ev p 1))) (-1)))
theorem ev_bd {a : Nat} {p : List Int} (h : Bd a p) (s : Nat) : Bd a (ev p s) := Bd.map_range fun i _ => h.co _
theorem ev_len (p : List Int) (s : Nat) : (ev p s).length = (p.length + 1 - s) / 2 := by simp [ev]
/-! ### sums of pairs -/
abbrev fst' (p q : List Int) (k : Nat) : Int := psum (mon p) k * lead q ^ k
def sumsL (p q : List Int) (n : Nat) : List Int := (List.range (n + 1)).map fun k => sm (k + 1) fun j => (choose k j : Nat) * fst' p q j * fst' q p (k - j)
def prodL (p q : List Int) (n : Nat) : List Int := (List.range (n + 1)).map fun k => psum (mon p) k * psum (mon q) k
theorem choose_le : ∀ n k : Nat, choose n k ≤ 2 ^ n
  | n, 0 => by rw [show choose n 0 = 1 by cases n <;> rfl]; exact Nat.one_le_two_pow
  | 0, k + 1 => Nat.zero_le _
  | n + 1, k + 1 => by
    show choose n k + choose n (k + 1) ≤ _
    have := choose_le n k
    have := choose_le n (k + 1)
    rw [Nat.pow_succ]
    omega
theorem mon_gb {p : List Int} {b : Nat} (h : Bd b p) (hne : p ≠ []) : GB b (mon p) := by
  intro j h0 hj
  have l0 : 0 < p.length := List.length_pos_iff.mpr hne
  rw [mon_len hne] at hj ⊢
  rw [co_mon (by omega)]
  refine Nat.le_trans (mul_bd (Nat.le_of_lt (h.co _)) (pow_bd (Nat.le_of_lt (h.co _)) _)) (le_two ?_)
  have e : p.length - 2 - (p.length - 1 - j) = j - 1 := by omega
  rw [e]
  obtain ⟨r, rfl⟩ : ∃ r, j = r + 1 := ⟨j - 1, by omega⟩
  rw [Nat.add_sub_cancel, Nat.mul_add]
  omega
theorem psum_mon_bd {p : List Int} (h : Bd 400 p) (hne : p ≠ []) (hl : p.length ≤ 65) {k : Nat} (h0 : 0 < k) (hk : k ≤ 65) : (psum (mon p) k).natAbs ≤ 2 ^ (408 * k) :=
  psum_bd (mon_gb h hne) (by rw [mon_len hne]; exact hl) k h0 hk
theorem psum_mon_bd' {p : List Int} (h : Bd 400 p) (hne : p ≠ []) (hl : p.length ≤ 65) {k : Nat} (hk : k ≤ 65) : (psum (mon p) k).natAbs ≤ 2 ^ (408 * k + 7) := by
  by_cases h0 : k = 0
  · subst h0
    rw [psum_zero, mon_len hne]
    show p.length - 1 ≤ 128
    omega
  · exact Nat.le_trans (psum_mon_bd h hne hl (by omega) hk) (le_two (by omega))
theorem fst_bd {p q : List Int} (hp : Bd 400 p) (hq : Bd 400 q) (hne : p ≠ []) (hl : p.length ≤ 65) {k : Nat} (hk : k ≤ 65) : (fst' p q k).natAbs ≤ 2 ^ (808 * k + 7) := by
  refine Nat.le_trans (mul_bd (psum_mon_bd' hp hne hl hk) (pow_bd (Nat.le_of_lt (hq.co _)) k)) (le_two (by omega))
theorem co_sumsL {p q : List Int} {n k : Nat} (h : k ≤ n) : co (sumsL p q n) k = sm (k + 1) fun j => (choose k j : Nat) * fst' p q j * fst' q p (k - j) := by
  unfold sumsL; rw [co_map, if_pos (by omega)]
theorem co_prodL {p q : List Int} {n k : Nat} (h : k ≤ n) : co (prodL p q n) k = psum (mon p) k * psum (mon q) k := by
  unfold prodL; rw [co_map, if_pos (by omega)]
theorem sums_bd {p q : List Int} (hp : Bd 400 p) (hq : Bd 400 q) (hn1 : p ≠ []) (hn2 : q ≠ []) (hl1 : p.length ≤ 65) (hl2 : q.length ≤ 65) {n k : Nat} (hn : n ≤ 64) (h0 : 0 < k) (hk : k ≤ n) : (co (sumsL p q n) k).natAbs ≤ 2 ^ (840 * k) := by
  rw [co_sumsL hk]
  refine Nat.le_trans (sm_bd (B := 2 ^ (809 * k + 14)) fun j hj => ?_) ?_
  · have c1 : ((choose k j : Nat) : Int).natAbs ≤ 2 ^ k := by simpa using choose_le k j
    refine Nat.le_trans (mul_bd (mul_bd c1 (fst_bd hp hq hn1 hl1 (by omega))) (fst_bd hq hp hn2 hl2 (by omega))) (le_two ?_)
    omega
  · have : k + 1 ≤ 2 ^ 7 := by omega
    refine Nat.le_trans (Nat.mul_le_mul_right _ this) ?_
    rw [← Nat.pow_add]
    exact le_two (by omega)
theorem prods_bd {p q : List Int} (hp : Bd 400 p) (hq : Bd 400 q) (hn1 : p ≠ []) (hn2 : q ≠ []) (hl1 : p.length ≤ 65) (hl2 : q.length ≤ 65) {n k : Nat} (hn : n ≤ 64) (h0 : 0 < k) (hk : k ≤ n) : (co (prodL p q n) k).natAbs ≤ 2 ^ (840 * k) := by
  rw [co_prodL hk]
  exact Nat.le_trans (mul_bd (psum_mon_bd hp hn1 hl1 h0 (by omega)) (psum_mon_bd hq hn2 hl2 h0 (by omega))) (le_two (by omega))
theorem eql_bd {L : List Int} {n : Nat} (h : ∀ k, 0 < k → k ≤ n → (co L k).natAbs ≤ 2 ^ (840 * k)) (hn : n ≤ 64) : Bd 54000 (eql L (n + 1)).reverse := by
  intro x hx
  obtain ⟨i, hi, rfl⟩ := List.getElem_of_mem (List.mem_reverse.mp hx)
  have hl : (eql L (n + 1)).length = n + 1 := by rw [eql, bl_len]
  have e : (eql L (n + 1))[i] = co (eql L (n + 1)) i := by simp [co, List.getD, hi]
  rw [e, co_eql (by omega)]
  exact lt_two (b := 54000) (esum_bd h i (by omega)) (by omega)
end K2
end

section
set_option Elab.async false
set_option linter.all false
set_option maxRecDepth 100000
set_option maxHeartbeats 4000000
/-! K2e: the program's defs that move and pair. -/
namespace K2
open PySem PySem.Spec PyProof.Rows L2 PD

abbrev small100 (i : Int) : Prop := i.natAbs < 2 ^ 100
abbrev p_turned_of : Sp := spP (ι := List Int × Int × Int × Int × Int) (fun i => [TI i.1, .int i.2.1, .int i.2.2.1, .int i.2.2.2.1, .int i.2.2.2.2])
  (fun i => PolOk i.1 ∧ small100 i.2.1 ∧ small100 i.2.2.1 ∧ small100 i.2.2.2.1 ∧ small100 i.2.2.2.2) fun i d => d = TI (turn i.1 i.2.1 i.2.2.1 i.2.2.2.1 i.2.2.2.2)
abbrev p_squared_of : Sp := spP (ι := List Int) (fun p => [TI p]) PolOk fun p d => d = TI (sqr p)
/-- a row that the program takes -/
structure Good (p : List Int) : Prop extends PolOk p where
  last : lead p ≠ 0
abbrev p_is_polynomial : Sp := spP (ι := Bool × List Int) (fun i => [SQ i.1 i.2]) (fun i => Good i.2) fun i d => d = .bool true
abbrev p_checked : Sp := spP (ι := (Bool × List Int) × Int) (fun i => [SQ i.1.1 i.1.2, .int i.2, .bool false]) (fun i => Good i.1.2) fun i d => d = TI i.1.2

theorem filterMap_map {α β : Type} {f : α → Option β} {g : α → β} : ∀ {l : List α}, (∀ m ∈ l, f m = some (g m)) → l.filterMap f = l.map g
  | [], _ => rfl
  | a :: l, h => by
    rw [List.filterMap_cons, h a (List.mem_cons_self ..), List.map_cons, filterMap_map fun m hm => h m (List.mem_cons_of_mem _ hm)]
theorem step_ev (p : List Int) (s : Nat) (hs : s ≤ 1) : stepD (p.map PyData.int) (some (s : Int)) none 2 = (ev p s).map PyData.int := by
  unfold stepD
  have e1 : (Builtin.Slice.sliceAdjust (some (s : Int)) none 2 (p.map PyData.int).length).1 = ((min s p.length : Nat) : Int) := by
    rw [List.length_map]
    unfold Builtin.Slice.sliceAdjust
    simp only []
    rw [if_neg (show ¬ (2 : Int) < 0 by decide), if_neg (show ¬ ((s : Nat) : Int) < 0 by omega)]
    omega
  have e2 : (Builtin.Slice.sliceAdjust (some (s : Int)) none 2 (p.map PyData.int).length).2 = (p.length : Int) := by
    rw [List.length_map]
    rfl
  rw [e1, e2]
  have e3 : Builtin.Slice.slicePlaces ((min s p.length : Nat) : Int) (p.length : Int) 2 = (p.length + 1 - s) / 2 := by
    unfold Builtin.Slice.slicePlaces
    rw [if_pos (show (2 : Int) > 0 by decide)]
    split <;> omega
  rw [e3]
  unfold ev
  rw [List.map_map]
  refine filterMap_map fun m hm => ?_
  have hm := List.mem_range.mp hm
  have e4 : (((min s p.length : Nat) : Int) + (m : Nat) * 2).toNat = s + 2 * m := by omega
  rw [e4, List.getElem?_map]
  have h : s + 2 * m < p.length := by omega
  rw [List.getElem?_eq_getElem h]
  simp [co, List.getD, h]
theorem kit_any {K : PD.Frag} (b : Bool) (ns : List Int) : PySem.W.kitAny K (.type (dty (SQ b ns))) [.type "tuple", .type "list"] = some true := by
  cases b
  · rfl
  · rfl

section
variable {P : Program} {w : World} {K : PD.Frag} {mg : Str → Option Value} {base : Heap} {fd : FuncData} {f : Addr}
theorem ok_turned_of (C1 : FnD P w K mg base 34 "added" p_added) (C2 : FnD P w K mg base 34 "multiple" p_multiple) (C3 : FnD P w K mg base 33 "multiplied" p_multiplied) (C4 : FnD P w K mg base 33 "trimmed" p_trimmed) (B : Bi mg)
    (F : Fun K "turned_of" "turned_of" s_turned_of f fd) : FnOk P w K mg base CX0 35 f fd P_turned_of p_turned_of := by
  refine fn_ok F sc_turned_of (fun _ => rfl) fun cdv A outer s H E hr i hp => ?_
  obtain ⟨p, a, b, c, e⟩ := i
  dsimp only at hp ⊢
  obtain ⟨hP, ha, hb, hc, he⟩ := hp
  have tb := tst_tb hP.bd hP.len ha hb hc he
  refine .cons (.set 5 sc_turned_of.nd (.tup (.nil ⟨by decide, ?_⟩)))
  refine .cons (.set 6 sc_turned_of.nd (.tup (.cons (.int (.nil ⟨by show 1 ≤ 2 ^ 24; decide, ?_⟩)))))
  refine .cons (.for_ PassesOwn.never rfl (pg_name (i := 7) sc_turned_of.nd rfl (.inl rfl)) (gd1 7)
    (.rev (by rfl) B.rev (.var 0 rfl ⟨_, .inr rfl, ?_, fun k ρ => ∃ z7 : Sl, ρ = [.d (TI p), .d (.int a), .d (.int b), .d (.int c), .d (.int e), .d (TI (tst p a b c e k).1), .d (TI (tst p a b c e k).2), z7], ⟨.x, rfl⟩, ?_, ?_⟩)))
  · have := hP.len
    rw [List.length_map]; show _ ≤ 2 ^ 24; omega
  · rintro k d _ hd ⟨z7, rfl⟩
    rw [← List.map_reverse] at hd
    obtain ⟨hk, rfl⟩ := get_ints hd
    rw [List.length_reverse] at hk
    have hl := hP.len
    have t := tb k (by omega)
    have hx : (p.reverse.getD k 0).natAbs < 2 ^ 400 := hP.bd _ (List.mem_reverse.mp (co_mem (by rw [List.length_reverse]; exact hk)))
    have t1 := trim_len [a, b]
    have t2 := trim_len [c, e]
    have t' : ∀ x y : Int, [x, y].length = 2 := fun _ _ => rfl
    rw [t'] at t1 t2
    have l1 := t.l1
    have l2 := t.l2
    have m1 := pmul_len (tst p a b c e k).1 (trim [a, b])
    have m2 := pmult_len (tst p a b c e k).2 (p.reverse.getD k 0)
    refine ⟨_, rfl, .cons (.set 5 sc_turned_of.nd ?_)⟩
    refine .callF C1 (hr.mono (by decide)) (by rfl) (.cons (.callF C3 (hr.mono (by decide)) (by rfl) (.cons (.var 5 rfl (.cons (.callF C4 (hr.mono (by decide)) (by rfl) (.cons (.tup (.cons (.var 1 rfl (.cons (.var 2 rfl (.nil ⟨by show 2 ≤ 2 ^ 24; decide, ?_⟩)))))))))))))
    refine .nil ⟨(false, [a, b]), rfl, trivial, .nil ⟨((tst p a b c e k).1, trim [a, b]), rfl, ⟨⟨_, _, t.b1, (pair_bd ha hb).trim, by omega⟩, by dsimp only; omega, by dsimp only; omega⟩, ?_⟩⟩
    refine .cons (.callF C2 (hr.mono (by decide)) (by rfl) (.cons (.var 6 rfl (.cons (.var 7 rfl (.nil ⟨((tst p a b c e k).2, p.reverse.getD k 0), rfl, ⟨_, _, t.b2, hx, by omega⟩, ?_⟩))))))
    refine .nil ⟨(pmul (tst p a b c e k).1 (trim [a, b]), pmult (tst p a b c e k).2 (p.reverse.getD k 0)), rfl, ⟨by dsimp only; omega, by dsimp only; omega⟩, ?_⟩
    refine .one (.set 6 sc_turned_of.nd ?_)
    refine .callF C3 (hr.mono (by decide)) (by rfl) (.cons (.var 6 rfl (.cons ?_)))
    refine .callF C4 (hr.mono (by decide)) (by rfl) (.cons ?_)
    refine .tup (.cons (.var 3 rfl (.cons (.var 4 rfl (.nil ⟨by show 2 ≤ 2 ^ 24; decide, ?_⟩)))))
    refine .nil ⟨(false, [c, e]), rfl, trivial, .nil ⟨((tst p a b c e k).2, trim [c, e]), rfl, ⟨⟨_, _, t.b2, (pair_bd hc he).trim, by omega⟩, by dsimp only; omega, by dsimp only; omega⟩, ?_⟩⟩
    refine ⟨.d (.int (p.reverse.getD k 0)), ?_⟩
    rw [tst_succ hk]
    rfl
  · rintro _ ⟨z7, rfl⟩
    rw [List.length_reverse, List.length_map]
    exact .one (.ret (.var 5 rfl rfl))
theorem ok_squared_of (C1 : FnD P w K mg base 34 "added" p_added) (C2 : FnD P w K mg base 34 "multiple" p_multiple) (C3 : FnD P w K mg base 33 "multiplied" p_multiplied) (C4 : FnD P w K mg base 33 "trimmed" p_trimmed) (C5 : FnD P w K mg base 35 "plain_of" p_plain) (B : Bi mg)
    (F : Fun K "squared_of" "squared_of" s_squared_of f fd) : FnOk P w K mg base CX0 36 f fd P_squared_of p_squared_of := by
  refine fn_ok F sc_squared_of (fun _ => rfl) fun cdv A outer s H E hr p hP => ?_
  have hl := hP.len
  have go : ∀ s : Nat, s ≤ 1 → (stepD (p.map PyData.int) (some (s : Int)) none 2).length ≤ sizeLine := fun s hs => by
    rw [step_ev p s hs, List.length_map, ev_len]
    show _ ≤ 2 ^ 24
    omega
  have le : ∀ s, s ≤ 1 → (trim (ev p s)).length ≤ 66 := fun s hs => Nat.le_trans (trim_len _) (by rw [ev_len]; omega)
  have be : ∀ s, Bd 400 (trim (ev p s)) := fun s => (ev_bd hP.bd s).trim
  have bm : ∀ s, s ≤ 1 → Bd 808 (pmul (trim (ev p s)) (trim (ev p s))) := fun s hs => (be s).pmul (be s) (Nat.le_trans (le s hs) (by decide))
  have lm : ∀ s, s ≤ 1 → (pmul (trim (ev p s)) (trim (ev p s))).length ≤ 132 := fun s hs => Nat.le_trans (pmul_len _ _) (by have := le s hs; omega)
  refine .cons (.set 1 sc_squared_of.nd (.callF C4 (hr.mono (by decide)) (by rfl) (.cons (.stepT (.var 0 rfl (.int ⟨_, rfl, .int ⟨_, 2, rfl, rfl, by decide, by decide, go 0 (by decide), ?_⟩⟩))))))
  refine .nil ⟨(false, ev p 0), by rw [show ((0 : Int)) = ((0 : Nat) : Int) from rfl, step_ev p 0 (by decide)]; rfl, trivial, ?_⟩
  refine .cons (.set 2 sc_squared_of.nd (.callF C4 (hr.mono (by decide)) (by rfl) (.cons (.stepT (.var 0 rfl (.int ⟨_, rfl, .int ⟨_, 2, rfl, rfl, by decide, by decide, go 1 (by decide), ?_⟩⟩))))))
  refine .nil ⟨(false, ev p 1), by rw [show ((1 : Int)) = ((1 : Nat) : Int) from rfl, step_ev p 1 (by decide)]; rfl, trivial, ?_⟩
  have l0 := le 0 (by decide)
  have l1 := le 1 (by decide)
  have m0 := lm 0 (by decide)
  have m1 := lm 1 (by decide)
  refine .one (.ret (.callF C5 (hr.mono (by decide)) (by rfl) (.cons ?_)))
  refine .callF C1 (hr.mono (by decide)) (by rfl) (.cons ?_)
  refine .callF C3 (hr.mono (by decide)) (by rfl) (.cons (.var 1 rfl (.cons (.var 1 rfl (.nil ?_)))))
  refine ⟨(trim (ev p 0), trim (ev p 0)), rfl, ⟨⟨_, _, be 0, be 0, by decide⟩, by dsimp only; omega, by dsimp only; omega⟩, ?_⟩
  refine .cons (.callF C2 (hr.mono (by decide)) (by rfl) (.cons ?_))
  refine .bin (.tup (.cons (.int (.nil ⟨by show 1 ≤ 2 ^ 24; decide, ?_⟩))))
  refine .callF C3 (hr.mono (by decide)) (by rfl) (.cons (.var 2 rfl (.cons (.var 2 rfl (.nil ?_)))))
  refine ⟨(trim (ev p 1), trim (ev p 1)), rfl, ⟨⟨_, _, be 1, be 1, by decide⟩, by dsimp only; omega, by dsimp only; omega⟩, ?_⟩
  refine .catT ?_ (.cons (.neg (.int ⟨1, rfl, .nil ⟨(0 :: pmul (trim (ev p 1)) (trim (ev p 1)), -1), rfl, ⟨808, 1, ?_, (show (-1 : Int).natAbs < 2 ^ 1 by decide), by decide⟩, ?_⟩⟩)))
  · rw [List.length_map]
    show 1 + (pmul (trim (ev p 1)) (trim (ev p 1))).length ≤ 2 ^ 24
    omega
  · intro x hx
    rcases List.mem_cons.mp hx with rfl | hx
    · decide
    · exact bm 1 (by decide) x hx
  have m2 := pmult_len (0 :: pmul (trim (ev p 1)) (trim (ev p 1))) (-1)
  rw [List.length_cons] at m2
  refine .nil ⟨(pmul (trim (ev p 0)) (trim (ev p 0)), pmult (0 :: pmul (trim (ev p 1)) (trim (ev p 1))) (-1)), rfl, ⟨by dsimp only; omega, by dsimp only; omega⟩, ?_⟩
  exact .nil ⟨(false, _), rfl, trivial, rfl⟩
end
end K2
end

section
set_option Elab.async false
set_option linter.all false
set_option maxRecDepth 100000
set_option maxHeartbeats 4000000
set_option exponentiation.threshold 100000
/-! K2f: the program's own words on polynomials. -/
namespace K2
open PySem PySem.Spec PyProof.Rows L2 PD

/-- a pair (n, d) as tuple or list -/
abbrev shiftp (p : List Int) (t0 t1 : Int) : List Int := plain (turn p (-t0) t1 t1 0)
abbrev p_shifted : Sp := spP (ι := (Bool × List Int) × Bool × Int × Int) (fun i => [SQ i.1.1 i.1.2, SQ i.2.1 [i.2.2.1, i.2.2.2]]) (fun i => Good i.1.2 ∧ small100 i.2.2.1 ∧ small100 i.2.2.2) fun i d => d = TI (shiftp i.1.2 i.2.2.1 i.2.2.2)
abbrev p_scaled : Sp := spP (ι := (Bool × List Int) × Bool × Int × Int) (fun i => [SQ i.1.1 i.1.2, SQ i.2.1 [i.2.2.1, i.2.2.2]]) (fun i => Good i.1.2 ∧ small100 i.2.2.1 ∧ small100 i.2.2.2) fun i d => d = TI (scale i.1.2 i.2.2.1 i.2.2.2)
abbrev p_squared : Sp := spP (ι := Bool × List Int) (fun i => [SQ i.1 i.2]) (fun i => Good i.2) fun i d => d = TI (sqr i.2)
abbrev deg2 (p q : List Int) : Nat := (p.length - 1) * (q.length - 1)
abbrev p_whole_pair : Sp := spP (ι := List Int × List Int) (fun i => [TI i.1, TI i.2]) (fun i => PolOk i.1 ∧ PolOk i.2) fun i d => d = .tuple [.int (lead i.1), TI (mon i.1), .int (lead i.2), TI (mon i.2), .int (deg2 i.1 i.2 : Nat)]
abbrev sumsP (p q : List Int) : List Int := scale (eql (sumsL p q (deg2 p q)) (deg2 p q + 1)).reverse 1 (lead p * lead q)
abbrev prodP (p q : List Int) : List Int := scale (eql (prodL p q (deg2 p q)) (deg2 p q + 1)).reverse 1 (lead p * lead q)
abbrev p_sums_of : Sp := spP (ι := (Bool × List Int) × Bool × List Int) (fun i => [SQ i.1.1 i.1.2, SQ i.2.1 i.2.2]) (fun i => Good i.1.2 ∧ Good i.2.2 ∧ deg2 i.1.2 i.2.2 ≤ 64) fun i d => d = TI (sumsP i.1.2 i.2.2)
abbrev p_products_of : Sp := spP (ι := (Bool × List Int) × Bool × List Int) (fun i => [SQ i.1.1 i.1.2, SQ i.2.1 i.2.2]) (fun i => Good i.1.2 ∧ Good i.2.2 ∧ deg2 i.1.2 i.2.2 ≤ 64) fun i d => d = TI (prodP i.1.2 i.2.2)
theorem ix_sq {X : Cx} {po : Option Addr} {Φ : Dat → Prop} {b : Bool} {ns : List Int} {i : Int} {d : Dat} (e : atI (ns.map PyData.int) i = some d) (k : Φ d) : IxD X po (SQ b ns) (.int i) Φ := by
  cases b
  · exact .tup e k
  · exact .list e k
section
variable {P : Program} {w : World} {K : PD.Frag} {mg : Str → Option Value} {base : Heap} {fd : FuncData} {f : Addr}
theorem ok_is_polynomial (C : FnD P w K mg base 33 "is_number" p_is_number) (B : Bi mg) {t : Tok} (gm : mg "MOST_DEGREE" = some (.int 64 t)) (F : Fun K "is_polynomial" "is_polynomial" s_is_polynomial f fd) : FnOk P w K mg base CX0 34 f fd P_is_polynomial p_is_polynomial := by
  refine fn_ok F sc_is_polynomial (fun _ => rfl) fun cdv A outer s H E hr i hp => ?_
  obtain ⟨sq, p⟩ := i
  dsimp only at hp ⊢
  have hl := hp.len
  refine .cons (.ite (JTw.jt (.or (.not (.val (.isi2 (by rfl) B.isi (by rfl) B.tuple boot_tuple' (by decide) (by decide) (by rfl) B.list boot_list' (by decide) (by decide) (.var 0 rfl ⟨true, kit_any sq p, .mk (no (.or1 ?_))⟩)))))))
  refine .cmp (.len (by rfl) B.len (.var 0 rfl ⟨_, sq_or sq p, .bin (.globI (by rfl) gm (.int (.add (.gt (.mk (ways (fun h => ?_) fun h => .nil ?_))))))⟩))
  · rw [List.length_map] at h
    exact absurd h (by omega)
  have ea : (p.map fun _ => true).all id = true := by simp
  refine .one (.ret (.and (.all rfl (by rfl) B.all (.lcm rfl sc_is_polynomial.nd (⟨rfl, by decide +kernel, by decide +kernel, by decide +kernel, by decide +kernel⟩ : BlkOk N_is_polynomial (defScope s_is_polynomial) _ [("part", 1)]) (fun _ _ _ _ _ => pg_name (i := 1) sc_is_polynomial.nd rfl (.inl rfl)) (gd1 1)
    (.seq (.var 0 rfl ⟨p.map .int, sq_or sq p, (p.map fun _ => true).map .bool, by simp, fun i d r h1 h2 => ?_, p.map fun _ => true, rfl, ?_⟩))))))
  · obtain ⟨hi, rfl⟩ := get_ints h1
    obtain ⟨b, hb, rfl⟩ := get_map h2
    obtain ⟨_, _, rfl⟩ := get_map hb
    exact ⟨_, rfl, fun s' H' Cc cl fp => .call C hr (by rfl) (.cons (.var 1 rfl (.nil ⟨_, rfl, trivial, fun d hd => hd⟩)))⟩
  · rw [ea]
    refine .mk (yes (.one (.or (.cmp (.len (by rfl) B.len (.var 0 rfl ⟨_, sq_or sq p, .int (.eqI (.mk (ways (fun h => ?_) fun h => ?_)))⟩))))))
    · rfl
    · refine .one (.cmp (.ix (.var 0 rfl (.neg (.int ⟨1, rfl, ix_sq (at_last hp.ne) (.int (.neI ?_))⟩)))))
      show PyData.bool (!decide (lead p = 0)) = PyData.bool true
      rw [decide_eq_false hp.last]
      rfl
theorem ok_checked (C : FnD P w K mg base 34 "is_polynomial" p_is_polynomial) (B : Bi mg) (F : Fun K "checked" "checked" s_checked f fd) : FnOk P w K mg base CX0 35 f fd P_checked p_checked := by
  refine fn_ok F sc_checked (fun _ => rfl) fun cdv A outer s H E hr i hp => ?_
  obtain ⟨⟨sq, p⟩, z⟩ := i
  dsimp only at hp ⊢
  refine .cons (.ite (JTw.jt (.or (.not (.val (.call C hr (by rfl) (.cons (.var 0 rfl (.nil ⟨(sq, p), rfl, hp, fun d hd => ?_⟩)))))))))
  subst hd
  refine .mk (no (.or1 (JTw.jt (.and (.cmp (.len (by rfl) B.len (.var 0 rfl ⟨_, sq_or sq p, .int (.eqI (.mk (ways (fun h => ?_) fun h => no (.nil ?_))))⟩)))))))
  · rw [List.length_map] at h
    exact absurd (List.length_eq_zero_iff.mp (by omega)) hp.ne
  · exact .one (.ret (.tupOf (by rfl) B.tuple (.var 0 rfl ⟨_, sq_or sq p, rfl⟩)))
theorem ok_shifted (C1 : FnD P w K mg base 35 "checked" p_checked) (C2 : FnD P w K mg base 35 "turned_of" p_turned_of) (C3 : FnD P w K mg base 35 "plain_of" p_plain) (F : Fun K "shifted" "shifted" s_shifted f fd) : FnOk P w K mg base CX0 36 f fd P_shifted p_shifted := by
  refine fn_ok F sc_shifted (fun _ => rfl) fun cdv A outer s H E hr i hp => ?_
  obtain ⟨⟨sq, p⟩, sq2, t0, t1⟩ := i
  dsimp only at hp ⊢
  obtain ⟨hP, h0, h1⟩ := hp
  have i0 : atI ([t0, t1].map PyData.int) 0 = some (.int t0) := rfl
  have i1 : atI ([t0, t1].map PyData.int) 1 = some (.int t1) := rfl
  refine .one (.ret (.callF C3 hr (by rfl) (.cons ?_)))
  refine .callF C2 hr (by rfl) (.cons ?_)
  refine .callF C1 hr (by rfl) (.cons (.var 0 rfl (.cons (.int (.cons (.bl (.nil ⟨((sq, p), 0), rfl, hP, ?_⟩)))))))
  refine .cons (.neg (.ix (.var 1 rfl (.int (ix_sq i0 ⟨_, rfl, ?_⟩)))))
  refine .cons (.ix (.var 1 rfl (.int (ix_sq i1 (.cons (.ix (.var 1 rfl (.int (ix_sq i1 (.cons (.int (.nil ?_))))))))))))
  refine ⟨(p, -t0, t1, t1, 0), rfl, ⟨hP.toPolOk, by show (-t0).natAbs < _; rw [Int.natAbs_neg]; exact h0, h1, h1, (show (0 : Int).natAbs < 2 ^ 100 by decide)⟩, ?_⟩
  exact .nil ⟨(false, _), rfl, trivial, rfl⟩
theorem ok_scaled (C1 : FnD P w K mg base 35 "checked" p_checked) (C2 : FnD P w K mg base 36 "scaled_of" p_scaled_of) (F : Fun K "scaled" "scaled" s_scaled f fd) : FnOk P w K mg base CX0 37 f fd P_scaled p_scaled := by
  refine fn_ok F sc_scaled (fun _ => rfl) fun cdv A outer s H E hr i hp => ?_
  obtain ⟨⟨sq, p⟩, sq2, t0, t1⟩ := i
  dsimp only at hp ⊢
  obtain ⟨hP, h0, h1⟩ := hp
  have i0 : atI ([t0, t1].map PyData.int) 0 = some (.int t0) := rfl
  have i1 : atI ([t0, t1].map PyData.int) 1 = some (.int t1) := rfl
  refine .one (.ret (.callF C2 hr (by rfl) (.cons ?_)))
  refine .callF C1 (hr.mono (by decide)) (by rfl) (.cons (.var 0 rfl (.cons (.int (.cons (.bl (.nil ⟨((sq, p), 0), rfl, hP, ?_⟩)))))))
  refine .cons (.ix (.var 1 rfl (.int (ix_sq i0 (.cons (.ix (.var 1 rfl (.int (ix_sq i1 (.nil ?_)))))))))) 
  exact ⟨(p, t0, t1), rfl, ⟨hP.len, 400, 100, 100, hP.bd, h0, h1, by decide, by decide, by decide⟩, rfl⟩
theorem ok_squared (C1 : FnD P w K mg base 35 "checked" p_checked) (C2 : FnD P w K mg base 36 "squared_of" p_squared_of) (F : Fun K "squared" "squared" s_squared f fd) : FnOk P w K mg base CX0 37 f fd P_squared p_squared := by
  refine fn_ok F sc_squared (fun _ => rfl) fun cdv A outer s H E hr i hp => ?_
  obtain ⟨sq, p⟩ := i
  dsimp only at hp ⊢
  refine .one (.ret (.callF C2 hr (by rfl) (.cons ?_)))
  refine .callF C1 (hr.mono (by decide)) (by rfl) (.cons (.var 0 rfl (.cons (.int (.cons (.bl (.nil ⟨((sq, p), 0), rfl, hp, ?_⟩)))))))
  exact .nil ⟨p, rfl, hp.toPolOk, rfl⟩
theorem ok_whole_pair (C : FnD P w K mg base 34 "monic" p_monic) (B : Bi mg) (F : Fun K "whole_pair" "whole_pair" s_whole_pair f fd) : FnOk P w K mg base CX0 35 f fd P_whole_pair p_whole_pair := by
  refine fn_ok F sc_whole_pair (fun _ => rfl) fun cdv A outer s H E hr i hp => ?_
  obtain ⟨p, q⟩ := i
  dsimp only at hp ⊢
  obtain ⟨hP, hQ⟩ := hp
  have l0 : 0 < p.length := List.length_pos_iff.mpr hP.ne
  have l1 : 0 < q.length := List.length_pos_iff.mpr hQ.ne
  have k0 := hP.len
  have k1 := hQ.len
  refine .cons (.asg (pg_tup rfl (pgs_cons (pg_name (i := 2) sc_whole_pair.nd rfl (.inl rfl)) (pgs_cons (pg_name (i := 3) sc_whole_pair.nd rfl (.inl rfl)) pgs_nil))) (gd2 (by decide)) (.callF C hr (by rfl) (.cons (.var 0 rfl (.nil ⟨p, rfl, hP, _, ⟨_, _, rfl, rfl⟩, ?_⟩)))))
  refine .cons (.asg (pg_tup rfl (pgs_cons (pg_name (i := 4) sc_whole_pair.nd rfl (.inl rfl)) (pgs_cons (pg_name (i := 5) sc_whole_pair.nd rfl (.inl rfl)) pgs_nil))) (gd2 (by decide)) (.callF C hr (by rfl) (.cons (.var 1 rfl (.nil ⟨q, rfl, hQ, _, ⟨_, _, rfl, rfl⟩, ?_⟩)))))
  refine .cons (.set 6 sc_whole_pair.nd (.bin (.bin (.len (by rfl) B.len (.var 0 rfl ⟨_, .inr rfl, .int (.sub (.bin (.len (by rfl) B.len (.var 1 rfl ⟨_, .inr rfl, .int (.sub (.mul (mulokL ?_) ?_))⟩))))⟩)))))
  · rw [List.length_map]; omega
  rw [show (((p.map PyData.int).length : Int) - 1) * (((q.map PyData.int).length : Int) - 1) = ((deg2 p q : Nat) : Int) by
    rw [List.length_map, List.length_map, show (p.length : Int) - 1 = ((p.length - 1 : Nat) : Int) by omega, show (q.length : Int) - 1 = ((q.length - 1 : Nat) : Int) by omega, ← Int.natCast_mul]]
  exact .one (.ret (.tup (.cons (.var 2 rfl (.cons (.var 3 rfl (.cons (.var 4 rfl (.cons (.var 5 rfl (.cons (.var 6 rfl (.nil ⟨by show 5 ≤ 2 ^ 24; decide, rfl⟩)))))))))))))
end
end K2
end

section
set_option Elab.async false
set_option linter.all false
set_option maxRecDepth 100000
set_option maxHeartbeats 4000000
set_option exponentiation.threshold 100000
/-! K2g: sums_of and products_of. -/
namespace K2
open PySem PySem.Spec PyProof.Rows L2 PD
theorem mon_ne {p : List Int} (h : p ≠ []) : mon p ≠ [] := fun z => by have := mon_len h; rw [z] at this; exact h (List.length_eq_zero_iff.mp this.symm)
theorem deg_zero_sums {p q : List Int} (hp : p ≠ []) (hq : q ≠ []) : co (sumsL p q (deg2 p q)) 0 = (deg2 p q : Nat) := by
  rw [co_sumsL (Nat.zero_le _)]
  show 0 + (choose 0 0 : Nat) * (psum (mon p) 0 * lead q ^ 0) * (psum (mon q) 0 * lead p ^ 0) = _
  rw [psum_zero, psum_zero, mon_len hp, mon_len hq, show choose 0 0 = 1 from rfl, Int.pow_zero, Int.pow_zero]
  simp [deg2]
theorem deg_zero_prod {p q : List Int} (hp : p ≠ []) (hq : q ≠ []) : co (prodL p q (deg2 p q)) 0 = (deg2 p q : Nat) := by
  rw [co_prodL (Nat.zero_le _), psum_zero, psum_zero, mon_len hp, mon_len hq]
  simp [deg2]
section
variable {P : Program} {w : World} {K : PD.Frag} {mg : Str → Option Value} {base : Heap} {fd : FuncData} {f : Addr}
theorem ok_products_of (C1 : FnD P w K mg base 35 "checked" p_checked) (C2 : FnD P w K mg base 35 "whole_pair" p_whole_pair) (C3 : FnD P w K mg base 33 "sums_of_powers" p_sums_of_powers) (C4 : FnD P w K mg base 33 "of_sums" p_of_sums) (C5 : FnD P w K mg base 36 "scaled_of" p_scaled_of) (B : Bi mg)
    (F : Fun K "products_of" "products_of" s_products_of f fd) : FnOk P w K mg base CX0 37 f fd P_products_of p_products_of := by
  refine fn_ok F sc_products_of (fun _ => rfl) fun cdv A outer s H E hr i hp => ?_
  obtain ⟨⟨sp, p⟩, sq, q⟩ := i
  dsimp only at hp ⊢
  obtain ⟨hP, hQ, hn⟩ := hp
  have k0 := hP.len
  have k1 := hQ.len
  have n64 : deg2 p q ≤ 64 := hn
  have em : ((deg2 p q : Nat) : Int) + 1 = ((deg2 p q + 1 : Nat) : Int) := by omega
  have lp : ∀ r : List Int, (pwl r (deg2 p q + 1)).length = deg2 p q + 1 := fun r => by rw [pwl, bl_len]
  refine .cons (.asg (pg_tup rfl (pgs_cons (pg_name (i := 2) sc_products_of.nd rfl (.inl rfl)) (pgs_cons (pg_name (i := 3) sc_products_of.nd rfl (.inl rfl)) (pgs_cons (pg_name (i := 4) sc_products_of.nd rfl (.inl rfl)) (pgs_cons (pg_name (i := 5) sc_products_of.nd rfl (.inl rfl)) (pgs_cons (pg_name (i := 6) sc_products_of.nd rfl (.inl rfl)) pgs_nil)))))) (gdN [2, 3, 4, 5, 6] 5 rfl) ?_)
  refine .callF C2 (hr.mono (by decide)) (by rfl) (.cons ?_)
  refine .callF C1 (hr.mono (by decide)) (by rfl) (.cons (.var 0 rfl (.cons (.int (.cons (.bl (.nil ⟨((sp, p), 0), rfl, hP, ?_⟩)))))))
  refine .cons (.callF C1 (hr.mono (by decide)) (by rfl) (.cons (.var 1 rfl (.cons (.int (.cons (.bl (.nil ⟨((sq, q), 1), rfl, hQ, .nil ⟨(p, q), rfl, ⟨hP.toPolOk, hQ.toPolOk⟩, _, ⟨_, rfl, rfl, rfl⟩, ?_⟩⟩))))))))
  refine .cons (.set 7 sc_products_of.nd (.callF C3 (hr.mono (by decide)) (by rfl) (.cons (.var 3 rfl (.cons (.bin (.var 6 rfl (.int (.add (.nil ⟨(mon p, deg2 p q + 1), ?_, ⟨?_, ?_, by omega, by dsimp only; omega, 400, mon_gb hP.bd hP.ne, by decide⟩, ?_⟩))))))))))
  · rw [em]
  · exact mon_ne hP.ne
  · exact (mon_len hP.ne).symm ▸ k0
  refine .cons (.set 8 sc_products_of.nd (.callF C3 (hr.mono (by decide)) (by rfl) (.cons (.var 5 rfl (.cons (.bin (.var 6 rfl (.int (.add (.nil ⟨(mon q, deg2 p q + 1), ?_, ⟨?_, ?_, by omega, by dsimp only; omega, 400, mon_gb hQ.bd hQ.ne, by decide⟩, ?_⟩))))))))))
  · rw [em]
  · exact mon_ne hQ.ne
  · exact (mon_len hQ.ne).symm ▸ k1
  refine .one (.ret (.callF C5 (hr.mono (by decide)) (by rfl) (.cons ?_)))
  refine .callF C4 (hr.mono (by decide)) (by rfl) (.cons ?_)
  refine .lcR 9 rfl sc_products_of.nd (⟨rfl, by decide +kernel, by decide +kernel, by decide +kernel, by decide +kernel⟩ : BlkOk N_products_of (defScope s_products_of) _ [("at", 9)]) (fun _ _ _ _ _ => pg_name (i := 9) sc_products_of.nd rfl (.inl rfl)) (by rfl) B.range
    (.bin (.var 6 rfl (.int (.add ⟨deg2 p q + 1, ?_, by omega, fun k => .int (psum (mon p) k * psum (mon q) k), fun k hk s' H' Cc cl fp => ?_, .nil ⟨(prodL p q (deg2 p q), deg2 p q), ?_, ⟨?_, hn, deg_zero_prod hP.ne hQ.ne, 840, by decide, fun k h0 hk => prods_bd hP.bd hQ.bd hP.ne hQ.ne k0 k1 hn h0 hk⟩, ?_⟩⟩))))
  · rw [em]
  · refine .bin (.ix (.var 7 rfl (.var 9 rfl (.list (at_nat (by rw [lp]; exact hk)) (.ix (.var 8 rfl (.var 9 rfl (.list (at_nat (by rw [lp]; exact hk)) ?_))))))))
    have e1 : (pwl (mon p) (deg2 p q + 1)).getD k 0 = psum (mon p) k := co_pwl hk
    have e2 : (pwl (mon q) (deg2 p q + 1)).getD k 0 = psum (mon q) k := co_pwl hk
    dsimp only at e1 e2 ⊢
    rw [e1, e2]
    refine .mul (mulok (lt_two (psum_mon_bd' hP.bd hP.ne k0 (by omega)) (Nat.lt_succ_self _)) (lt_two (psum_mon_bd' hQ.bd hQ.ne k1 (by omega)) (Nat.lt_succ_self _)) (by omega)) rfl
  · show [PyData.list _] = [PyData.list _]
    unfold prodL
    rw [List.map_map]
    rfl
  · show (prodL p q (deg2 p q)).length = _
    simp [prodL]
  · have be := eql_bd (L := prodL p q (deg2 p q)) (fun k h0 hk => prods_bd hP.bd hQ.bd hP.ne hQ.ne k0 k1 hn h0 hk) hn
    refine .cons (.int (.cons (.bin (.var 2 rfl (.var 4 rfl (.mul (mulok (hP.bd.co _) (hQ.bd.co _) (by decide)) (.nil ⟨((eql (prodL p q (deg2 p q)) (deg2 p q + 1)).reverse, 1, lead p * lead q), rfl, ⟨?_, 54000, 1, 800, be, (show (1 : Int).natAbs < 2 ^ 1 by decide), lt_mul (hP.bd.co _) (hQ.bd.co _), by decide, by decide, by decide⟩, rfl⟩)))))))
    show (eql _ _).reverse.length ≤ 65
    rw [List.length_reverse, eql, bl_len]
    omega
theorem ok_sums_of (C1 : FnD P w K mg base 35 "checked" p_checked) (C2 : FnD P w K mg base 35 "whole_pair" p_whole_pair) (C3 : FnD P w K mg base 33 "sums_of_powers" p_sums_of_powers) (C4 : FnD P w K mg base 33 "of_sums" p_of_sums) (C5 : FnD P w K mg base 36 "scaled_of" p_scaled_of) (C6 : FnD P w K mg base 33 "power" p_power) (B : Bi mg) (gc : mg "comb" = some (.builtin "math.comb"))
    (F : Fun K "sums_of" "sums_of" s_sums_of f fd) : FnOk P w K mg base CX0 37 f fd P_sums_of p_sums_of := by
  refine fn_ok F sc_sums_of (fun _ => rfl) fun cdv A outer s H E hr i hp => ?_
  obtain ⟨⟨sp, p⟩, sq, q⟩ := i
  dsimp only at hp ⊢
  obtain ⟨hP, hQ, hn⟩ := hp
  have k0 := hP.len
  have k1 := hQ.len
  have n64 : deg2 p q ≤ 64 := hn
  have em : ((deg2 p q : Nat) : Int) + 1 = ((deg2 p q + 1 : Nat) : Int) := by omega
  have lp : ∀ r : List Int, (pwl r (deg2 p q + 1)).length = deg2 p q + 1 := fun r => by rw [pwl, bl_len]
  refine .cons (.asg (pg_tup rfl (pgs_cons (pg_name (i := 2) sc_sums_of.nd rfl (.inr rfl)) (pgs_cons (pg_name (i := 3) sc_sums_of.nd rfl (.inl rfl)) (pgs_cons (pg_name (i := 4) sc_sums_of.nd rfl (.inr rfl)) (pgs_cons (pg_name (i := 5) sc_sums_of.nd rfl (.inl rfl)) (pgs_cons (pg_name (i := 6) sc_sums_of.nd rfl (.inl rfl)) pgs_nil)))))) (gdN [2, 3, 4, 5, 6] 5 rfl) ?_)
  refine .callF C2 (hr.mono (by decide)) (by rfl) (.cons ?_)
  refine .callF C1 (hr.mono (by decide)) (by rfl) (.cons (.var 0 rfl (.cons (.int (.cons (.bl (.nil ⟨((sp, p), 0), rfl, hP, ?_⟩)))))))
  refine .cons (.callF C1 (hr.mono (by decide)) (by rfl) (.cons (.var 1 rfl (.cons (.int (.cons (.bl (.nil ⟨((sq, q), 1), rfl, hQ, .nil ⟨(p, q), rfl, ⟨hP.toPolOk, hQ.toPolOk⟩, _, ⟨_, rfl, rfl, rfl⟩, ?_⟩⟩))))))))
  -- first
  refine .cons (.set 7 sc_sums_of.nd (.lcE 8 9 rfl sc_sums_of.nd (by decide) (⟨rfl, by decide +kernel, by decide +kernel, by decide +kernel, by decide +kernel⟩ : BlkOk N_sums_of (defScope s_sums_of) _ [("at", 8), ("number", 9)]) (fun _ _ _ _ _ => pg_tup rfl (pgs_cons (pg_name (i := 8) sc_sums_of.nd rfl (.inl rfl)) (pgs_cons (pg_name (i := 9) sc_sums_of.nd rfl (.inl rfl)) pgs_nil))) (.enumL (by rfl) B.enum (.cons ?_))))
  refine .callF C3 (hr.mono (by decide)) (by rfl) (.cons (.var 3 rfl (.cons (.bin (.var 6 rfl (.int (.add (.nil ⟨(mon p, deg2 p q + 1), ?_, ⟨mon_ne hP.ne, ?_, by omega, by dsimp only; omega, 400, mon_gb hP.bd hP.ne, by decide⟩, .nil ⟨_, rfl, ?_, pwl (mon p) (deg2 p q + 1), rfl, fun at_ x => x * lead q ^ at_, fun k hk s' H' Cc cl fp => ?_, ?_⟩⟩))))))))
  · rw [em]
  · exact (mon_len hP.ne).symm ▸ k0
  · rw [List.length_map, lp]
    show _ ≤ 2 ^ 24
    omega
  · rw [lp] at hk
    have e1 : (pwl (mon p) (deg2 p q + 1)).getD k 0 = psum (mon p) k := co_pwl hk
    rw [e1]
    refine .bin (.var 9 rfl (.callF C6 (hr.mono (by decide)) (by rfl) (.cons (.var 4 rfl (.cons (.var 8 rfl (.nil ⟨(lead q, k), rfl, ⟨400, hQ.bd.co _, by dsimp only; omega⟩, .mul ?_ rfl⟩)))))))
    exact mulok (lt_two (psum_mon_bd' hP.bd hP.ne k0 (by omega)) (Nat.lt_succ_self _)) (pow_lt (hQ.bd.co _) _) (by show _ + (400 * k + 1) ≤ _; omega)
  -- second
  refine .cons (.set 10 sc_sums_of.nd (.lcE 8 9 rfl sc_sums_of.nd (by decide) (⟨rfl, by decide +kernel, by decide +kernel, by decide +kernel, by decide +kernel⟩ : BlkOk N_sums_of (defScope s_sums_of) _ [("at", 8), ("number", 9)]) (fun _ _ _ _ _ => pg_tup rfl (pgs_cons (pg_name (i := 8) sc_sums_of.nd rfl (.inl rfl)) (pgs_cons (pg_name (i := 9) sc_sums_of.nd rfl (.inl rfl)) pgs_nil))) (.enumL (by rfl) B.enum (.cons ?_))))
  refine .callF C3 (hr.mono (by decide)) (by rfl) (.cons (.var 5 rfl (.cons (.bin (.var 6 rfl (.int (.add (.nil ⟨(mon q, deg2 p q + 1), ?_, ⟨mon_ne hQ.ne, ?_, by omega, by dsimp only; omega, 400, mon_gb hQ.bd hQ.ne, by decide⟩, .nil ⟨_, rfl, ?_, pwl (mon q) (deg2 p q + 1), rfl, fun at_ x => x * lead p ^ at_, fun k hk s' H' Cc cl fp => ?_, ?_⟩⟩))))))))
  · rw [em]
  · exact (mon_len hQ.ne).symm ▸ k1
  · rw [List.length_map, lp]
    show _ ≤ 2 ^ 24
    omega
  · rw [lp] at hk
    have e1 : (pwl (mon q) (deg2 p q + 1)).getD k 0 = psum (mon q) k := co_pwl hk
    rw [e1]
    refine .bin (.var 9 rfl (.callF C6 (hr.mono (by decide)) (by rfl) (.cons (.var 2 rfl (.cons (.var 8 rfl (.nil ⟨(lead p, k), rfl, ⟨400, hP.bd.co _, by dsimp only; omega⟩, .mul ?_ rfl⟩)))))))
    exact mulok (lt_two (psum_mon_bd' hQ.bd hQ.ne k1 (by omega)) (Nat.lt_succ_self _)) (pow_lt (hP.bd.co _) _) (by show _ + (400 * k + 1) ≤ _; omega)
  have i1 : ∀ k, k ≤ deg2 p q → (imap (pwl (mon p) (deg2 p q + 1)) fun at_ x => x * lead q ^ at_).getD k 0 = fst' p q k := fun k hk => by
    rw [imap_get (by rw [lp]; omega)]
    have e1 : (pwl (mon p) (deg2 p q + 1)).getD k 0 = psum (mon p) k := co_pwl (by omega)
    rw [e1]
  have i2 : ∀ k, k ≤ deg2 p q → (imap (pwl (mon q) (deg2 p q + 1)) fun at_ x => x * lead p ^ at_).getD k 0 = fst' q p k := fun k hk => by
    rw [imap_get (by rw [lp]; omega)]
    have e1 : (pwl (mon q) (deg2 p q + 1)).getD k 0 = psum (mon q) k := co_pwl (by omega)
    rw [e1]
  refine .cons (.setF 11 sc_sums_of.nd (.lst (.nil ⟨by decide, ?_⟩)))
  refine .cons (.for_ PassesOwn.never rfl (pg_name (i := 8) sc_sums_of.nd rfl (.inr rfl)) (gd1 8) (.range1 (by rfl) B.range (.cons (.bin (.var 6 rfl (.int (.add (.nil ⟨_, rfl, by omega, by show (((deg2 p q : Nat) : Int) + 1).toNat ≤ 2 ^ 24; omega, ?_⟩))))))))
  rw [show (((deg2 p q : Nat) : Int) + 1).toNat = deg2 p q + 1 by omega]
  refine ⟨fun k ρ => ∃ z8 z12 : Sl, ρ = [.d (SQ sp p), .d (SQ sq q), .d (.int (lead p)), .d (TI (mon p)), .d (.int (lead q)), .d (TI (mon q)), .d (.int (deg2 p q : Nat)), .d (LI (imap (pwl (mon p) (deg2 p q + 1)) fun at_ x => x * lead q ^ at_)), z8, .x, .d (LI (imap (pwl (mon q) (deg2 p q + 1)) fun at_ x => x * lead p ^ at_)), .own (((sumsL p q (deg2 p q)).take k).map .int), z12], ⟨.x, .x, rfl⟩, ?_, ?_⟩
  · rintro k d _ hd ⟨z8, z12, rfl⟩
    obtain ⟨hk, rfl⟩ := get_rng hd
    rw [show (0 : Int) + ((k : Nat) : Int) = (k : Nat) by omega]
    have ll : (sumsL p q (deg2 p q)).length = deg2 p q + 1 := by simp [sumsL]
    refine ⟨_, rfl, .one (.append 11 rfl ?_ (.sum rfl (by rfl) B.sum ?_))⟩
    · rw [List.length_map, List.length_take]
      show _ < 2 ^ 24
      omega
    refine .lcR 12 rfl sc_sums_of.nd (⟨rfl, by decide +kernel, by decide +kernel, by decide +kernel, by decide +kernel⟩ : BlkOk N_sums_of (defScope s_sums_of) _ [("back", 12)]) (fun _ _ _ _ _ => pg_name (i := 12) sc_sums_of.nd rfl (.inl rfl)) (by rfl) B.range
      (.bin (.var 8 rfl (.int (.add ⟨k + 1, ?_, by omega, fun j => .int ((choose k j : Nat) * fst' p q j * fst' q p (k - j)), fun j hj s' H' Cc cl fp => ?_, (List.range (k + 1)).map fun j => (choose k j : Nat) * fst' p q j * fst' q p (k - j), ?_, ?_⟩))))
    · show PyData.int _ = PyData.int _
      congr 1
    · have c1 : ((choose k j : Nat) : Int).natAbs ≤ 2 ^ k := by simpa using choose_le k j
      have c2 := fst_bd hP.bd hQ.bd hP.ne k0 (k := j) (by omega)
      have c3 := fst_bd hQ.bd hP.bd hQ.ne k1 (k := k - j) (by omega)
      refine .bin (.bin (.comb (by rfl) gc (.var 8 rfl (.var 12 rfl ⟨k, j, rfl, rfl, by omega, by omega, .ix (.var 7 rfl (.var 12 rfl (.list (at_nat (by rw [imap_len, lp]; omega)) ?_)))⟩))))
      rw [i1 j (by omega)]
      refine .mul (mulok (lt_two c1 (Nat.lt_succ_self _)) (lt_two c2 (Nat.lt_succ_self _)) (by omega)) (.ix (.var 10 rfl (.bin (.var 8 rfl (.var 12 rfl (.sub ?_))))))
      rw [show ((k : Nat) : Int) - ((j : Nat) : Int) = ((k - j : Nat) : Int) by omega]
      refine .list (at_nat (by rw [imap_len, lp]; omega)) ?_
      rw [i2 (k - j) (by omega)]
      exact .mul (mulok (lt_two (mul_bd c1 c2) (Nat.lt_succ_self _)) (lt_two c3 (Nat.lt_succ_self _)) (by omega)) rfl
    · show PyData.list _ = PyData.list _
      rw [List.map_map]
      rfl
    · refine ⟨.d (.int (k : Nat)), z12, ?_⟩
      have : List.map PyData.int ((sumsL p q (deg2 p q)).take (k + 1)) = List.map PyData.int ((sumsL p q (deg2 p q)).take k) ++ [PyData.int ((List.range (k + 1)).map fun j => (choose k j : Nat) * fst' p q j * fst' q p (k - j)).sum] := by
        rw [List.take_succ_eq_append_getElem (by rw [ll]; exact hk), List.map_append, sm_list]
        have e : (sumsL p q (deg2 p q))[k]'(by rw [ll]; exact hk) = co (sumsL p q (deg2 p q)) k := by simp [co, List.getD, ll, hk]
        rw [e, co_sumsL (by omega)]
        rfl
      rw [this]
      rfl
  · rintro _ ⟨z8, z12, rfl⟩
    rw [rng_len, List.take_of_length_le (by simp [sumsL])]
    have hB : ∀ k, 0 < k → k ≤ deg2 p q → (co (sumsL p q (deg2 p q)) k).natAbs ≤ 2 ^ (840 * k) := fun k h0 hk => sums_bd hP.bd hQ.bd hP.ne hQ.ne k0 k1 hn h0 hk
    have be := eql_bd (L := sumsL p q (deg2 p q)) hB hn
    refine .freeze (.one (.ret (.callF C5 (hr.mono (by decide)) (by rfl) (.cons ?_))))
    refine .callF C4 (hr.mono (by decide)) (by rfl) (.cons (.var 11 rfl (.nil ⟨(sumsL p q (deg2 p q), deg2 p q), rfl, ⟨by simp [sumsL], hn, deg_zero_sums hP.ne hQ.ne, 840, by decide, hB⟩, ?_⟩)))
    refine .cons (.int (.cons (.bin (.var 2 rfl (.var 4 rfl (.mul (mulok (hP.bd.co _) (hQ.bd.co _) (by decide)) (.nil ⟨((eql (sumsL p q (deg2 p q)) (deg2 p q + 1)).reverse, 1, lead p * lead q), rfl, ⟨?_, 54000, 1, 800, be, (show (1 : Int).natAbs < 2 ^ 1 by decide), lt_mul (hP.bd.co _) (hQ.bd.co _), by decide, by decide, by decide⟩, rfl⟩)))))))
    show (eql _ _).reverse.length ≤ 65
    rw [List.length_reverse, eql, bl_len]
    omega
end
end K2
end

section
set_option Elab.async false
set_option linter.all false
set_option maxRecDepth 100000
set_option maxHeartbeats 4000000
set_option exponentiation.threshold 100000
/-! K2h: the law's draws. -/
namespace K2
open PySem PySem.Spec PyProof.Rows L2 PD
/-- a draw below n -/
abbrev drawn (n : Int) (d : Dat) : Prop := ∃ k : Int, d = .int k ∧ 0 ≤ k ∧ k < n
abbrev p_takeD : Sp := spT (fun v n => 0 < v.d ∧ 0 < n) drawn
abbrev p_takeT : Sp := spT (fun v n => 0 < n) drawn
abbrev p_take : Sp := spQ (ι := Int) (fun n => [.int n]) (fun n => 0 < n) drawn
section
variable {P : Program} {w : World} {K : PD.Frag} {mg : Str → Option Value} {base : Heap} {fd : FuncData} {f : Addr}
theorem Pv.put2 {v : Pv} (h : v.Ok) {z : Int} (hz : 0 ≤ z) : (v.put 2 z).Ok := ⟨h.cells, h.i, hz, h.m0, h.m1⟩
theorem Pv.put1 {v : Pv} (h : v.Ok) {z : Int} (hz : 0 ≤ z) : (v.put 1 z).Ok := ⟨h.cells, hz, h.d, h.m0, h.m1⟩
theorem Pv.put3 {v : Pv} (h : v.Ok) {z : Int} (hz : 0 ≤ z) (h2 : z < 2147483647) : (v.put 3 z).Ok := ⟨h.cells, h.i, h.d, hz, h2⟩
theorem ok_takeD (sr : base.NoSeer) (ht : P.given.tree = none) (B : Bi mg) (F : Fun K "_law_take" "_law_take" s_law_take f fd) : FnOk P w K mg base CX0 33 f fd P_law_take p_takeD := by
  refine fn_okT F sc_law_take rfl fun cdv A outer s H E a v n ok hr hp => ?_
  have sx := seer_b (P := P) (w := w) (K := K) (mg := mg) (outer := outer) (H := H) (E := E) sc_law_take hr (by decide) sr ht
  obtain ⟨h0, hn⟩ := hp
  have d2 : atI [LI v.cells, PyData.int v.i, PyData.int v.d, PyData.int v.m] 2 = some (.int v.d) := rfl
  refine .cons (.ite (.cmp (.ix (.var 0 rfl (.int (.list d2 (.int (.gt (.mk (ways (fun h => ?_) fun h => ?_))))))))))
  · refine .cons (.set 2 sc_law_take.nd (.bin (.toInt (by rfl) B.int (.ix (.var 0 rfl (.int (.list d2 ⟨_, rfl, .var 1 rfl (.mod hn ⟨rfl, ?_⟩)⟩)))))))
    refine .cons (.put 0 2 rfl (by decide) (by decide) (.bin (.ix (.var 0 rfl (.int (.list d2 (.var 1 rfl (.fdiv sx hn ⟨rfl, _, rfl, Pv.put2 ok (Int.ediv_nonneg ok.d (Int.le_of_lt hn)), ?_⟩)))))))) 
    exact .one (.ret (.var 2 rfl ⟨rfl, _, rfl, Int.emod_nonneg _ (by omega), Int.emod_lt_of_pos _ hn⟩))
  · exact absurd h0 h
theorem ok_takeT (G : FnD P w K mg base 33 "_law_take" p_takeD) (sr : base.NoSeer) (ht : P.given.tree = none) (B : Bi mg) (F : Fun K "_law_take" "_law_take" s_law_take f fd) : FnOk P w K mg base CX0 34 f fd P_law_take p_takeT := by
  refine fn_okT F sc_law_take rfl fun cdv A outer s H E a v n ok hr hn => ?_
  have sx := seer_b (P := P) (w := w) (K := K) (mg := mg) (outer := outer) (H := H) (E := E) sc_law_take hr (by decide) sr ht
  have d0 : ∀ v : Pv, atI [LI v.cells, PyData.int v.i, PyData.int v.d, PyData.int v.m] 0 = some (LI v.cells) := fun _ => rfl
  have d1 : ∀ v : Pv, atI [LI v.cells, PyData.int v.i, PyData.int v.d, PyData.int v.m] 1 = some (.int v.i) := fun _ => rfl
  have d2 : ∀ v : Pv, atI [LI v.cells, PyData.int v.i, PyData.int v.d, PyData.int v.m] 2 = some (.int v.d) := fun _ => rfl
  have d3 : ∀ v : Pv, atI [LI v.cells, PyData.int v.i, PyData.int v.d, PyData.int v.m] 3 = some (.int v.m) := fun _ => rfl
  refine .cons (.ite (.cmp (.ix (.var 0 rfl (.int (.list (d2 v) (.int (.gt (.mk (ways (fun h => ?_) fun h => ?_))))))))))
  · refine .cons (.set 2 sc_law_take.nd (.bin (.toInt (by rfl) B.int (.ix (.var 0 rfl (.int (.list (d2 v) ⟨_, rfl, .var 1 rfl (.mod hn ⟨rfl, ?_⟩)⟩)))))))
    refine .cons (.put 0 2 rfl (by decide) (by decide) (.bin (.ix (.var 0 rfl (.int (.list (d2 v) (.var 1 rfl (.fdiv sx hn ⟨rfl, _, rfl, Pv.put2 ok (Int.ediv_nonneg ok.d (Int.le_of_lt hn)), ?_⟩)))))))) 
    exact .one (.ret (.var 2 rfl ⟨rfl, _, rfl, Int.emod_nonneg _ (by omega), Int.emod_lt_of_pos _ hn⟩))
  refine .nil (.cons (.set 3 sc_law_take.nd (.int ⟨rfl, ?_⟩)))
  refine .cut (fun v' ρ' => v' = v ∧ ∃ z : Int, 0 ≤ z ∧ ρ' = [.pool, .d (.int n), .x, .d (.int z), .x]) (.ite (.cmp (.ix (.var 0 rfl (.int (.list (d1 v) (.len (by rfl) B.len (.ix (.var 0 rfl (.int (.list (d0 v) ⟨_, .inl rfl, .lt (.mk (ways (fun h => ?_) fun h => ?_))⟩))))))))))) ?_
  · rw [List.length_map] at h
    have hi := ok.i
    refine .one (.set 3 sc_law_take.nd (.ix (.ix (.var 0 rfl (.int (.list (d0 v) (.ix (.var 0 rfl (.int (.list (d1 v) (.list (at_int hi h) ⟨rfl, rfl, _, ?_, rfl⟩)))))))))))
    exact ok.cells _ (co_mem (by omega))
  · exact .nil ⟨rfl, 0, Int.le_refl _, rfl⟩
  rintro v' _ ⟨hv, z, hz, rfl⟩
  have hv := hv.symm
  subst hv
  refine .cons (.put 0 1 rfl (by decide) (by decide) (.bin (.ix (.var 0 rfl (.int (.list (d1 _) (.int (.add ⟨rfl, _, rfl, Pv.put1 ok (by have := ok.i; omega), ?_⟩))))))))
  have ok1 : (v.put 1 (v.i + 1)).Ok := Pv.put1 ok (by have := ok.i; omega)
  refine .cons (.ite (.cmp (.var 3 rfl (.bin (.int (.int (.pow ⟨by decide, by decide, by decide⟩ (.ge (.mk (ways (fun h => ?_) fun h => .nil ?_))))))))))
  · have hz2 : (10 : Int) ^ 18 ≤ z := h
    have h2 : (10 : Int) ^ 18 = 1000000000000000000 := by decide
    refine .cons (.put 0 2 rfl (by decide) (by decide) (.bin (.var 3 rfl (.int (.fdiv sx (by decide) ⟨rfl, _, rfl, Pv.put2 ok1 (by omega), ?_⟩)))))
    refine .one (.retT 0 1 G hr (by rfl) rfl rfl ⟨?_, hn⟩ fun d hd => hd)
    show 0 < z / 2
    omega
  have ok2 : ∀ z : Int, ((v.put 1 (v.i + 1)).put 3 (z % 2147483647)).Ok := fun z => Pv.put3 ok1 (Int.emod_nonneg _ (by decide)) (Int.emod_lt_of_pos _ (by decide))
  refine .cons (.put 0 3 rfl (by decide) (by decide) ?_)
  refine .bin (.toInt (by rfl) B.int (.bin (.bin (.bin (.ix (.var 0 rfl (.int (.list (d3 _) (.int (.mul (mulokR (by decide)) ?_))))))))))
  refine .bin (.var 3 rfl (.int (.mul (mulokR (by decide)) (.add ?_))))
  refine .bin (.ix (.var 0 rfl (.int (.list (d1 _) (.int (.mul (mulokR (by decide)) (.add ⟨_, rfl, .int (.mod (by decide) ⟨rfl, _, rfl, ok2 _, ?_⟩)⟩)))))))
  refine .cons (.set 4 sc_law_take.nd ?_)
  refine .bin (.toInt (by rfl) B.int (.bin (.bin (.bin (.ix (.var 0 rfl (.int (.list (d3 _) (.ix (.var 0 rfl (.int (.list (d3 _) (.mul (mulokR ⟨?_, ?_⟩) ?_)))))))))))))
  · exact Int.lt_of_lt_of_le (by decide) (ok2 _).m0
  · exact Int.lt_trans (ok2 _).m1 (by decide)
  refine .bin (.ix (.var 0 rfl (.int (.list (d3 _) (.int (.mul (mulokR (by decide)) (.add (.int (.add ⟨_, rfl, .int (.mod (by decide) ⟨rfl, ?_⟩)⟩)))))))))
  refine .one (.ret (.bin (.toInt (by rfl) B.int (.bin (.var 4 rfl (.int (.fdiv sx (by decide) ⟨_, rfl, .var 1 rfl (.mod hn ⟨rfl, _, rfl, Int.emod_nonneg _ (by omega), Int.emod_lt_of_pos _ hn⟩)⟩)))))))
theorem take_Q (G : FnD P w K mg base 34 "_law_take" p_takeT) : FnD P w K mg base 34 "_law_take" p_take := by
  obtain ⟨f, fd, ps, F, r⟩ := G
  exact ⟨f, fd, ps, F.imp fun vs H Q E h => spT_Q (pre := fun _ n => 0 < n) (by
    obtain ⟨a, F, vr, n, e, sm, pl, r, hp, q⟩ := h
    exact ⟨a, F, vr, n, e, sm, pl, r, fun _ _ => hp, q⟩), r⟩
end
end K2
end

section
set_option Elab.async false
set_option linter.all false
set_option maxRecDepth 100000
set_option maxHeartbeats 4000000
set_option exponentiation.threshold 100000
/-! K2s: what the law's small defs reckon. -/
namespace K2
theorem euclid_next {a b n : Nat} (hb : 0 < b) (h : b ≤ a) (h2 : a * b * 2 ^ n < 2 ^ 800000) : b * (a % b) * 2 ^ (n + 1) < 2 ^ 800000 := by
  have h1 : 2 * (a % b) ≤ a := by
    have e := Nat.mod_add_div a b
    have q : 1 ≤ a / b := (Nat.one_le_div_iff hb).mpr h
    have m := Nat.mod_lt a hb
    have : b * 1 ≤ b * (a / b) := Nat.mul_le_mul_left _ q
    omega
  refine Nat.lt_of_le_of_lt ?_ h2
  rw [Nat.pow_succ, Nat.mul_comm (2 ^ n) 2, ← Nat.mul_assoc]
  refine Nat.mul_le_mul_right _ ?_
  rw [Nat.mul_assoc, Nat.mul_comm (a % b) 2, Nat.mul_comm a b]
  exact Nat.mul_le_mul_left _ h1
theorem euclid_first {a b : Nat} (hb : 0 < b) (h : b < 2 ^ 400000) : b * (a % b) * 2 ^ 0 < 2 ^ 800000 := by
  rw [Nat.pow_zero, Nat.mul_one, show (800000 : Nat) = 400000 + 400000 from rfl, Nat.pow_add]
  exact Nat.mul_lt_mul'' h (Nat.lt_trans (Nat.mod_lt a hb) h)
theorem euclid_end {a b : Nat} (h : b ≤ a) (h2 : a * b * 2 ^ 999999 < 2 ^ 800000) : b = 0 := by
  by_cases hb : b = 0
  · exact hb
  · have : 1 * 2 ^ 800000 ≤ a * b * 2 ^ 999999 := Nat.mul_le_mul (Nat.mul_pos (by omega) (by omega)) (le_two (by decide))
    omega
/-- a fraction in lowest terms -/
def low (n d : Int) : Int × Int := (n / (Nat.gcd n.natAbs d.natAbs : Nat), d / (Nat.gcd n.natAbs d.natAbs : Nat))
def fsum (x y : Int × Int) : Int × Int := low (x.1 * y.2 + y.1 * x.2) (x.2 * y.2)
def fmul (x y : Int × Int) : Int × Int := low (x.1 * y.1) (x.2 * y.2)
/-- Horner upon a fraction, k numbers in -/
def hom (p : List Int) (u v : Int) : Nat → Int
  | 0 => 0
  | k + 1 => hom p u v k * u + co p (p.length - 1 - k) * v ^ k
theorem hom_bd {p : List Int} {u v : Int} {b c : Nat} (hp : Bd b p) (hu : u.natAbs < 2 ^ c) (hv : v.natAbs < 2 ^ c) : ∀ k, (hom p u v k).natAbs ≤ 2 ^ (b + (c + 1) * k)
  | 0 => Nat.zero_le _
  | k + 1 => by
    have h1 := mul_bd (hom_bd hp hu hv k) (Nat.le_of_lt hu)
    have h2 := mul_bd (Nat.le_of_lt (hp.co (p.length - 1 - k))) (pow_bd (Nat.le_of_lt hv) k)
    have h3 : 2 ^ (b + c * k) ≤ 2 ^ (b + (c + 1) * k + c) := le_two (by rw [Nat.add_mul]; omega)
    have h4 : 2 ^ (b + (c + 1) * (k + 1)) = 2 ^ (b + (c + 1) * k + c) * 2 := by
      rw [← Nat.pow_succ]
      congr 1
      rw [Nat.mul_succ]
      omega
    rw [h4]
    show (hom p u v k * u + co p (p.length - 1 - k) * v ^ k).natAbs ≤ _
    have := Int.natAbs_add_le (hom p u v k * u) (co p (p.length - 1 - k) * v ^ k)
    omega
def value (p : List Int) (x : Int × Int) : Int := hom p x.1 x.2 p.length
theorem cont_le {ns : List Int} {x : Int} (hx : x ∈ ns) (h : x ≠ 0) : 0 < cont ns ∧ cont ns ≤ x.natAbs := by
  have key : ∀ (l : List Int) (g : Nat), (l.foldl (fun g x => Nat.gcd g x.natAbs) g ∣ g) ∧ ∀ y ∈ l, l.foldl (fun g x => Nat.gcd g x.natAbs) g ∣ y.natAbs := by
    intro l
    induction l with
    | nil => exact fun g => ⟨Nat.dvd_refl _, fun y hy => by cases hy⟩
    | cons a l ih =>
      intro g
      have q := ih (Nat.gcd g a.natAbs)
      refine ⟨Nat.dvd_trans q.1 (Nat.gcd_dvd_left _ _), fun y hy => ?_⟩
      rcases List.mem_cons.mp hy with rfl | hy
      · exact Nat.dvd_trans q.1 (Nat.gcd_dvd_right _ _)
      · exact q.2 y hy
  have d := (key ns 0).2 x hx
  have hx0 : 0 < x.natAbs := by omega
  exact ⟨Nat.pos_of_dvd_of_pos d hx0, Nat.le_of_dvd hx0 d⟩
end K2
end

section
set_option Elab.async false
set_option linter.all false
set_option maxRecDepth 100000
set_option maxHeartbeats 4000000
set_option exponentiation.threshold 100000
/-! K2i: the law's small defs. -/
namespace K2
open PySem PySem.Spec PyProof.Rows L2 PD
abbrev p_pick : Sp := spQ (ι := List Dat) (fun ds => [.list ds]) (fun ds => ds ≠ [] ∧ ds.length ≤ 1000) fun ds d => d ∈ ds
abbrev p_is_integer : Sp := spP (ι := Int) (fun i => [.int i]) (fun _ => True) fun _ d => d = .bool true
abbrev p_below : Sp := spQ (ι := Int) (fun n => [.int n]) (fun n => 0 < n) drawn
abbrev p_divisor : Sp := spP (ι := Int × Int) (fun i => [.int i.1, .int i.2]) (fun i => i.1.natAbs < 2 ^ 400000 ∧ i.2.natAbs < 2 ^ 400000) fun i d => d = .int (Nat.gcd i.1.natAbs i.2.natAbs : Nat)
abbrev pr (x : Int × Int) : Dat := .tuple [.int x.1, .int x.2]
abbrev p_lowest : Sp := spP (ι := Int × Int) (fun i => [.int i.1, .int i.2]) (fun i => 0 < i.2 ∧ i.1.natAbs < 2 ^ 2000 ∧ i.2.natAbs < 2 ^ 2000) fun i d => d = pr (low i.1 i.2)
abbrev p_sum : Sp := spP (ι := (Int × Int) × (Int × Int)) (fun i => [pr i.1, pr i.2]) (fun i => 0 < i.1.2 ∧ 0 < i.2.2 ∧ i.1.1.natAbs < 2 ^ 900 ∧ i.1.2.natAbs < 2 ^ 900 ∧ i.2.1.natAbs < 2 ^ 900 ∧ i.2.2.natAbs < 2 ^ 900) fun i d => d = pr (fsum i.1 i.2)
abbrev p_times : Sp := spP (ι := (Int × Int) × (Int × Int)) (fun i => [pr i.1, pr i.2]) (fun i => 0 < i.1.2 ∧ 0 < i.2.2 ∧ i.1.1.natAbs < 2 ^ 900 ∧ i.1.2.natAbs < 2 ^ 900 ∧ i.2.1.natAbs < 2 ^ 900 ∧ i.2.2.natAbs < 2 ^ 900) fun i d => d = pr (fmul i.1 i.2)
abbrev p_lpower : Sp := spP (ι := Int × Nat) (fun i => [.int i.1, .int i.2]) (fun i => i.2 ≤ 100000 ∧ ∃ n, i.1.natAbs < 2 ^ n ∧ n * (i.2 + 1) ≤ 40000000) fun i d => d = .int (i.1 ^ i.2)
abbrev p_lpower_sums : Sp := spP (ι := List Int × Nat) (fun i => [LI i.1, .int i.2]) (fun i => i.1 ≠ [] ∧ i.1.length ≤ 65 ∧ 0 < i.2 ∧ i.2 ≤ 65 ∧ ∃ b, GB b i.1 ∧ b ≤ 500000) fun i d => d = LI (pwl i.1 i.2)
abbrev p_value : Sp := spP (ι := (Bool × List Int) × (Int × Int)) (fun i => [SQ i.1.1 i.1.2, pr i.2]) (fun i => i.1.2.length ≤ 65 ∧ ∃ b c, Bd b i.1.2 ∧ i.2.1.natAbs < 2 ^ c ∧ i.2.2.natAbs < 2 ^ c ∧ b ≤ 1000000 ∧ c ≤ 10000) fun i d => d = .int (value i.1.2 i.2)
section
variable {P : Program} {w : World} {K : PD.Frag} {mg : Str → Option Value} {base : Heap} {fd : FuncData} {f : Addr}
theorem ok_pick (T : FnD P w K mg base 34 "_law_take" p_take) (B : Bi mg) (F : Fun K "_law_pick" "_law_pick" s_law_pick f fd) : FnOk P w K mg base CX0 35 f fd P_law_pick p_pick := by
  refine fn_okQ F sc_law_pick (fun _ => rfl) fun cdv A outer s H E po hr ds hp => ?_
  obtain ⟨hne, hl⟩ := hp
  have l0 : 0 < ds.length := List.length_pos_iff.mpr hne
  refine .one (.ret (.ix (.var 1 rfl (.callQ 0 T hr (by rfl) rfl (.cons (.len (by rfl) B.len (.var 1 rfl ⟨_, .inl rfl, .nil ⟨_, rfl, by show (0 : Int) < (ds.length : Int); omega, fun d hd => ?_⟩⟩)))))))
  obtain ⟨k, rfl, h0, h1⟩ := hd
  have hk : k.toNat < ds.length := by omega
  have ek : k = ((k.toNat : Nat) : Int) := by omega
  rw [ek]
  exact .list (atI_nat (List.getElem?_eq_getElem hk)) (List.getElem_mem hk)
theorem ok_is_integer (B : Bi mg) (F : Fun K "_law_is_integer" "_law_is_integer" s_law_is_integer f fd) : FnOk P w K mg base CX0 33 f fd P_law_is_integer p_is_integer := by
  refine fn_ok F sc_law_is_integer (fun _ => rfl) fun cdv A outer s H E hr i hp => ?_
  refine .one (.ret (.and (.isi (by rfl) B.isi (by rfl) B.int boot_int' (by decide) (by decide) (.var 0 rfl ⟨true, kit_ii, .mk (iteT ?_)⟩))))
  exact .one (.not (.isi (by rfl) B.isi (by rfl) B.bool boot_bool' (by decide) (by decide) (.var 0 rfl ⟨false, kit_ib, .mk rfl⟩)))
theorem ok_below (T : FnD P w K mg base 34 "_law_take" p_take) (B : Bi mg) (F : Fun K "_law_below" "_law_below" s_law_below f fd) : FnOk P w K mg base CX0 35 f fd P_law_below p_below := by
  refine fn_okQ F sc_law_below (fun _ => rfl) fun cdv A outer s H E po hr n hn => ?_
  refine .cons (.set 2 sc_law_below.nd (.int ?_))
  refine .cons (.for_ PassesOwn.never rfl (pg_name (i := 3) sc_law_below.nd rfl (.inl rfl)) (gd1 3) (.range1 (by rfl) B.range (.cons (.int (.nil ⟨5, rfl, by decide, by decide, fun k ρ => ∃ (z : Int) (z3 : Sl), ρ = [.pool, .d (.int n), .d (.int z), z3], ⟨0, .x, rfl⟩, ?_, ?_⟩)))))
  · rintro k d _ hd ⟨z, z3, rfl⟩
    refine ⟨_, rfl, .one (.set 2 sc_law_below.nd ?_)⟩
    refine .bin (.bin (.var 2 rfl (.bin (.int (.int (.pow ⟨by decide, by decide, by decide⟩ (.mul (mulokR (by decide)) ?_)))))))
    refine .callQ 0 T hr (by rfl) rfl (.cons (.bin (.int (.int (.pow ⟨by decide, by decide, by decide⟩ (.nil ⟨_, rfl, by decide, fun d2 hd2 => ?_⟩))))))
    obtain ⟨j, rfl, _, _⟩ := hd2
    exact .add ⟨_, _, rfl⟩
  · rintro _ ⟨z, z3, rfl⟩
    exact .one (.ret (.bin (.toInt (by rfl) B.int (.var 2 rfl ⟨_, rfl, .var 1 rfl (.mod hn ⟨_, rfl, Int.emod_nonneg _ (by omega), Int.emod_lt_of_pos _ hn⟩)⟩))))
theorem ok_divisor (B : Bi mg) (F : Fun K "_law_divisor" "_law_divisor" s_law_divisor f fd) : FnOk P w K mg base CX0 33 f fd P_law_divisor p_divisor := by
  refine fn_ok F sc_law_divisor (fun _ => rfl) fun cdv A outer s H E hr i hp => ?_
  obtain ⟨x, y⟩ := i
  dsimp only at hp ⊢
  obtain ⟨hx, hy⟩ := hp
  refine .cons (.par 0 1 rfl sc_law_divisor.nd (by decide) (.cons (.abs (by rfl) B.abs (.var 0 rfl ⟨_, rfl, .cons (.abs (by rfl) B.abs (.var 1 rfl ⟨_, rfl, .nil ⟨_, _, rfl, ?_⟩⟩))⟩))))
  have fin : ∀ (ρ' : Env') (a b : Nat) (z : Sl), ρ' = [.d (.int a), .d (.int b), z] → Nat.gcd a b = Nat.gcd x.natAbs y.natAbs → b = 0 → JSs (bX P w K mg base N_law_divisor "_law_divisor" s_law_divisor f cdv A outer s H E) none ((defBody s_law_divisor).drop 2) ρ' { nx := fun _ => PyData.none = .int (Nat.gcd x.natAbs y.natAbs : Nat), rt := fun d => d = .int (Nat.gcd x.natAbs y.natAbs : Nat) } := fun ρ' a b z e1 e2 e3 => by
    subst e1 e3
    rw [Nat.gcd_zero_right] at e2
    refine .one (.ret (.var 0 rfl ?_))
    rw [e2]
  refine .cons (.for_ PassesOwn.never rfl (pg_name (i := 2) sc_law_divisor.nd rfl (.inl rfl)) (gd1 2) (.range1 (by rfl) B.range (.cons (.int (.nil ⟨1000000, rfl, by decide, by decide, fun k ρ => ∃ (a b : Nat) (z : Sl), ρ = [.d (.int a), .d (.int b), z] ∧ Nat.gcd a b = Nat.gcd x.natAbs y.natAbs ∧ ((k = 0 ∧ b < 2 ^ 400000) ∨ (∃ j, k = j + 1 ∧ b ≤ a ∧ a * b * 2 ^ j < 2 ^ 800000)), ⟨x.natAbs, y.natAbs, .x, rfl, rfl, .inl ⟨rfl, hy⟩⟩, ?_, ?_⟩)))))
  · rintro k d _ hd ⟨a, b, z, rfl, hg, hk⟩
    refine ⟨_, rfl, .cons (.ite (.cmp (.var 1 rfl (.int (.eqI (.mk (ways (fun h => .one (.brk ?_)) fun h => .nil (.one ?_))))))))⟩
    · exact fin _ a b _ rfl hg (by omega)
    · have hb : 0 < b := by omega
      refine .par 0 1 rfl sc_law_divisor.nd (by decide) (.cons (.var 1 rfl (.cons (.bin (.toInt (by rfl) B.int (.var 0 rfl ⟨_, rfl, .var 1 rfl (.mod (by omega) (.nil ⟨_, _, rfl, b, a % b, .d d, ?_, ?_, ?_⟩))⟩))))))
      · show [_, _, _] = [_, _, _]
        rw [Int.natCast_emod]
      · rw [← hg, Nat.gcd_comm b, ← Nat.gcd_rec, Nat.gcd_comm]
      · rcases hk with ⟨rfl, h1⟩ | ⟨j, rfl, h1, h2⟩
        · exact .inr ⟨0, rfl, Nat.le_of_lt (Nat.mod_lt a hb), euclid_first hb h1⟩
        · exact .inr ⟨j + 1, rfl, Nat.le_of_lt (Nat.mod_lt a hb), euclid_next hb h1 h2⟩
  · rintro _ ⟨a, b, z, rfl, hg, hk⟩
    rw [rng_len] at hk
    rcases hk with ⟨h1, _⟩ | ⟨j, h0, h1, h2⟩
    · exact absurd h1 (by decide)
    · have ej : j = 999999 := by
        have : (1000000 : Int).toNat = 1000000 := rfl
        omega
      subst ej
      exact fin _ a b _ rfl hg (euclid_end h1 h2)
theorem ok_lowest (D : FnD P w K mg base 33 "_law_divisor" p_divisor) (sr : base.NoSeer) (ht : P.given.tree = none) (B : Bi mg) (F : Fun K "_law_lowest" "_law_lowest" s_law_lowest f fd) : FnOk P w K mg base CX0 34 f fd P_law_lowest p_lowest := by
  refine fn_ok F sc_law_lowest (fun _ => rfl) fun cdv A outer s H E hr i hp => ?_
  have sx := seer_b (P := P) (w := w) (K := K) (mg := mg) (outer := outer) (H := H) (E := E) sc_law_lowest hr (by decide) sr ht
  obtain ⟨n, d⟩ := i
  dsimp only at hp ⊢
  obtain ⟨hd, h1, h2⟩ := hp
  have hg : (0 : Int) < (Nat.gcd n.natAbs d.natAbs : Nat) := by
    have := Nat.gcd_pos_of_pos_right n.natAbs (show 0 < d.natAbs by omega)
    omega
  refine .cons (.set 2 sc_law_lowest.nd (.callF D hr (by rfl) (.cons (.var 0 rfl (.cons (.var 1 rfl (.nil ⟨(n, d), rfl, ⟨Nat.lt_of_lt_of_le h1 (le_two (by decide)), Nat.lt_of_lt_of_le h2 (le_two (by decide))⟩, ?_⟩))))))) 
  refine .one (.ret (.tup (.cons (.toInt (by rfl) B.int (.bin (.var 0 rfl (.var 2 rfl (.fdiv sx hg ⟨_, rfl, ?_⟩))))))))
  exact .cons (.toInt (by rfl) B.int (.bin (.var 1 rfl (.var 2 rfl (.fdiv sx hg ⟨_, rfl, .nil ⟨by show 2 ≤ 2 ^ 24; decide, rfl⟩⟩)))))
theorem ix_pr0 {X : Cx} {po : Option Addr} {Φ : Dat → Prop} {x : Int × Int} (k : Φ (.int x.1)) : IxD X po (pr x) (.int 0) Φ := .tup rfl k
theorem ix_pr1 {X : Cx} {po : Option Addr} {Φ : Dat → Prop} {x : Int × Int} (k : Φ (.int x.2)) : IxD X po (pr x) (.int 1) Φ := .tup rfl k
theorem add_lt {x y : Int} {n : Nat} (hx : x.natAbs < 2 ^ n) (hy : y.natAbs < 2 ^ n) : (x + y).natAbs < 2 ^ (n + 1) := by
  have := Int.natAbs_add_le x y
  rw [Nat.pow_succ]
  omega
theorem ok_sum (L : FnD P w K mg base 34 "_law_lowest" p_lowest) (F : Fun K "_law_sum" "_law_sum" s_law_sum f fd) : FnOk P w K mg base CX0 35 f fd P_law_sum p_sum := by
  refine fn_ok F sc_law_sum (fun _ => rfl) fun cdv A outer s H E hr i hp => ?_
  obtain ⟨x, y⟩ := i
  dsimp only at hp ⊢
  obtain ⟨hx, hy, a1, a2, b1, b2⟩ := hp
  refine .one (.ret (.callF L hr (by rfl) (.cons ?_)))
  refine .bin (.bin (.ix (.var 0 rfl (.int (ix_pr0 (.ix (.var 1 rfl (.int (ix_pr1 (.mul (mulok a1 b2 (by decide)) ?_))))))))))
  refine .bin (.ix (.var 1 rfl (.int (ix_pr0 (.ix (.var 0 rfl (.int (ix_pr1 (.mul (mulok b1 a2 (by decide)) (.add ?_))))))))))
  refine .cons (.bin (.ix (.var 0 rfl (.int (ix_pr1 (.ix (.var 1 rfl (.int (ix_pr1 (.mul (mulok a2 b2 (by decide)) ?_))))))))))
  refine .nil ⟨(x.1 * y.2 + y.1 * x.2, x.2 * y.2), rfl, ⟨Int.mul_pos hx hy, ?_, ?_⟩, rfl⟩
  · exact Nat.lt_of_lt_of_le (add_lt (lt_mul a1 b2) (lt_mul b1 a2)) (le_two (by decide))
  · exact Nat.lt_of_lt_of_le (lt_mul a2 b2) (le_two (by decide))
theorem ok_times (L : FnD P w K mg base 34 "_law_lowest" p_lowest) (F : Fun K "_law_times" "_law_times" s_law_times f fd) : FnOk P w K mg base CX0 35 f fd P_law_times p_times := by
  refine fn_ok F sc_law_times (fun _ => rfl) fun cdv A outer s H E hr i hp => ?_
  obtain ⟨x, y⟩ := i
  dsimp only at hp ⊢
  obtain ⟨hx, hy, a1, a2, b1, b2⟩ := hp
  refine .one (.ret (.callF L hr (by rfl) (.cons ?_)))
  refine .bin (.ix (.var 0 rfl (.int (ix_pr0 (.ix (.var 1 rfl (.int (ix_pr0 (.mul (mulok a1 b1 (by decide)) ?_)))))))))
  refine .cons (.bin (.ix (.var 0 rfl (.int (ix_pr1 (.ix (.var 1 rfl (.int (ix_pr1 (.mul (mulok a2 b2 (by decide)) ?_))))))))))
  refine .nil ⟨(x.1 * y.1, x.2 * y.2), rfl, ⟨Int.mul_pos hx hy, ?_, ?_⟩, rfl⟩
  · exact Nat.lt_of_lt_of_le (lt_mul a1 b1) (le_two (by decide))
  · exact Nat.lt_of_lt_of_le (lt_mul a2 b2) (le_two (by decide))
theorem ok_lpower (B : Bi mg) (F : Fun K "_law_power" "_law_power" s_law_power f fd) : FnOk P w K mg base CX0 33 f fd P_law_power p_lpower := by
  refine fn_ok F sc_law_power (fun _ => rfl) fun cdv A outer s H E hr i hp => ?_
  obtain ⟨b, m⟩ := i
  dsimp only at hp ⊢
  obtain ⟨hm, n, hb, hn⟩ := hp
  refine .cons (.set 2 sc_law_power.nd (.int ?_))
  refine .cons (.for_ PassesOwn.never rfl (pg_name (i := 3) sc_law_power.nd rfl (.inl rfl)) (gd1 3) (.range1 (by rfl) B.range (.cons (.var 1 rfl (.nil ⟨_, rfl, by omega, by show _ ≤ 2 ^ 24; omega, fun k ρ => ∃ z3 : Sl, ρ = [.d (.int b), .d (.int (m : Nat)), .d (.int (b ^ k)), z3], ⟨.x, by rw [Int.pow_zero]; rfl⟩, ?_, ?_⟩)))))
  · rintro k d _ hd ⟨z3, rfl⟩
    obtain ⟨hk, rfl⟩ := get_rng hd
    refine ⟨_, rfl, .one (.set 2 sc_law_power.nd (.bin (.var 2 rfl (.var 0 rfl (.mul (mulok (pow_lt hb k) hb ?_) ⟨.d (.int (0 + (k : Nat))), ?_⟩)))))⟩
    · have : n * (k + 1) ≤ n * (m + 1) := Nat.mul_le_mul_left n (by omega)
      rw [Nat.mul_add] at this
      omega
    · show [_, _, Sl.d (.int _), _] = [_, _, Sl.d (.int _), _]
      rw [Int.pow_succ]
  · rintro _ ⟨z3, rfl⟩
    rw [rng_len]
    exact .one (.ret (.var 2 rfl rfl))
theorem ok_lpower_sums (B : Bi mg) (F : Fun K "_law_power_sums" "_law_power_sums" s_law_power_sums f fd) : FnOk P w K mg base CX0 33 f fd P_law_power_sums p_lpower_sums := by
  refine fn_ok F sc_law_power_sums (fun _ => rfl) fun cdv A outer s H E hr i hp => ?_
  obtain ⟨p, many⟩ := i
  dsimp only at hp ⊢
  obtain ⟨hne, hl, hm0, hm, b, hb, hb1⟩ := hp
  have l0 : 0 < p.length := List.length_pos_iff.mpr hne
  refine .cons (.set 2 sc_law_power_sums.nd (.bin (.len (by rfl) B.len (.var 0 rfl ⟨_, .inl rfl, .int (.sub ?_)⟩))))
  have el : ((p.map PyData.int).length : Int) - 1 = ((p.length - 1 : Nat) : Int) := by rw [List.length_map]; omega
  rw [el]
  refine .cons (.setF 3 sc_law_power_sums.nd (.lst (.cons (.var 2 rfl (.nil ⟨by show 1 ≤ 2 ^ 24; decide, ?_⟩)))))
  refine .cons (.for_ PassesOwn.never rfl (pg_name (i := 4) sc_law_power_sums.nd rfl (.inl rfl)) (gd1 4)
    (.range2 (by rfl) B.range (.cons (.int (.cons (.var 1 rfl (.nil ⟨1, (many : Nat), rfl, by omega, by show _ ≤ 2 ^ 24; omega, fun k ρ => ∃ (z4 z5 z6 : Sl), ρ = [.d (LI p), .d (.int (many : Nat)), .d (.int (p.length - 1 : Nat)), .own ((pwl p (k + 1)).map .int), z4, z5, z6], ⟨.x, .x, .x, rfl⟩, ?_, ?_⟩)))))))
  · rintro k d _ hd ⟨z4, z5, z6, rfl⟩
    obtain ⟨hk, rfl⟩ := get_rng hd
    refine ⟨_, rfl, ?_⟩
    have ek : (1 : Int) + (k : Nat) = ((k + 1 : Nat) : Int) := by omega
    rw [ek]
    have hf : ((pwl p (k + 1)).map PyData.int).length = k + 1 := by rw [List.length_map, pwl, bl_len]
    refine .cut (fun ρ => ρ = [.d (LI p), .d (.int (many : Nat)), .d (.int (p.length - 1 : Nat)), .own ((pwl p (k + 1)).map .int), .d (.int (k + 1 : Nat)), .d (.int (if k + 1 ≤ p.length - 1 then ((k + 1 : Nat) : Int) * co p (p.length - 1 - (k + 1)) else 0)), z6])
      (.set 5 sc_law_power_sums.nd (.ifx (.cmp (.var 4 rfl (.var 2 rfl (.le (.mk (ways (fun h => ?_) fun h => .int ?_)))))))) ?_
    · have h' : k + 1 ≤ p.length - 1 := by omega
      refine .bin (.var 4 rfl (.ix (.var 0 rfl (.bin (.var 2 rfl (.var 4 rfl (.sub ?_)))))))
      rw [show ((p.length - 1 : Nat) : Int) - ((k + 1 : Nat) : Int) = ((p.length - 1 - (k + 1) : Nat) : Int) by omega]
      refine .list (at_nat (by omega)) (.mul (mulokL (by omega)) ?_)
      show [_, _, _, _, _, Sl.d (PyData.int _), _] = [_, _, _, _, _, Sl.d (PyData.int _), _]
      rw [if_pos h']
    · have h' : ¬ k + 1 ≤ p.length - 1 := by omega
      show [_, _, _, _, _, Sl.d (PyData.int _), _] = [_, _, _, _, _, Sl.d (PyData.int _), _]
      rw [if_neg h']
    rintro _ rfl
    refine .cut (fun ρ => ∃ z6 : Sl, ρ = [.d (LI p), .d (.int (many : Nat)), .d (.int (p.length - 1 : Nat)), .own ((pwl p (k + 1)).map .int), .d (.int (k + 1 : Nat)), .d (.int (-pnx p (pwl p (k + 1)) (k + 1))), z6]) ?_ ?_
    · refine .for_ PassesOwn.never rfl (pg_name (i := 6) sc_law_power_sums.nd rfl (.inl rfl)) (gd1 6)
        (.range2 (by rfl) B.range (.cons (.int (.cons (.min2 rfl (by rfl) B.min (.var 4 rfl (.bin (.var 2 rfl (.int (.add ⟨_, _, rfl, rfl, .nil ⟨_, _, rfl, ?_, ?_, ?_⟩⟩))))))))))
      · omega
      · show _ ≤ 2 ^ 24; omega
      have er : (min ((k + 1 : Nat) : Int) (((p.length - 1 : Nat) : Int) + 1) - 1).toNat = min (k + 1 - 1) (p.length - 1) := by omega
      rw [er]
      refine ⟨fun j ρ => ∃ z6 : Sl, ρ = [.d (LI p), .d (.int (many : Nat)), .d (.int (p.length - 1 : Nat)), .own ((pwl p (k + 1)).map .int), .d (.int (k + 1 : Nat)), .d (.int ((if k + 1 ≤ p.length - 1 then ((k + 1 : Nat) : Int) * co p (p.length - 1 - (k + 1)) else 0) + sm j fun j => co p (p.length - 1 - (j + 1)) * co (pwl p (k + 1)) (k + 1 - (j + 1)))), z6], ⟨z6, by show _ = _; simp [sm]⟩, ?_, ?_⟩
      · rintro j d _ hd ⟨z6, rfl⟩
        obtain ⟨hj, rfl⟩ := get_rng hd
        have ej : (1 : Int) + (j : Nat) = ((j + 1 : Nat) : Int) := by omega
        rw [ej]
        refine ⟨_, rfl, .one (.set 5 sc_law_power_sums.nd (.bin (.var 5 rfl ?_)))⟩
        refine .flat (.bin (.ix (.var 0 rfl (.bin (.var 2 rfl (.var 6 rfl (.sub ?_)))))))
        rw [show ((p.length - 1 : Nat) : Int) - ((j + 1 : Nat) : Int) = ((p.length - 1 - (j + 1) : Nat) : Int) by omega]
        refine .list (at_nat (by omega)) (.ix (.var 3 rfl (.bin (.var 4 rfl (.var 6 rfl (.sub ?_))))))
        rw [show ((k + 1 : Nat) : Int) - ((j + 1 : Nat) : Int) = ((k + 1 - (j + 1) : Nat) : Int) by omega]
        refine .list (at_nat (by rw [← List.length_map (f := PyData.int), hf]; omega)) (.mul ?_ ⟨rfl, .add ⟨.d (.int (j + 1 : Nat)), ?_⟩⟩)
        · have h1 := hb (j + 1) (by omega) (by omega)
          have h2 := psum_bd hb hl (k + 1 - (j + 1)) (by omega) (by omega)
          rw [← co_pwl (m := k + 1) (by omega)] at h2
          refine mulok (lt_two h1 (Nat.lt_succ_self _)) (lt_two h2 (Nat.lt_succ_self _)) ?_
          have a1 : b * (j + 1) ≤ b * 65 := Nat.mul_le_mul_left _ (by omega)
          have a2 : (b + 8) * (k + 1 - (j + 1)) ≤ (b + 8) * 65 := Nat.mul_le_mul_left _ (by omega)
          omega
        · show [_, _, _, _, _, Sl.d (PyData.int _), _] = [_, _, _, _, _, Sl.d (PyData.int _), _]
          rw [Int.add_assoc]
          rfl
      · rintro _ ⟨z6, rfl⟩
        refine ⟨z6, ?_⟩
        rw [rng_len]
        show [_, _, _, _, _, Sl.d (PyData.int _), _] = [_, _, _, _, _, Sl.d (PyData.int _), _]
        have e : ∀ x y : Int, -(-x - y) = x + y := fun _ _ => by omega
        unfold pnx
        rw [e]
    · rintro _ ⟨z6, rfl⟩
      refine .one (.append 3 rfl (by rw [hf]; show _ < 2 ^ 24; omega) (.neg (.var 5 rfl ⟨_, rfl, .d (.int (k + 1 : Nat)), .d (.int (-pnx p (pwl p (k + 1)) (k + 1))), z6, ?_⟩)))
      have : List.map PyData.int (pwl p (k + 1 + 1)) = List.map PyData.int (pwl p (k + 1)) ++ [PyData.int (pnx p (pwl p (k + 1)) (k + 1))] := by
        show List.map _ (pwl p (k + 1) ++ [_]) = _
        rw [List.map_append]
        rfl
      rw [this, Int.neg_neg]
      rfl
  · rintro _ ⟨z4, z5, z6, rfl⟩
    rw [rng_len]
    refine .freeze (.one (.ret (.sliceL (.var 3 rfl (.var 1 rfl ⟨_, rfl, _, rfl, ?_⟩)))))
    show _ = _
    rw [cut_to, ← List.map_take]
    have e1 : ((many : Int) - 1).toNat + 1 = many := by omega
    rw [e1, List.take_of_length_le (by rw [pwl, bl_len]; exact Nat.le_refl _)]
end
end K2
end

section
set_option Elab.async false
set_option linter.all false
set_option maxRecDepth 100000
set_option maxHeartbeats 4000000
set_option exponentiation.threshold 100000
/-! K2j: the law's values, products, contents. -/
namespace K2
open PySem PySem.Spec PyProof.Rows L2 PD
abbrev p_lproduct : Sp := spP (ι := List Int × List Int) (fun i => [LI i.1, LI i.2]) (fun i => (∃ a b, Bd a i.1 ∧ Bd b i.2 ∧ a + b ≤ 100000000) ∧ i.1 ≠ [] ∧ i.2 ≠ [] ∧ i.1.length ≤ 2 ^ 19 ∧ i.2.length ≤ 2 ^ 19) fun i d => d = LI (pmul i.1 i.2)
abbrev p_whole_root : Sp := spP (ι := Int) (fun i => [.int i]) (fun i => True) fun i d => ∃ z : Int, d = .int z ∧ z.natAbs < 2 ^ 20002
abbrev p_lcontent : Sp := spP (ι := Bool × List Int) (fun i => [SQ i.1 i.2]) (fun i => Bd 400000 i.2) fun i d => d = .int (cont i.2 : Nat)
abbrev p_lplain : Sp := spP (ι := List Int) (fun i => [LI i]) (fun i => Bd 400000 i ∧ i ≠ [] ∧ 0 < lead i) fun i d => d = LI (i.map fun x => x / (cont i : Nat))
theorem step_rev (ns : List Int) : stepD (ns.map PyData.int) none none (-1) = ns.reverse.map PyData.int := by
  unfold stepD
  have e1 : (Builtin.Slice.sliceAdjust none none (-1) (ns.map PyData.int).length).1 = (ns.length : Int) - 1 := by
    rw [List.length_map]
    rfl
  have e2 : (Builtin.Slice.sliceAdjust none none (-1) (ns.map PyData.int).length).2 = -1 := by
    rw [List.length_map]
    rfl
  rw [e1, e2]
  have e3 : Builtin.Slice.slicePlaces ((ns.length : Int) - 1) (-1) (-1) = ns.length := by
    unfold Builtin.Slice.slicePlaces
    rw [if_neg (show ¬ (-1 : Int) > 0 by decide), Int.neg_neg, Int.ediv_one]
    split <;> omega
  rw [e3]
  have e4 : ns.reverse.map PyData.int = (List.range ns.length).map fun m => PyData.int (co ns.reverse m) := by
    apply List.ext_getElem (by simp)
    intro i h1 h2
    have hi : i < ns.reverse.length := by simpa using h1
    rw [List.getElem_map, List.getElem_map, List.getElem_range]
    have : co ns.reverse i = ns.reverse[i] := by
      unfold co
      rw [List.getD, List.getElem?_eq_getElem hi]
      rfl
    rw [this]
  rw [e4]
  refine filterMap_map fun m hm => ?_
  have hm := List.mem_range.mp hm
  have e5 : ((ns.length : Int) - 1 + (m : Nat) * -1).toNat = ns.length - 1 - m := by omega
  rw [e5, List.getElem?_map, List.getElem?_eq_getElem (by omega)]
  have : co ns.reverse m = ns[ns.length - 1 - m] := by
    simp [co, List.getD, hm]
  rw [this]
  rfl
theorem co_rev {ns : List Int} {m : Nat} (h : m < ns.length) : ns.reverse.getD m 0 = co ns (ns.length - 1 - m) := by
  have : ns.length - 1 - m < ns.length := by omega
  simp [co, List.getD, h, this]
section
variable {P : Program} {w : World} {K : PD.Frag} {mg : Str → Option Value} {base : Heap} {fd : FuncData} {f : Addr}
theorem ok_value (F : Fun K "_law_value" "_law_value" s_law_value f fd) : FnOk P w K mg base CX0 33 f fd P_law_value p_value := by
  refine fn_ok F sc_law_value (fun _ => rfl) fun cdv A outer s H E hr i hp => ?_
  obtain ⟨⟨sq, p⟩, x⟩ := i
  dsimp only at hp ⊢
  obtain ⟨hl, b, c, hb, hu, hv, hb1, hc1⟩ := hp
  refine .cons (.asg (pg_tup rfl (pgs_cons (pg_name (i := 2) sc_law_value.nd rfl (.inl rfl)) (pgs_cons (pg_name (i := 3) sc_law_value.nd rfl (.inl rfl)) pgs_nil))) (gd2 (by decide)) (.var 1 rfl ⟨_, ⟨_, _, rfl, rfl⟩, ?_⟩))
  refine .cons (.set 4 sc_law_value.nd (.int ?_))
  refine .cons (.set 5 sc_law_value.nd (.int ?_))
  refine .cons (.for_ PassesOwn.never rfl (pg_name (i := 6) sc_law_value.nd rfl (.inl rfl)) (gd1 6) (.seq ?_))
  have main : ∃ I : Nat → Env' → Prop, I 0 [.d (SQ sq p), .d (pr x), .d (.int x.1), .d (.int x.2), .d (.int 0), .d (.int 1), .x] ∧
      (∀ (i : Nat) d ρ', (p.reverse.map PyData.int)[i]? = some d → I i ρ' → ∃ u, R1 6 d u ∧ JSs (bX P w K mg base N_law_value "_law_value" s_law_value f cdv A outer s H E) none (match (defBody s_law_value).getD 3 (.Pass ⟨0, 0, 0, 0⟩) with | .For _ _ b _ _ => b | _ => []) (u ρ') { nx := I (i + 1), rt := fun d => d = .int (value p x), bk := fun ρ => JSs (bX P w K mg base N_law_value "_law_value" s_law_value f cdv A outer s H E) none ((defBody s_law_value).drop 4) ρ { nx := fun _ => PyData.none = .int (value p x), rt := fun d => d = .int (value p x) }, ct := I (i + 1) }) ∧
      ∀ ρ', I (p.reverse.map PyData.int).length ρ' → JSs (bX P w K mg base N_law_value "_law_value" s_law_value f cdv A outer s H E) none ((defBody s_law_value).drop 4) ρ' { nx := fun _ => PyData.none = .int (value p x), rt := fun d => d = .int (value p x) } := by
    refine ⟨fun k ρ => ∃ z6 : Sl, ρ = [.d (SQ sq p), .d (pr x), .d (.int x.1), .d (.int x.2), .d (.int (hom p x.1 x.2 k)), .d (.int (x.2 ^ k)), z6], ⟨.x, by rw [Int.pow_zero]; rfl⟩, ?_, ?_⟩
    · rintro k d _ hd ⟨z6, rfl⟩
      obtain ⟨hk, rfl⟩ := get_ints hd
      rw [List.length_reverse] at hk
      rw [co_rev hk]
      have b1 : c * k ≤ c * 64 := Nat.mul_le_mul_left _ (by omega)
      have b2 : (c + 1) * k ≤ (c + 1) * 64 := Nat.mul_le_mul_left _ (by omega)
      refine ⟨_, rfl, .cons (.set 4 sc_law_value.nd ?_)⟩
      refine .bin (.bin (.var 4 rfl (.var 2 rfl (.mul (mulok (lt_two (hom_bd hb hu hv k) (Nat.lt_succ_self _)) hu (by omega)) ?_))))
      refine .bin (.var 6 rfl (.var 5 rfl (.mul (mulok (hb.co _) (pow_lt hv k) (by omega)) (.add ?_))))
      refine .one (.set 5 sc_law_value.nd (.bin (.var 5 rfl (.var 3 rfl (.mul (mulok (pow_lt hv k) hv (by omega)) ⟨.d (.int (co p (p.length - 1 - k))), ?_⟩)))))
      show [_, _, _, _, _, Sl.d (.int _), _] = [_, _, _, _, _, Sl.d (.int _), _]
      rw [Int.pow_succ]
      rfl
    · rintro _ ⟨z6, rfl⟩
      rw [List.length_map, List.length_reverse]
      exact .one (.ret (.var 4 rfl rfl))
  cases sq
  · refine .stepT (.var 0 rfl (.neg (.int ⟨1, rfl, _, -1, rfl, rfl, by decide, by decide, ?_, _, .inr rfl, ?_⟩)))
    · rw [step_rev, List.length_map, List.length_reverse]
      show _ ≤ 2 ^ 24
      omega
    · rw [step_rev]
      exact main
  · refine .revL (.var 0 rfl (.neg (.int ⟨1, rfl, _, rfl, rfl, _, .inl rfl, ?_⟩)))
    rw [← List.map_reverse]
    exact main
theorem ok_lproduct (B : Bi mg) (F : Fun K "_law_product" "_law_product" s_law_product f fd) : FnOk P w K mg base CX0 33 f fd P_law_product p_lproduct := by
  refine fn_ok F sc_law_product (fun _ => rfl) fun cdv A outer s H E hr i hp => ?_
  obtain ⟨p, q⟩ := i
  dsimp only at hp ⊢
  obtain ⟨⟨a, b, hpa, hqb, hab⟩, h0, h1, hp1, hq1⟩ := hp
  have l0 : 0 < p.length := List.length_pos_iff.mpr h0
  have l1 : 0 < q.length := List.length_pos_iff.mpr h1
  have e1 : pmul p q = (List.range (p.length + q.length - 1)).map fun k => acc p q p.length k := by unfold pmul; rw [if_neg (by intro z; rcases z with z | z; exact h0 z; exact h1 z)]
  have en : (((p.map PyData.int).length : Int) + ((q.map PyData.int).length : Int) - 1).toNat = p.length + q.length - 1 := by
    rw [List.length_map, List.length_map]; omega
  refine .cons (.setF 2 sc_law_product.nd (.rep (.lst (.cons (.int (.nil ⟨by decide, .bin (.bin (.len (by rfl) B.len (.var 0 rfl ⟨_, .inl rfl, .len (by rfl) B.len (.var 1 rfl ⟨_, .inl rfl, .add (.int (.sub ⟨_, _, rfl, rfl, ?_, ?_, ?_, ?_⟩))⟩)⟩)))⟩))))))
  · simp only [List.length_map]; omega
  · simp only [List.length_map]; omega
  · rw [en]; show 1 * _ ≤ 2 ^ 24; omega
  rw [en, rep0]
  refine .cons (.for_ PassesOwn.never rfl (pg_name (i := 3) sc_law_product.nd rfl (.inl rfl)) (gd1 3) (.range1 (by rfl) B.range (.cons (.len (by rfl) B.len (.var 0 rfl ⟨_, .inl rfl, .nil ⟨_, rfl, by omega, by rw [List.length_map]; show _ ≤ 2 ^ 24; omega, fun at_ ρ => ∃ (L : List Int) (z3 z4 : Sl), ρ = [.d (LI p), .d (LI q), .own (L.map .int), z3, z4] ∧ L.length = p.length + q.length - 1 ∧ ∀ k, k < L.length → co L k = acc p q at_ k, ⟨List.replicate (p.length + q.length - 1) 0, .x, .x, rfl, by simp, ?_⟩, ?_, ?_⟩⟩)))))
  · intro k hk
    rw [List.length_replicate] at hk
    show _ = 0
    simp [co, List.getD, hk]
  · rintro at_ d _ hd ⟨L, z3, z4, rfl, hl, hL⟩
    obtain ⟨hat, rfl⟩ := get_rng hd
    rw [show (0 : Int) + ((at_ : Nat) : Int) = (at_ : Nat) by omega]
    rw [List.length_map, Int.toNat_natCast] at hat
    refine ⟨_, rfl, .one ?_⟩
    refine .for_ PassesOwn.never rfl (pg_name (i := 4) sc_law_product.nd rfl (.inl rfl)) (gd1 4) (.range1 (by rfl) B.range (.cons (.len (by rfl) B.len (.var 1 rfl ⟨_, .inl rfl, .nil ⟨_, rfl, by omega, by rw [List.length_map]; show _ ≤ 2 ^ 24; omega, fun b_ ρ => ∃ (L : List Int) (z4 : Sl), ρ = [.d (LI p), .d (LI q), .own (L.map .int), .d (.int (at_ : Nat)), z4] ∧ L.length = p.length + q.length - 1 ∧ ∀ k, k < L.length → co L k = acc p q at_ k + (if at_ ≤ k ∧ k - at_ < b_ then co p at_ * co q (k - at_) else 0), ⟨L, z4, rfl, hl, ?_⟩, ?_, ?_⟩⟩))))
    · intro k hk
      rw [hL k hk, if_neg (by omega)]; omega
    · rintro b_ d _ hd ⟨L, z4, rfl, hl, hL⟩
      obtain ⟨hb, rfl⟩ := get_rng hd
      rw [show (0 : Int) + ((b_ : Nat) : Int) = (b_ : Nat) by omega]
      rw [List.length_map, Int.toNat_natCast] at hb
      have hi : at_ + b_ < L.length := by rw [hl]; omega
      have ei : ((at_ : Nat) : Int) + ((b_ : Nat) : Int) = ((at_ + b_ : Nat) : Int) := by omega
      refine ⟨_, rfl, .one (.setItem 2 rfl (.flat (.bin (.ix (.var 2 rfl (.bin (.var 3 rfl (.var 4 rfl (.add ?_)))))))))⟩
      rw [ei]
      refine .list (at_nat hi) (.bin (.ix (.var 0 rfl (.var 3 rfl (.list (at_nat hat) (.ix (.var 1 rfl (.var 4 rfl (.list (at_nat hb) (.mul (mulok (hpa.co at_) (hqb.co b_) hab) (.add ⟨rfl, ?_⟩)))))))))))
      refine .bin (.var 3 rfl (.var 4 rfl (.add ⟨_, _, rfl, ix_nat (by omega) (by rw [List.length_map]; omega), L.set (at_ + b_) (co L (at_ + b_) + co p at_ * co q b_), .d (.int (b_ : Nat)), ?_, by rw [List.length_set]; exact hl, ?_⟩)))
      · rw [ei, Int.toNat_natCast, List.map_set]
        rfl
      · intro k hk
        rw [List.length_set] at hk
        rw [co_set]
        by_cases ek : at_ + b_ = k
        · subst ek
          rw [if_pos ⟨rfl, hk⟩, if_pos ⟨by omega, by omega⟩, hL _ hk, if_neg (by omega), show at_ + b_ - at_ = b_ by omega]
          omega
        · rw [if_neg (fun z => ek z.1), hL k hk]
          congr 1
          by_cases c : at_ ≤ k ∧ k - at_ < b_
          · rw [if_pos c, if_pos ⟨c.1, by omega⟩]
          · rw [if_neg c, if_neg (by omega)]
    · rintro _ ⟨L, z4, rfl, hl, hL⟩
      refine ⟨L, _, z4, rfl, hl, fun k hk => ?_⟩
      rw [hL k hk, rng_len, List.length_map, Int.toNat_natCast]
      show _ = acc p q at_ k + (if at_ ≤ k then co p at_ * co q (k - at_) else 0)
      congr 1
      by_cases c : at_ ≤ k
      · rw [if_pos c]
        by_cases c2 : k - at_ < q.length
        · rw [if_pos ⟨c, c2⟩]
        · rw [if_neg (fun z => c2 z.2), co_out (p := q) (by omega), Int.mul_zero]
      · rw [if_neg c, if_neg (fun z => c z.1)]
  · rintro _ ⟨L, z3, z4, rfl, hl, hL⟩
    rw [rng_len, List.length_map, Int.toNat_natCast] at hL
    refine .freeze (.one (.ret (.var 2 rfl ?_)))
    show _ = LI (pmul p q)
    rw [e1]
    have : L = (List.range (p.length + q.length - 1)).map fun k => acc p q p.length k := row_ext (by simpa using hl) fun k hk => by
      rw [hL k hk, co_map, if_pos (by omega)]
    rw [← this]
theorem ok_whole_root (sr : base.NoSeer) (ht : P.given.tree = none) (B : Bi mg) (F : Fun K "_law_whole_root" "_law_whole_root" s_law_whole_root f fd) : FnOk P w K mg base CX0 33 f fd P_law_whole_root p_whole_root := by
  refine fn_ok F sc_law_whole_root (fun _ => rfl) fun cdv A outer s H E hr n hp => ?_
  have sx := seer_b (P := P) (w := w) (K := K) (mg := mg) (outer := outer) (H := H) (E := E) sc_law_whole_root hr (by decide) sr ht
  refine .cons (.asg (pg_tup rfl (pgs_cons (pg_name (i := 1) sc_law_whole_root.nd rfl (.inl rfl)) (pgs_cons (pg_name (i := 2) sc_law_whole_root.nd rfl (.inl rfl)) pgs_nil))) (gd2 (by decide)) (.tup (.cons (.int (.cons (.int (.nil ⟨by show 2 ≤ 2 ^ 24; decide, _, ⟨_, _, rfl, rfl⟩, ?_⟩)))))))
  refine .cut (fun ρ => ∃ (h : Int) (z : Sl), ρ = [.d (.int n), .d (.int 0), .d (.int h), z, .x] ∧ 0 ≤ h ∧ h.natAbs < 2 ^ 20002) ?_ ?_
  · refine .for_ PassesOwn.never rfl (pg_name (i := 3) sc_law_whole_root.nd rfl (.inl rfl)) (gd1 3) (.range1 (by rfl) B.range (.cons (.int (.nil ⟨20000, rfl, by decide, by decide, fun k ρ => ∃ (h : Int) (z : Sl), ρ = [.d (.int n), .d (.int 0), .d (.int h), z, .x] ∧ 0 ≤ h ∧ h.natAbs ≤ 2 ^ k, ⟨1, .x, rfl, by decide, by decide⟩, ?_, ?_⟩))))
    · rintro k d _ hd ⟨h, z, rfl, h0, hk⟩
      obtain ⟨hk2, rfl⟩ := get_rng hd
      have hk2 : k < 20000 := hk2
      have hb : h.natAbs < 2 ^ 20001 := lt_two hk (by omega)
      refine ⟨_, rfl, .cons (.ite (.cmp (.bin (.var 2 rfl (.var 2 rfl (.mul (mulok hb hb (by decide)) (.var 0 rfl (.gt (.mk (ways (fun _ => .one (.brk ?_)) fun _ => .nil (.one ?_)))))))))))⟩
      · exact ⟨h, _, rfl, h0, Nat.lt_of_lt_of_le hb (le_two (by decide))⟩
      · refine .set 2 sc_law_whole_root.nd (.bin (.int (.var 2 rfl (.mul (mulokL (by decide)) ⟨2 * h, .d (.int (0 + (k : Nat))), rfl, by omega, ?_⟩))))
        rw [Nat.pow_succ]
        omega
    · rintro _ ⟨h, z, rfl, h0, hk⟩
      rw [rng_len] at hk
      exact ⟨h, z, rfl, h0, lt_two hk (by decide)⟩
  rintro _ ⟨h, z, rfl, h0, hb⟩
  have fin : ∀ ρ : Env', (∃ (l h : Int) (z y : Sl), ρ = [.d (.int n), .d (.int l), .d (.int h), z, y] ∧ 0 ≤ l ∧ 0 ≤ h ∧ l.natAbs < 2 ^ 20002 ∧ h.natAbs < 2 ^ 20002) → JSs (bX P w K mg base N_law_whole_root "_law_whole_root" s_law_whole_root f cdv A outer s H E) none ((defBody s_law_whole_root).drop 3) ρ { nx := fun _ => ∃ z : Int, PyData.none = .int z ∧ z.natAbs < 2 ^ 20002, rt := fun d => ∃ z : Int, d = .int z ∧ z.natAbs < 2 ^ 20002 } := fun ρ ⟨l, h, z, y, e, h0, h1, h2, h3⟩ => by
    subst e
    exact .one (.ret (.var 1 rfl ⟨l, rfl, h2⟩))
  refine .cons (.for_ PassesOwn.never rfl (pg_name (i := 3) sc_law_whole_root.nd rfl (.inl rfl)) (gd1 3) (.range1 (by rfl) B.range (.cons (.int (.nil ⟨20000, rfl, by decide, by decide, fun k ρ => ∃ (l h : Int) (z y : Sl), ρ = [.d (.int n), .d (.int l), .d (.int h), z, y] ∧ 0 ≤ l ∧ 0 ≤ h ∧ l.natAbs < 2 ^ 20002 ∧ h.natAbs < 2 ^ 20002, ⟨0, h, z, .x, rfl, by decide, h0, by decide, hb⟩, ?_, fun ρ h => fin ρ h⟩)))))
  rintro k d _ hd ⟨l, h, z, y, rfl, h0, h1, h2, h3⟩
  refine ⟨_, rfl, .cons (.ite (.cmp (.bin (.var 1 rfl (.int (.add (.var 2 rfl (.ge (.mk (ways (fun hx => .one (.brk ?_)) fun hx => .nil ?_))))))))))⟩
  · exact fin _ ⟨l, h, _, y, rfl, h0, h1, h2, h3⟩
  have m1 : 0 ≤ (l + h) / 2 := by omega
  have m2 : ((l + h) / 2).natAbs < 2 ^ 20002 := by omega
  refine .cons (.set 4 sc_law_whole_root.nd (.toInt (by rfl) B.int (.bin (.bin (.var 1 rfl (.var 2 rfl (.add (.int (.fdiv sx (by decide) ⟨_, rfl, ?_⟩)))))))))
  refine .one (.ite (.cmp (.bin (.var 4 rfl (.var 4 rfl (.mul (mulok m2 m2 (by decide)) (.var 0 rfl (.le (.mk (ways (fun _ => .one ?_) fun _ => .one ?_))))))))))
  · exact .set 1 sc_law_whole_root.nd (.var 4 rfl ⟨(l + h) / 2, h, .d d, .d (.int ((l + h) / 2)), rfl, m1, h1, m2, h3⟩)
  · exact .set 2 sc_law_whole_root.nd (.var 4 rfl ⟨l, (l + h) / 2, .d d, .d (.int ((l + h) / 2)), rfl, h0, m1, h2, m2⟩)
theorem ok_lcontent (D : FnD P w K mg base 33 "_law_divisor" p_divisor) (F : Fun K "_law_content" "_law_content" s_law_content f fd) : FnOk P w K mg base CX0 34 f fd P_law_content p_lcontent := by
  refine fn_ok F sc_law_content (fun _ => rfl) fun cdv A outer s H E hr i hp => ?_
  obtain ⟨sq, ns⟩ := i
  dsimp only at hp ⊢
  refine .cons (.set 1 sc_law_content.nd (.int ?_))
  refine .cons (.for_ PassesOwn.never rfl (pg_name (i := 2) sc_law_content.nd rfl (.inl rfl)) (gd1 2) (.seq (.var 0 rfl ⟨ns.map .int, sq_or sq ns, fun k ρ => ∃ z, ρ = [.d (SQ sq ns), .d (.int (cont (ns.take k) : Nat)), z] ∧ cont (ns.take k) < 2 ^ 400000, ⟨_, rfl, Nat.two_pow_pos _⟩, ?_, ?_⟩)))
  · rintro k d _ hd ⟨z, rfl, hb⟩
    obtain ⟨hk, rfl⟩ := get_ints hd
    have e : cont (ns.take (k + 1)) = Nat.gcd (cont (ns.take k)) (ns.getD k 0).natAbs := by
      unfold cont
      rw [List.take_succ_eq_append_getElem hk, List.foldl_append]
      simp [List.getD, hk]
    refine ⟨_, rfl, .one (.set 1 sc_law_content.nd (.callF D hr (by rfl) (.cons (.var 1 rfl (.cons (.var 2 rfl (.nil ⟨((cont (ns.take k) : Nat), ns.getD k 0), rfl, ⟨hb, hp.co k⟩, .d (.int (ns.getD k 0)), ?_, ?_⟩)))))))⟩
    · rw [e]
      rfl
    · rw [e]
      by_cases hz : (ns.getD k 0).natAbs = 0
      · rw [hz, Nat.gcd_zero_right]; exact hb
      · exact Nat.lt_of_le_of_lt (Nat.gcd_le_right _ (by omega)) (hp.co k)
  · rintro _ ⟨z, rfl, _⟩
    refine .one (.ret (.var 1 rfl ?_))
    show _ = _
    rw [List.length_map, List.take_length]
theorem ok_lplain (C : FnD P w K mg base 34 "_law_content" p_lcontent) (sr : base.NoSeer) (ht : P.given.tree = none) (B : Bi mg) (F : Fun K "_law_plain" "_law_plain" s_law_plain f fd) : FnOk P w K mg base CX0 35 f fd P_law_plain p_lplain := by
  refine fn_ok F sc_law_plain (fun _ => rfl) fun cdv A outer s H E hr ns hp => ?_
  have sx := seer_b (P := P) (w := w) (K := K) (mg := mg) (outer := outer) (H := H) (E := E) sc_law_plain hr (by decide) sr ht
  obtain ⟨hb, hne, h0⟩ := hp
  have l0 : 0 < ns.length := List.length_pos_iff.mpr hne
  have hc := (cont_le (x := lead ns) (co_mem (by omega)) (by omega)).1
  refine .cons (.set 1 sc_law_plain.nd (.callF C hr (by rfl) (.cons (.var 0 rfl (.nil ⟨(true, ns), rfl, hb, ?_⟩)))))
  refine .cons (.ite (.cmp (.var 1 rfl (.int (.eqI (.mk (ways (fun h => ?_) fun h => .nil ?_))))))) 
  · exact absurd (show ((cont ns : Nat) : Int) = 0 from h) (by omega)
  refine .cons (.ite (.cmp (.ix (.var 0 rfl (.neg (.int ⟨1, rfl, .list (at_last hne) (.int (.lt (.mk (ways (fun h => ?_) fun h => .nil ?_))))⟩)))))) 
  · exact absurd (show lead ns < 0 from h) (by omega)
  refine .one (.ret (.lcI 2 rfl sc_law_plain.nd (⟨rfl, by decide +kernel, by decide +kernel, by decide +kernel, by decide +kernel⟩ : BlkOk N_law_plain (defScope s_law_plain) _ [("number", 2)]) (fun _ _ _ _ _ => pg_name (i := 2) sc_law_plain.nd rfl (.inl rfl)) (.var 0 rfl ⟨ns, true, rfl, fun x => x / (cont ns : Nat), fun i hi s' H' C cl fp => ?_, rfl⟩)))
  exact .toInt (by rfl) B.int (.bin (.var 2 rfl (.var 1 rfl (.fdiv sx.blk (by show (0 : Int) < ((cont ns : Nat) : Int); omega) ⟨_, rfl, rfl⟩))))
end
end K2
end

section
set_option Elab.async false
set_option linter.all false
set_option maxRecDepth 100000
set_option maxHeartbeats 4000000
set_option exponentiation.threshold 100000
/-! K2k: the law's rows that are drawn. -/
namespace K2
open PySem PySem.Spec PyProof.Rows L2 PD
/-! ### shapes -/
theorem lay_all : ∀ {ds : List PyData}, (∀ d ∈ ds, d.canLay0 = true) → PyData.canLayAll0 ds = true
  | [], _ => rfl
  | d :: ds, h => by
    show (d.canLay0 && PyData.canLayAll0 ds) = true
    rw [h d (List.mem_cons_self ..), lay_all fun x hx => h x (List.mem_cons_of_mem _ hx)]
    rfl
theorem dep_all {n : Nat} : ∀ {ds : List PyData}, (∀ d ∈ ds, d.depth ≤ n) → PyData.depthAll ds ≤ n
  | [], _ => Nat.zero_le _
  | d :: ds, h => by
    show max d.depth (PyData.depthAll ds) ≤ n
    exact Nat.max_le.mpr ⟨h d (List.mem_cons_self ..), dep_all fun x hx => h x (List.mem_cons_of_mem _ hx)⟩
theorem LI_lay (ns : List Int) : (LI ns).canLay0 = true := lay_all fun d hd => by
  obtain ⟨i, _, rfl⟩ := List.mem_map.mp hd
  rfl
theorem LI_dep (ns : List Int) : (LI ns).depth ≤ 2 := by
  have : PyData.depthAll (ns.map PyData.int) ≤ 1 := dep_all fun d hd => by
    obtain ⟨i, _, rfl⟩ := List.mem_map.mp hd
    exact Nat.zero_le _
  show PyData.depthAll (ns.map PyData.int) + 1 ≤ 2
  omega
theorem LI_shaped (ns : List Int) : SeqAt.shaped (LI ns) = true := by
  unfold SeqAt.shaped
  rw [LI_lay, decide_eq_true (Nat.le_trans (LI_dep ns) (by decide))]
  rfl
theorem LIs_shaped (fs : List (List Int)) : SeqAt.shaped (.list (fs.map LI)) = true := by
  have h1 : (PyData.list (fs.map LI)).canLay0 = true := lay_all fun d hd => by
    obtain ⟨i, _, rfl⟩ := List.mem_map.mp hd
    exact LI_lay i
  have h2 : PyData.depthAll (fs.map LI) ≤ 2 := dep_all fun d hd => by
    obtain ⟨i, _, rfl⟩ := List.mem_map.mp hd
    exact LI_dep i
  unfold SeqAt.shaped
  rw [h1, decide_eq_true (show (PyData.list (fs.map LI)).depth ≤ 64 by show PyData.depthAll (fs.map LI) + 1 ≤ 64; omega)]
  rfl
theorem both {A B : Prop} {b : Bool} (h1 : A) (h2 : B) : if b = true then A else B := by
  cases b
  · rw [if_neg Bool.false_ne_true]; exact h2
  · rw [if_pos rfl]; exact h1
/-! ### promises -/
structure Fac (ns : List Int) : Prop where
  l2 : 2 ≤ ns.length
  l3 : ns.length ≤ 3
  pos : 0 < lead ns
  bd : Bd 21 ns
theorem Fac.ne {ns : List Int} (h : Fac ns) : ns ≠ [] := fun z => by have := h.l2; rw [z] at this; exact absurd this (by decide)
theorem co_mapI (ns : List Int) (g : Int → Int) (hg : g 0 = 0) (i : Nat) : co (ns.map g) i = g (co ns i) := by
  by_cases h : i < ns.length
  · simp [co, List.getD, h]
  · rw [co_out (by simpa using Nat.le_of_not_lt h), co_out (Nat.le_of_not_lt h), hg]
theorem natAbs_div_le (x : Int) {c : Nat} (hc : 0 < c) : (x / (c : Int)).natAbs ≤ x.natAbs := div_bd hc (by
  have := Nat.mul_le_mul_right x.natAbs (show 1 ≤ c from hc)
  omega)
theorem cont_dvd {ns : List Int} {x : Int} (hx : x ∈ ns) : ((cont ns : Nat) : Int) ∣ x := by
  have key : ∀ (l : List Int) (g : Nat), (l.foldl (fun g x => Nat.gcd g x.natAbs) g ∣ g) ∧ ∀ y ∈ l, l.foldl (fun g x => Nat.gcd g x.natAbs) g ∣ y.natAbs := by
    intro l
    induction l with
    | nil => exact fun g => ⟨Nat.dvd_refl _, fun y hy => by cases hy⟩
    | cons a l ih =>
      intro g
      have q := ih (Nat.gcd g a.natAbs)
      refine ⟨Nat.dvd_trans q.1 (Nat.gcd_dvd_left _ _), fun y hy => ?_⟩
      rcases List.mem_cons.mp hy with rfl | hy
      · exact Nat.dvd_trans q.1 (Nat.gcd_dvd_right _ _)
      · exact q.2 y hy
  exact Int.ofNat_dvd_left.mpr ((key ns 0).2 x hx)
theorem Fac.plain {ns : List Int} (h : Fac ns) : Fac (ns.map fun x => x / (cont ns : Nat)) where
  l2 := by rw [List.length_map]; exact h.l2
  l3 := by rw [List.length_map]; exact h.l3
  pos := by
    have hl := h.l2
    have hc := cont_le (x := lead ns) (co_mem (by omega)) (by have := h.pos; omega)
    unfold lead
    rw [List.length_map, co_mapI ns _ (by simp)]
    have := h.pos
    have dv := cont_dvd (x := co ns (ns.length - 1)) (co_mem (by omega))
    exact Int.ediv_pos_of_pos_of_dvd this (by omega) dv
  bd := by
    intro x hx
    obtain ⟨y, hy, rfl⟩ := List.mem_map.mp hx
    have hl := h.l2
    have hc := cont_le (x := lead ns) (co_mem (by omega)) (by have := h.pos; omega)
    exact Nat.lt_of_le_of_lt (natAbs_div_le y hc.1) (h.bd y hy)
abbrev isFac (d : Dat) : Prop := ∃ ns, d = LI ns ∧ Fac ns
abbrev sizeOk (n : Int) : Prop := 0 < n ∧ n ≤ 1000000
abbrev p_factor : Sp := spQ (ι := Int) (fun n => [.int n]) sizeOk fun _ d => isFac d
abbrev p_factors : Sp := spQ (ι := Nat × Int) (fun i => [.int i.1, .int i.2]) (fun i => i.1 ≤ 4 ∧ sizeOk i.2) fun i d => ∃ fs : List (List Int), d = .list (fs.map LI) ∧ fs.length ≤ 4 ∧ ∀ n ∈ fs, Fac n
section
variable {P : Program} {w : World} {K : PD.Frag} {mg : Str → Option Value} {base : Heap} {fd : FuncData} {f : Addr}
theorem ok_factor (T : FnD P w K mg base 34 "_law_take" p_take) (G : FnD P w K mg base 35 "_law_pick" p_pick) (R : FnD P w K mg base 33 "_law_whole_root" p_whole_root) (L : FnD P w K mg base 35 "_law_plain" p_lplain) (B : Bi mg)
    (F : Fun K "_law_factor" "_law_factor" s_law_factor f fd) : FnOk P w K mg base CX0 36 f fd P_law_factor p_factor := by
  refine fn_okQ F sc_law_factor (fun _ => rfl) fun cdv A outer s H E po hr n hn => ?_
  obtain ⟨h1, h2⟩ := hn
  have t2 : ∀ z : Int, 0 ≤ z → z < 2 * n + 1 → (z - n).natAbs < 2 ^ 21 := fun z a b => by omega
  refine .cut (fun ρ => ∃ (a b c d e g : Sl), ρ = [.pool, .d (.int n), a, b, c, d, e, g]) (.ite (.cmp (.callQ 0 T (hr.mono (by decide)) (by rfl) rfl (.cons (.int (.nil ⟨2, rfl, by decide, fun d hd => ?_⟩)))))) ?_
  · obtain ⟨z, rfl, hz0, hz1⟩ := hd
    refine .int (.eqI (.mk (ways (fun hz => ?_) fun hz => .nil ⟨_, _, _, _, _, _, rfl⟩)))
    refine .cons (.par 2 3 rfl sc_law_factor.nd (by decide) (.cons (.bin (.int (.callQ 0 T (hr.mono (by decide)) (by rfl) rfl (.cons (.int (.nil ⟨4, rfl, by decide, fun d hd => ?_⟩)))))))) 
    obtain ⟨la, rfl, hl0, hl1⟩ := hd
    refine .add (.cons (.bin (.callQ 0 T (hr.mono (by decide)) (by rfl) rfl (.cons (.bin (.bin (.int (.var 1 rfl (.mul (mulokL (by decide)) (.int (.add (.nil ⟨_, rfl, by omega, fun d hd => ?_⟩))))))))))))
    obtain ⟨fi, rfl, hf0, hf1⟩ := hd
    refine .var 1 rfl (.sub (.nil ⟨_, _, rfl, ?_⟩))
    refine .cons (.set 4 sc_law_factor.nd (.bin (.bin (.callQ 0 T (hr.mono (by decide)) (by rfl) rfl (.cons (.bin (.bin (.int (.var 1 rfl (.mul (mulokL (by decide)) (.int (.add (.nil ⟨_, rfl, by omega, fun d hd => ?_⟩)))))))))))))
    obtain ⟨mi, rfl, hm0, hm1⟩ := hd
    refine .var 1 rfl (.sub (.callQ 0 T (hr.mono (by decide)) (by rfl) rfl (.cons (.int (.nil ⟨2, rfl, by decide, fun d hd => ?_⟩)))))
    obtain ⟨sg, rfl, hs0, hs1⟩ := hd
    refine .mul (mulok (t2 mi hm0 hm1) (show sg.natAbs < 2 ^ 2 by omega) (by decide)) ?_
    have hmid : ((mi - n) * sg).natAbs < 2 ^ 21 := by
      rcases (show sg = 0 ∨ sg = 1 by omega) with rfl | rfl
      · rw [Int.mul_zero]; decide
      · rw [Int.mul_one]; exact t2 mi hm0 hm1
    have fac : Fac [fi - n, (mi - n) * sg, 1 + la] := ⟨by show 2 ≤ 3; decide, by show 3 ≤ 3; decide, by show 0 < 1 + la; omega, fun x hx => by
      simp only [List.mem_cons, List.not_mem_nil, or_false] at hx
      rcases hx with rfl | rfl | rfl
      · exact t2 fi hf0 hf1
      · exact hmid
      · omega⟩
    refine .cons (.set 5 sc_law_factor.nd (.callF L hr (by rfl) (.cons (.lst (.cons (.var 3 rfl (.cons (.var 4 rfl (.cons (.var 2 rfl (.nil ⟨by show 3 ≤ 2 ^ 24; decide, .nil ⟨[fi - n, (mi - n) * sg, 1 + la], rfl, ⟨fac.bd.mono (by decide), fac.ne, fac.pos⟩, ?_⟩⟩)))))))))))
    have fp := fac.plain
    have el : ([fi - n, (mi - n) * sg, 1 + la].map fun x : Int => x / (cont [fi - n, (mi - n) * sg, 1 + la] : Nat)).length = 3 := rfl
    revert fp el
    generalize ([fi - n, (mi - n) * sg, 1 + la].map fun x : Int => x / (cont [fi - n, (mi - n) * sg, 1 + la] : Nat)) = ns
    intro fp el
    have i0 : atI (ns.map PyData.int) (0 : Int) = some (.int (co ns 0)) := at_nat (i := 0) (by omega)
    have i1 : atI (ns.map PyData.int) (1 : Int) = some (.int (co ns 1)) := at_nat (i := 1) (by omega)
    have i2 : atI (ns.map PyData.int) (2 : Int) = some (.int (co ns 2)) := at_nat (i := 2) (by omega)
    refine .cons (.set 6 sc_law_factor.nd (.bin (.bin (.ix (.var 5 rfl (.int (.list i1 (.ix (.var 5 rfl (.int (.list i1 (.mul (mulok (fp.bd.co 1) (fp.bd.co 1) (by decide)) ?_))))))))))))
    refine .bin (.bin (.int (.ix (.var 5 rfl (.int (.list i0 (.mul (mulokL (by decide)) (.ix (.var 5 rfl (.int (.list i2 (.mul (mulok (a := 24) ?_ (fp.bd.co 2) (by decide)) (.sub ?_)))))))))))))
    · have := fp.bd.co 0
      rw [Int.natAbs_mul]
      show 4 * _ < 2 ^ 24
      omega
    refine .cons (.set 7 sc_law_factor.nd (.call R (hr.mono (by decide)) (by rfl) (.cons (.max2 rfl (by rfl) B.max (.int (.var 6 rfl ⟨_, _, rfl, rfl, .nil ⟨_, rfl, trivial, fun d hd => ?_⟩⟩))))))
    obtain ⟨rt, rfl, hrt⟩ := hd
    refine .one (.ite (.cmp (.bin (.var 7 rfl (.var 7 rfl (.mul (mulok hrt hrt (by decide)) (.var 6 rfl (.neI (.mk (waysN (fun _ => .one (.ret (.var 5 rfl ⟨ns, rfl, fp⟩))) fun _ => .nil ⟨_, _, _, _, _, _, rfl⟩))))))))))
  rintro _ ⟨a, b, c, d, e, g, rfl⟩
  refine .one (.ret (.callF L hr (by rfl) (.cons (.lst (.cons (.bin (.callQ 0 T (hr.mono (by decide)) (by rfl) rfl (.cons (.bin (.bin (.int (.var 1 rfl (.mul (mulokL (by decide)) (.int (.add (.nil ⟨_, rfl, by omega, fun d hd => ?_⟩))))))))))))))))
  obtain ⟨fi, rfl, hf0, hf1⟩ := hd
  refine .var 1 rfl (.sub (.cons (.bin (.int (.callQ 0 T (hr.mono (by decide)) (by rfl) rfl (.cons ?_))))))
  refine .callQ 0 G (hr.mono (by decide)) (by rfl) rfl (.cons (.lst (.cons (.int (.cons (.int (.cons (.var 1 rfl (.nil ⟨by show 3 ≤ 2 ^ 24; decide, .nil ⟨_, rfl, ⟨by simp, by show 3 ≤ 1000; decide⟩, fun d hd => ?_⟩⟩)))))))))
  have hsz : ∃ z : Int, d = .int z ∧ 0 < z ∧ z ≤ 1000000 := by
    simp only [List.mem_cons, List.not_mem_nil, or_false] at hd
    rcases hd with rfl | rfl | rfl
    · exact ⟨_, rfl, by decide, by decide⟩
    · exact ⟨_, rfl, by decide, by decide⟩
    · exact ⟨_, rfl, h1, h2⟩
  obtain ⟨z, rfl, hz0, hz1⟩ := hsz
  refine .nil ⟨z, rfl, hz0, fun d hd => ?_⟩
  obtain ⟨la, rfl, hl0, hl1⟩ := hd
  have fac : Fac [fi - n, 1 + la] := ⟨by show 2 ≤ 2; decide, by show 2 ≤ 3; decide, by show 0 < 1 + la; omega, fun x hx => by
    simp only [List.mem_cons, List.not_mem_nil, or_false] at hx
    rcases hx with rfl | rfl
    · exact t2 fi hf0 hf1
    · omega⟩
  exact .add (.nil ⟨by show 2 ≤ 2 ^ 24; decide, .nil ⟨[fi - n, 1 + la], rfl, ⟨fac.bd.mono (by decide), fac.ne, fac.pos⟩, _, rfl, fac.plain⟩⟩)
end
end K2
end

section
set_option Elab.async false
set_option linter.all false
set_option maxRecDepth 100000
set_option maxHeartbeats 4000000
set_option exponentiation.threshold 100000
/-! K2l: the law's rows that are drawn, second part. -/
namespace K2
open PySem PySem.Spec PyProof.Rows L2 PD
/-- a row that is drawn as the product of factors -/
structure Row (b l : Nat) (ns : List Int) : Prop where
  ne : ns ≠ []
  len : ns.length ≤ l
  top : lead ns ≠ 0
  bd : Bd b ns
theorem pmul_length {p q : List Int} (hp : p ≠ []) (hq : q ≠ []) : (pmul p q).length = p.length + q.length - 1 := by
  unfold pmul
  rw [if_neg (by intro z; rcases z with z | z; exact hp z; exact hq z)]
  simp
theorem co_pmul {p q : List Int} (k : Nat) : co (pmul p q) k = acc p q p.length k := by
  unfold pmul
  split
  · rename_i h
    rw [co_out (p := []) (Nat.zero_le _)]
    refine (sm_zero _ fun i _ => ?_).symm
    split
    · rcases h with rfl | rfl
      · rw [co_out (p := []) (Nat.zero_le _), Int.zero_mul]
      · rw [co_out (p := []) (Nat.zero_le _), Int.mul_zero]
    · rfl
  · rw [co_map]
    split
    · rfl
    · refine (sm_zero _ fun i hi => ?_).symm
      split
      · rw [co_out (p := q) (by omega), Int.mul_zero]
      · rfl
theorem lead_pmul {p q : List Int} (hp : p ≠ []) (hq : q ≠ []) : lead (pmul p q) = lead p * lead q := by
  have l0 : 0 < p.length := List.length_pos_iff.mpr hp
  have l1 : 0 < q.length := List.length_pos_iff.mpr hq
  unfold lead
  rw [co_pmul, pmul_length hp hq]
  unfold acc
  rw [sm_one (k := p.length - 1) (by omega) fun i hi hne => ?_]
  · rw [if_pos (by omega), show p.length + q.length - 1 - 1 - (p.length - 1) = q.length - 1 by omega]
  · split
    · rw [co_out (p := q) (by omega), Int.mul_zero]
    · rfl
theorem Row.mul {b l : Nat} {ns fs : List Int} (h : Row b l ns) (hf : Fac fs) (hl : l ≤ 100) : Row (b + 29) (l + 2) (pmul ns fs) where
  ne := fun z => by
    have := pmul_length h.ne hf.ne
    rw [z] at this
    have l0 : 0 < ns.length := List.length_pos_iff.mpr h.ne
    have := hf.l2
    simp at *
    omega
  len := by
    rw [pmul_length h.ne hf.ne]
    have := h.len
    have := hf.l3
    omega
  top := by
    rw [lead_pmul h.ne hf.ne]
    exact Int.mul_ne_zero h.top (by have := hf.pos; omega)
  bd := (h.bd.pmul hf.bd (Nat.le_trans h.len (by omega))).mono (by omega)
abbrev p_product_of : Sp := spP (ι := List (List Int) × List Int) (fun i => [.list (i.1.map LI), LI i.2]) (fun i => i.1.length ≤ 4 ∧ i.2.length = i.1.length ∧ (∀ n ∈ i.1, Fac n) ∧ ∀ x ∈ i.2, 0 ≤ x ∧ x ≤ 3) fun i d => ∃ ns, d = LI ns ∧ Row 350 25 ns
abbrev p_grown : Sp := spP (ι := List Int × Int) (fun i => [LI i.1, .int i.2]) (fun i => Bd 1000 i.1 ∧ i.2.natAbs < 2 ^ 64) fun i d => d = LI (i.1.map fun x => x * i.2)
abbrev isFrac (d : Dat) : Prop := ∃ x : Int × Int, d = pr x ∧ 0 < x.2 ∧ x.1.natAbs < 2 ^ 60 ∧ x.2.natAbs < 2 ^ 60
abbrev p_fraction : Sp := spQ (ι := Unit) (fun _ => []) (fun _ => True) fun _ d => isFrac d
theorem low_le {n d : Int} (hd : 0 < d) : 0 < (low n d).2 ∧ (low n d).1.natAbs ≤ n.natAbs ∧ (low n d).2.natAbs ≤ d.natAbs := by
  have hg : 0 < Nat.gcd n.natAbs d.natAbs := Nat.gcd_pos_of_pos_right _ (by omega)
  have dv : ((Nat.gcd n.natAbs d.natAbs : Nat) : Int) ∣ d := Int.ofNat_dvd_left.mpr (Nat.gcd_dvd_right _ _)
  exact ⟨Int.ediv_pos_of_pos_of_dvd hd (by omega) dv, natAbs_div_le n hg, natAbs_div_le d hg⟩
abbrev p_rough : Sp := spP (ι := (Bool × List Int) × (Int × Int)) (fun i => [SQ i.1.1 i.1.2, pr i.2]) (fun i => i.1.2 ≠ [] ∧ i.1.2.length ≤ 65 ∧ ∃ b c, Bd b i.1.2 ∧ i.2.1.natAbs < 2 ^ c ∧ i.2.2.natAbs < 2 ^ c ∧ b ≤ 1000000 ∧ c ≤ 10000) fun i d => d = pr (value i.1.2 i.2, i.2.2 ^ (i.1.2.length - 1))
abbrev p_is_plain : Sp := spP (ι := List Int × Nat) (fun i => [TI i.1, .int i.2]) (fun i => i.1.length = i.2 + 1 ∧ Bd 400000 i.1 ∧ 0 < lead i.1 ∧ cont i.1 = 1) fun i d => d = .bool true
abbrev p_any : Sp := spQ (ι := Nat × Int) (fun i => [.int i.1, .int i.2]) (fun i => i.1 ≤ 64 ∧ sizeOk i.2) fun i d => ∃ ns, d = LI ns ∧ ns.length = i.1 + 1 ∧ lead ns ≠ 0 ∧ Bd 21 ns
section
variable {P : Program} {w : World} {K : PD.Frag} {mg : Str → Option Value} {base : Heap} {fd : FuncData} {f : Addr}
theorem ok_factors (C : FnD P w K mg base 36 "_law_factor" p_factor) (B : Bi mg) (F : Fun K "_law_factors" "_law_factors" s_law_factors f fd) : FnOk P w K mg base CX0 37 f fd P_law_factors p_factors := by
  refine fn_okQ F sc_law_factors (fun _ => rfl) fun cdv A outer s H E po hr i hp => ?_
  obtain ⟨m, n⟩ := i
  dsimp only at hp ⊢
  obtain ⟨hm, hn⟩ := hp
  refine .cons (.setF 3 sc_law_factors.nd (.lst (.nil ⟨by decide, ?_⟩)))
  refine .cons (.for_ PassesOwn.never rfl (pg_name (i := 4) sc_law_factors.nd rfl (.inl rfl)) (gd1 4) (.range1 (by rfl) B.range (.cons (.var 1 rfl (.nil ⟨_, rfl, by omega, by show _ ≤ 2 ^ 24; omega, fun k ρ => ∃ (fs : List (List Int)) (z4 z5 : Sl), ρ = [.pool, .d (.int (m : Nat)), .d (.int n), .own (fs.map LI), z4, z5] ∧ fs.length ≤ k ∧ ∀ n ∈ fs, Fac n, ⟨[], .x, .x, rfl, Nat.le_refl _, fun n h => by cases h⟩, ?_, ?_⟩)))))
  · rintro k d _ hd ⟨fs, z4, z5, rfl, hl, hf⟩
    obtain ⟨hk, rfl⟩ := get_rng hd
    refine ⟨_, rfl, .cons (.set 5 sc_law_factors.nd (.callQ 0 C hr (by rfl) rfl (.cons (.var 2 rfl (.nil ⟨n, rfl, hn, fun d hd => ?_⟩)))))⟩
    obtain ⟨ns, rfl, hns⟩ := hd
    refine .one (.ite (.flat (.cmp (.var 5 rfl (.var 3 rfl (.notInD ?_ (LI_shaped ns) (LIs_shaped fs) (.mk (both (.one (.append 3 rfl ?_ (.var 5 rfl ⟨fs ++ [ns], .d (.int (0 + (k : Nat))), .d (LI ns), ?_, ?_, ?_⟩))) (.nil ⟨fs, _, _, rfl, by omega, hf⟩)))))))))
    · have := hr.un
      show (A.deeper _).units + 65 < cLine
      omega
    · rw [List.length_map]
      have : k < (m : Int).toNat := hk
      show _ < 2 ^ 24
      omega
    · rw [List.map_append]
      rfl
    · rw [List.length_append]
      show _ + 1 ≤ _
      omega
    · intro x hx
      rcases List.mem_append.mp hx with h | h
      · exact hf x h
      · rcases List.mem_singleton.mp h with rfl
        exact hns
  · rintro _ ⟨fs, z4, z5, rfl, hl, hf⟩
    rw [rng_len] at hl
    exact .freeze (.one (.ret (.var 3 rfl ⟨fs, rfl, by omega, hf⟩)))
theorem ok_product_of (C : FnD P w K mg base 33 "_law_product" p_lproduct) (B : Bi mg) (F : Fun K "_law_product_of" "_law_product_of" s_law_product_of f fd) : FnOk P w K mg base CX0 34 f fd P_law_product_of p_product_of := by
  refine fn_ok F sc_law_product_of (fun _ => rfl) fun cdv A outer s H E hr i hp => ?_
  obtain ⟨fs, os⟩ := i
  dsimp only at hp ⊢
  obtain ⟨hl, ho, hf, hx⟩ := hp
  refine .cons (.set 2 sc_law_product_of.nd (.lst (.cons (.int (.nil ⟨by show 1 ≤ 2 ^ 24; decide, ?_⟩)))))
  refine .cons (.for_ PassesOwn.never rfl (pg_name (i := 3) sc_law_product_of.nd rfl (.inl rfl)) (gd1 3) (.range1 (by rfl) B.range (.cons (.len (by rfl) B.len (.var 0 rfl ⟨_, .inl rfl, .nil ⟨_, rfl, by omega, by rw [List.length_map]; show _ ≤ 2 ^ 24; omega, fun k ρ => ∃ (ns : List Int) (z3 z4 : Sl), ρ = [.d (.list (fs.map LI)), .d (LI os), .d (LI ns), z3, z4] ∧ Row (29 * (3 * k) + 1) (6 * k + 1) ns, ⟨[1], .x, .x, rfl, ?_⟩, ?_, ?_⟩⟩)))))
  · exact ⟨by simp, Nat.le_refl _, by decide, fun x hx => by rcases List.mem_singleton.mp hx with rfl; decide⟩
  · rintro k d _ hd ⟨ns, z3, z4, rfl, hR⟩
    obtain ⟨hk, rfl⟩ := get_rng hd
    rw [show (0 : Int) + ((k : Nat) : Int) = (k : Nat) by omega]
    rw [List.length_map, Int.toNat_natCast] at hk
    have hox := hx _ (co_mem (p := os) (i := k) (by omega))
    have ef : atI (fs.map LI) (k : Nat) = some (LI fs[k]) := atI_nat (by rw [List.getElem?_map, List.getElem?_eq_getElem hk]; rfl)
    refine ⟨_, rfl, .one ?_⟩
    refine .for_ PassesOwn.never rfl (pg_name (i := 4) sc_law_product_of.nd rfl (.inl rfl)) (gd1 4) (.range1 (by rfl) B.range (.cons (.ix (.var 1 rfl (.var 3 rfl (.list (at_nat (ns := os) (by omega)) (.nil ⟨_, rfl, ?_, ?_, fun j ρ => ∃ (ns : List Int) (z4 : Sl), ρ = [.d (.list (fs.map LI)), .d (LI os), .d (LI ns), .d (.int (k : Nat)), z4] ∧ Row (29 * (3 * k + j) + 1) (6 * k + 2 * j + 1) ns, ⟨ns, z4, rfl, hR⟩, ?_, ?_⟩)))))))
    · have := hox.1
      show -(2 ^ 62) ≤ co os k
      omega
    · have := hox.2
      show (co os k).toNat ≤ 2 ^ 24
      omega
    · rintro j d _ hd ⟨ns, z4, rfl, hR⟩
      obtain ⟨hj, rfl⟩ := get_rng hd
      have hj : j < (co os k).toNat := hj
      have hff := hf fs[k] (List.getElem_mem hk)
      have hlen := hR.len
      refine ⟨_, rfl, .one (.set 2 sc_law_product_of.nd (.callF C hr (by rfl) (.cons (.var 2 rfl (.cons (.ix (.var 0 rfl (.var 3 rfl (.list ef (.nil ⟨(ns, fs[k]), rfl, ⟨⟨_, _, hR.bd, hff.bd, by omega⟩, hR.ne, hff.ne, by dsimp only; omega, by have := hff.l3; dsimp only; omega⟩, pmul ns fs[k], _, rfl, ?_⟩))))))))))⟩
      have := hR.mul hff (by omega)
      exact ⟨this.ne, Nat.le_trans this.len (by omega), this.top, this.bd.mono (by omega)⟩
    · rintro _ ⟨ns, z4, rfl, hR⟩
      rw [rng_len] at hR
      have : (os.getD k 0).toNat ≤ 3 := by have := hox.2; show (co os k).toNat ≤ 3; omega
      exact ⟨ns, _, z4, rfl, hR.ne, Nat.le_trans hR.len (by omega), hR.top, hR.bd.mono (by omega)⟩
  · rintro _ ⟨ns, z3, z4, rfl, hR⟩
    rw [rng_len, List.length_map, Int.toNat_natCast] at hR
    exact .one (.ret (.var 2 rfl ⟨ns, rfl, hR.ne, Nat.le_trans hR.len (by omega), hR.top, hR.bd.mono (by omega)⟩))
theorem ok_grown (F : Fun K "_law_grown" "_law_grown" s_law_grown f fd) : FnOk P w K mg base CX0 33 f fd P_law_grown p_grown := by
  refine fn_ok F sc_law_grown (fun _ => rfl) fun cdv A outer s H E hr i hp => ?_
  obtain ⟨p, z⟩ := i
  obtain ⟨h1, h2⟩ := hp
  refine .one (.ret (.lcI 2 rfl sc_law_grown.nd (⟨rfl, by decide +kernel, by decide +kernel, by decide +kernel, by decide +kernel⟩ : BlkOk N_law_grown (defScope s_law_grown) _ [("number", 2)]) (fun _ _ _ _ _ => pg_name (i := 2) sc_law_grown.nd rfl (.inl rfl)) (.var 0 rfl ⟨p, true, rfl, fun x => x * z, fun i hi s' H' Cc cl fp => ?_, rfl⟩)))
  exact .bin (.var 2 rfl (.var 1 rfl (.mul (mulok (h1.co i) h2 (by decide)) rfl)))
theorem ok_fraction (T : FnD P w K mg base 35 "_law_below" p_below) (G : FnD P w K mg base 35 "_law_pick" p_pick) (L : FnD P w K mg base 34 "_law_lowest" p_lowest) (F : Fun K "_law_fraction" "_law_fraction" s_law_fraction f fd) : FnOk P w K mg base CX0 36 f fd P_law_fraction p_fraction := by
  refine fn_okQ F sc_law_fraction (fun _ => rfl) fun cdv A outer s H E po hr _ _ => ?_
  refine .cons (.set 1 sc_law_fraction.nd (.callQ 0 G hr (by rfl) rfl (.cons (.lst (.cons (.int (.cons (.int (.cons (.int (.cons (.bin (.int (.int (.pow ⟨by decide, by decide, by decide⟩ (.cons (.bin (.int (.int (.pow ⟨by decide, by decide, by decide⟩ (.nil ⟨by show 5 ≤ 2 ^ 24; decide, .nil ⟨_, rfl, ⟨by simp, by show 5 ≤ 1000; decide⟩, fun d hd => ?_⟩⟩)))))))))))))))))))))
  have hsz : ∃ n : Int, d = .int n ∧ 0 < n ∧ n ≤ 10 ^ 12 := by
    simp only [List.mem_cons, List.not_mem_nil, or_false] at hd
    rcases hd with rfl | rfl | rfl | rfl | rfl
    all_goals exact ⟨_, rfl, by decide, by decide⟩
  obtain ⟨n, rfl, hn0, hn1⟩ := hsz
  have e12 : (10 : Int) ^ 12 = 1000000000000 := by decide
  refine .cons (.set 2 sc_law_fraction.nd (.bin (.callQ 0 T hr (by rfl) rfl (.cons (.bin (.bin (.int (.var 1 rfl (.mul (mulokL (by decide)) (.int (.add (.nil ⟨_, rfl, by omega, fun d hd => ?_⟩))))))))))))
  obtain ⟨tp, rfl, ht0, ht1⟩ := hd
  refine .var 1 rfl (.sub ?_)
  refine .one (.ret (.callF L (hr.mono (by decide)) (by rfl) (.cons (.var 2 rfl (.cons (.bin (.int (.callQ 0 T hr (by rfl) rfl (.cons ?_)))))))))
  refine .callQ 0 G hr (by rfl) rfl (.cons (.lst (.cons (.int (.cons (.int (.cons (.var 1 rfl (.nil ⟨by show 3 ≤ 2 ^ 24; decide, .nil ⟨_, rfl, ⟨by simp, by show 3 ≤ 1000; decide⟩, fun d hd => ?_⟩⟩)))))))))
  have hsz : ∃ z : Int, d = .int z ∧ 0 < z ∧ z ≤ 10 ^ 12 := by
    simp only [List.mem_cons, List.not_mem_nil, or_false] at hd
    rcases hd with rfl | rfl | rfl
    · exact ⟨_, rfl, by decide, by decide⟩
    · exact ⟨_, rfl, by decide, by decide⟩
    · exact ⟨_, rfl, hn0, hn1⟩
  obtain ⟨z, rfl, hz0, hz1⟩ := hsz
  refine .nil ⟨z, rfl, hz0, fun d hd => ?_⟩
  obtain ⟨b, rfl, hb0, hb1⟩ := hd
  refine .add (.nil ⟨(tp - n, 1 + b), rfl, ⟨by dsimp only; omega, ?_, ?_⟩, ?_⟩)
  · have : (tp - n).natAbs < 2 ^ 60 := by omega
    exact Nat.lt_of_lt_of_le this (le_two (by decide))
  · have : (1 + b).natAbs < 2 ^ 60 := by omega
    exact Nat.lt_of_lt_of_le this (le_two (by decide))
  · have q := low_le (n := tp - n) (d := 1 + b) (by omega)
    exact ⟨low (tp - n) (1 + b), rfl, q.1, Nat.lt_of_le_of_lt q.2.1 (by omega), Nat.lt_of_le_of_lt q.2.2 (by omega)⟩
end
end K2
end

section
set_option Elab.async false
set_option linter.all false
set_option maxRecDepth 100000
set_option maxHeartbeats 4000000
set_option exponentiation.threshold 100000
/-! K2m: the law's comparisons. -/
namespace K2
open PySem PySem.Spec PyProof.Rows L2 PD
abbrev pairs (xs : List (Int × Int)) : Dat := .list (xs.map pr)
def at2 (xs : List (Int × Int)) (k : Nat) : Int × Int := xs.getD k (0, 0)
structure Alike (xs ys : List (Int × Int)) : Prop where
  len : xs.length = ys.length
  le : xs.length ≤ 65
  bx : ∀ k, (at2 xs k).1.natAbs < 2 ^ 1000000 ∧ (at2 xs k).2.natAbs < 2 ^ 1000000
  bY : ∀ k, (at2 ys k).1.natAbs < 2 ^ 1000000 ∧ (at2 ys k).2.natAbs < 2 ^ 1000000
  some_ : ∃ k, k < ys.length ∧ (at2 ys k).1 ≠ 0
  den : ∀ k, k < xs.length → (at2 xs k).2 ≠ 0 ∧ (at2 ys k).2 ≠ 0
  eq : ∃ u v : Int, u ≠ 0 ∧ v ≠ 0 ∧ ∀ k, k < xs.length → (at2 xs k).1 * u * (at2 ys k).2 = (at2 ys k).1 * v * (at2 xs k).2
abbrev p_alike : Sp := spP (ι := List (Int × Int) × List (Int × Int)) (fun i => [pairs i.1, pairs i.2]) (fun i => Alike i.1 i.2) fun i d => d = .bool true
theorem at_pr {xs : List (Int × Int)} {k : Nat} (h : k < xs.length) : atI (xs.map pr) (k : Int) = some (pr (at2 xs k)) := by
  refine atI_nat ?_
  rw [List.getElem?_map, List.getElem?_eq_getElem h]
  simp [at2, List.getD, h]
theorem Alike.all {xs ys : List (Int × Int)} (A : Alike xs ys) {c k : Nat} (hc : c < xs.length) (hk : k < xs.length) : (at2 xs k).1 * ((at2 ys c).1 * (at2 xs c).2) * (at2 ys k).2 = (at2 ys k).1 * ((at2 xs c).1 * (at2 ys c).2) * (at2 xs k).2 := by
  obtain ⟨u, v, hu, hv, h⟩ := A.eq
  have h1 := h k hk
  have h2 := h c hc
  have huv : u * v ≠ 0 := Int.mul_ne_zero hu hv
  refine Int.eq_of_mul_eq_mul_left huv ?_
  have e1 : u * v * ((at2 xs k).1 * ((at2 ys c).1 * (at2 xs c).2) * (at2 ys k).2) = ((at2 xs k).1 * u * (at2 ys k).2) * ((at2 ys c).1 * v * (at2 xs c).2) := by ac_rfl
  have e2 : u * v * ((at2 ys k).1 * ((at2 xs c).1 * (at2 ys c).2) * (at2 xs k).2) = ((at2 ys k).1 * v * (at2 xs k).2) * ((at2 xs c).1 * u * (at2 ys c).2) := by ac_rfl
  rw [e1, e2, h1, h2]
def chosen (ys : List (Int × Int)) (n : Nat) : List Nat := (List.range n).filter fun k => !decide ((at2 ys k).1 = 0)
theorem chosen_succ (ys : List (Int × Int)) (n : Nat) : chosen ys (n + 1) = if (at2 ys n).1 = 0 then chosen ys n else chosen ys n ++ [n] := by
  unfold chosen
  rw [List.range_succ, List.filter_append]
  by_cases h : (at2 ys n).1 = 0
  · rw [if_pos h]; simp [h]
  · rw [if_neg h]; simp [h]
theorem chosen_head {xs ys : List (Int × Int)} (A : Alike xs ys) : ∃ c r, chosen ys ys.length = c :: r ∧ c < ys.length ∧ (at2 ys c).1 ≠ 0 := by
  obtain ⟨k, hk, h0⟩ := A.some_
  have hm : k ∈ chosen ys ys.length := List.mem_filter.mpr ⟨List.mem_range.mpr hk, by simp [h0]⟩
  cases e : chosen ys ys.length with
  | nil => rw [e] at hm; cases hm
  | cons c r =>
    have hc : c ∈ chosen ys ys.length := by rw [e]; exact List.mem_cons_self ..
    obtain ⟨h1, h2⟩ := List.mem_filter.mp hc
    exact ⟨c, r, rfl, List.mem_range.mp h1, by simpa using h2⟩
section
variable {P : Program} {w : World} {K : PD.Frag} {mg : Str → Option Value} {base : Heap} {fd : FuncData} {f : Addr}
theorem ok_rough (V : FnD P w K mg base 33 "_law_value" p_value) (L : FnD P w K mg base 33 "_law_power" p_lpower) (B : Bi mg) (F : Fun K "_law_rough" "_law_rough" s_law_rough f fd) : FnOk P w K mg base CX0 34 f fd P_law_rough p_rough := by
  refine fn_ok F sc_law_rough (fun _ => rfl) fun cdv A outer s H E hr i hp => ?_
  obtain ⟨⟨sq, p⟩, x⟩ := i
  dsimp only at hp ⊢
  obtain ⟨hne, hl, b, c, hb, hu, hv, hb1, hc1⟩ := hp
  have l0 : 0 < p.length := List.length_pos_iff.mpr hne
  have b1 : c * (p.length - 1 + 1) ≤ c * 65 := Nat.mul_le_mul_left _ (by omega)
  refine .one (.ret (.tup (.cons (.callF V hr (by rfl) (.cons (.var 0 rfl (.cons (.var 1 rfl (.nil ⟨((sq, p), x), rfl, ⟨hl, b, c, hb, hu, hv, hb1, hc1⟩, ?_⟩)))))))))
  refine .cons (.callF L hr (by rfl) (.cons (.ix (.var 1 rfl (.int (ix_pr1 (.cons (.max2 rfl (by rfl) B.max (.int (.bin (.len (by rfl) B.len (.var 0 rfl ⟨_, sq_or sq p, .int (.sub ⟨_, _, rfl, rfl, .nil ⟨(x.2, p.length - 1), ?_, ⟨by dsimp only; omega, c, hv, by dsimp only; omega⟩, .nil ⟨by show 2 ≤ 2 ^ 24; decide, rfl⟩⟩⟩)⟩))))))))))))
  show [PyData.int _, PyData.int _] = [PyData.int _, PyData.int _]
  rw [List.length_map, show max (0 : Int) ((p.length : Int) - 1) = ((p.length - 1 : Nat) : Int) by omega]
theorem ok_is_plain (C : FnD P w K mg base 33 "_law_is_integer" p_is_integer) (D : FnD P w K mg base 34 "_law_content" p_lcontent) (B : Bi mg) (F : Fun K "_law_is_plain" "_law_is_plain" s_law_is_plain f fd) : FnOk P w K mg base CX0 35 f fd P_law_is_plain p_is_plain := by
  refine fn_ok F sc_law_is_plain (fun _ => rfl) fun cdv A outer s H E hr i hp => ?_
  obtain ⟨p, n⟩ := i
  dsimp only at hp ⊢
  obtain ⟨hl, hb, h0, h1⟩ := hp
  have hne : p ≠ [] := fun z => by rw [z] at hl; exact absurd hl (by simp)
  have ea : (p.map fun _ => true).all id = true := by simp
  refine .cons (.ite (JTw.jt (.or (.not (.val (.isi (by rfl) B.isi (by rfl) B.tuple boot_tuple' (by decide) (by decide) (.var 0 rfl ⟨true, by rfl, .mk (no (.or (.cmp ?_)))⟩)))))))
  refine .len (by rfl) B.len (.var 0 rfl ⟨_, .inr rfl, .bin (.var 1 rfl (.int (.add (.neI (.mk (waysN (fun h => absurd ?_ h) fun h => ?_))))))⟩)
  · rw [List.length_map, hl]; omega
  refine .or1 (.not (.val (.all rfl (by rfl) B.all (.lcm rfl sc_law_is_plain.nd (⟨rfl, by decide +kernel, by decide +kernel, by decide +kernel, by decide +kernel⟩ : BlkOk N_law_is_plain (defScope s_law_is_plain) _ [("part", 2)]) (fun _ _ _ _ _ => pg_name (i := 2) sc_law_is_plain.nd rfl (.inl rfl)) (gd1 2)
    (.seq (.var 0 rfl ⟨p.map .int, .inr rfl, (p.map fun _ => true).map .bool, by simp, fun i d r h1 h2 => ?_, p.map fun _ => true, rfl, ?_⟩))))))
  · obtain ⟨hi, rfl⟩ := get_ints h1
    obtain ⟨b, hb, rfl⟩ := get_map h2
    obtain ⟨_, _, rfl⟩ := get_map hb
    exact ⟨_, rfl, fun s' H' Cc cl fp => .call C (hr.mono (by decide)) (by rfl) (.cons (.var 2 rfl (.nil ⟨_, rfl, trivial, fun d hd => hd⟩)))⟩
  rw [ea]
  refine .mk (no (.nil (.one (.ret (.and (.cmp (.ix (.var 0 rfl (.neg (.int ⟨1, rfl, .tup (at_last hne) (.int (.gt (.mk (ways (fun h => ?_) fun h => absurd h0 h))))⟩))))))))))
  refine .one (.cmp (.callF D (hr.mono (by decide)) (by rfl) (.cons (.var 0 rfl (.nil ⟨(false, p), rfl, hb, .int (.eqI ?_)⟩)))))
  show PyData.bool (decide (((cont p : Nat) : Int) = 1)) = PyData.bool true
  rw [h1]
  rfl
theorem ok_alike (B : Bi mg) (F : Fun K "_law_alike" "_law_alike" s_law_alike f fd) : FnOk P w K mg base CX0 33 f fd P_law_alike p_alike := by
  refine fn_ok F sc_law_alike (fun _ => rfl) fun cdv A outer s H E hr i hp => ?_
  obtain ⟨xs, ys⟩ := i
  dsimp only at hp ⊢
  obtain ⟨c, r, ech, hc, hc0⟩ := chosen_head hp
  have hcx : c < xs.length := by rw [hp.len]; exact hc
  have hle := hp.le
  have hlen := hp.len
  refine .cons (.setLc 2 rfl sc_law_alike.nd (⟨rfl, by decide +kernel, by decide +kernel, by decide +kernel, by decide +kernel⟩ : BlkOk N_law_alike (defScope s_law_alike) _ [("k", 3)]) (fun _ _ _ _ _ => pg_name (i := 3) sc_law_alike.nd rfl (.inl rfl)) (gd1 3) (by decide)
    (.range1 (by rfl) B.range (.cons (.len (by rfl) B.len (.var 1 rfl ⟨_, .inl rfl, .nil ⟨_, rfl, by omega, by rw [List.length_map]; show _ ≤ 2 ^ 24; omega, fun i acc => acc = (chosen ys i).map fun k => PyData.int (k : Nat), rfl, ?_, ?_⟩⟩)))))
  · rintro i d acc hd _ rfl
    obtain ⟨hi, rfl⟩ := get_rng hd
    rw [show (0 : Int) + ((i : Nat) : Int) = (i : Nat) by omega]
    rw [List.length_map, Int.toNat_natCast] at hi
    refine ⟨_, rfl, fun s' H' Cc cl fp => .cmp (.ix (.ix (.var 1 rfl (.var 3 rfl (.list (at_pr hi) (.int (ix_pr0 (.int (.neI (.mk (waysN (fun h => fun s' H' Cc cl fp => .var 3 rfl ?_) fun h => ?_)))))))))))⟩
    · show _ = _
      rw [chosen_succ, if_neg h, List.map_append]
      rfl
    · show _ = _
      rw [chosen_succ, if_pos h]
  · rintro acc _ rfl
    rw [rng_len, List.length_map, Int.toNat_natCast, ech]
    have ix0 : atI ((c :: r).map fun k => PyData.int (k : Nat)) 0 = some (.int (c : Nat)) := atI_nat (j := 0) rfl
    have hx0 : (at2 xs c).1 ≠ 0 := fun z => by
      obtain ⟨u, v, hu, hv, h⟩ := hp.eq
      have := h c hcx
      rw [z, Int.zero_mul, Int.zero_mul] at this
      exact Int.mul_ne_zero (Int.mul_ne_zero hc0 hv) (hp.den c hcx).1 this.symm
    refine .cons (.ite (JTw.jt (.or (.not (.tru (.var 2 rfl ⟨true, rfl, no (.or1 (.cmp ?_))⟩))))))
    refine .ix (.ix (.var 0 rfl (.ix (.var 2 rfl (.int (.list ix0 (.list (at_pr hcx) (.int (ix_pr0 (.int (.eqI (.mk (ways (fun h => absurd h hx0) fun h => .nil ?_)))))))))))))
    refine .cons (.par 4 5 rfl sc_law_alike.nd (by decide) (.cons (.ix (.var 0 rfl (.ix (.var 2 rfl (.int (.list ix0 (.list (at_pr hcx) (.cons (.ix (.var 1 rfl (.ix (.var 2 rfl (.int (.list ix0 (.list (at_pr hc) (.nil ⟨_, _, rfl, ?_⟩))))))))))))))))))
    have bx := hp.bx
    have bY := hp.bY
    refine .cons (.asg (pg_tup rfl (pgs_cons (pg_name (i := 6) sc_law_alike.nd rfl (.inr rfl)) (pgs_cons (pg_name (i := 7) sc_law_alike.nd rfl (.inr rfl)) pgs_nil))) (gd2 (by decide)) (.tup (.cons (.bin (.ix (.var 5 rfl (.int (ix_pr0 (.ix (.var 4 rfl (.int (ix_pr1 (.mul (mulok (bY c).1 (bx c).2 (by decide)) ?_)))))))))))))
    refine .cons (.bin (.ix (.var 4 rfl (.int (ix_pr0 (.ix (.var 5 rfl (.int (ix_pr1 (.mul (mulok (bx c).1 (bY c).2 (by decide)) (.nil ⟨by show 2 ≤ 2 ^ 24; decide, _, ⟨_, _, rfl, rfl⟩, ?_⟩)))))))))))
    have eb : (List.range xs.length).map (fun _ => PyData.bool true) = ((List.range xs.length).map fun _ => true).map PyData.bool := by rw [List.map_map]; rfl
    refine .one (.ret (.all rfl (by rfl) B.all (.lcR 3 rfl sc_law_alike.nd (⟨rfl, by decide +kernel, by decide +kernel, by decide +kernel, by decide +kernel⟩ : BlkOk N_law_alike (defScope s_law_alike) _ [("k", 3)]) (fun _ _ _ _ _ => pg_name (i := 3) sc_law_alike.nd rfl (.inl rfl)) (by rfl) B.range
      (.len (by rfl) B.len (.var 0 rfl ⟨_, .inl rfl, xs.length, by rw [List.length_map], by omega, fun _ => .bool true, fun k hk s' H' Cc cl fp => ?_, (List.range xs.length).map fun _ => true, by rw [eb], by simp⟩)))))
    have hky : k < ys.length := by omega
    have hL := lt_mul (bY c).1 (bx c).2
    have hR := lt_mul (bx c).1 (bY c).2
    refine .cmp (.bin (.bin (.ix (.ix (.var 0 rfl (.var 3 rfl (.list (at_pr hk) (.int (ix_pr0 (.var 6 rfl (.mul (mulok (bx k).1 hL (by decide)) ?_)))))))))))
    refine .ix (.ix (.var 1 rfl (.var 3 rfl (.list (at_pr hky) (.int (ix_pr1 (.mul (mulok (lt_mul (bx k).1 hL) (bY k).2 (by decide)) ?_)))))))
    refine .bin (.bin (.ix (.ix (.var 1 rfl (.var 3 rfl (.list (at_pr hky) (.int (ix_pr0 (.var 7 rfl (.mul (mulok (bY k).1 hR (by decide)) ?_))))))))))
    refine .ix (.ix (.var 0 rfl (.var 3 rfl (.list (at_pr hk) (.int (ix_pr1 (.mul (mulok (lt_mul (bY k).1 hR) (bx k).2 (by decide)) (.eqI ?_))))))))
    rw [decide_eq_true (hp.all hcx hk)]
end
abbrev p_whole_sums : Sp := spP (ι := (Bool × List Int) × Nat) (fun i => [SQ i.1.1 i.1.2, .int i.2]) (fun i => i.1.2 ≠ [] ∧ i.1.2.length ≤ 65 ∧ 0 < i.2 ∧ i.2 ≤ 65 ∧ ∃ b, Bd b i.1.2 ∧ b ≤ 400000) fun i d => d = .tuple [LI (pwl (mon i.1.2) i.2), .int (lead i.1.2)]
theorem pwl_const {p : List Int} (h : p.length = 1) (m : Nat) : pwl (mon p) m = List.replicate m 0 := by
  have hne : p ≠ [] := fun z => by rw [z] at h; exact absurd h (by simp)
  have key : ∀ k, psum (mon p) k = 0 := fun k => by
    by_cases h0 : k = 0
    · subst h0
      rw [psum_zero, mon_len hne, h]
      rfl
    · rw [psum_pos _ h0, mon_len hne, h, if_neg (by omega)]
      simp [sm]
  refine row_ext (by simp [pwl, bl_len]) fun i hi => ?_
  rw [pwl, bl_len] at hi
  rw [co_pwl hi, key]
  simp [co, List.getD, hi]
section
variable {P : Program} {w : World} {K : PD.Frag} {mg : Str → Option Value} {base : Heap} {fd : FuncData} {f : Addr}
theorem ok_whole_sums (L : FnD P w K mg base 33 "_law_power" p_lpower) (S : FnD P w K mg base 33 "_law_power_sums" p_lpower_sums) (B : Bi mg) (F : Fun K "_law_whole_sums" "_law_whole_sums" s_law_whole_sums f fd) : FnOk P w K mg base CX0 34 f fd P_law_whole_sums p_whole_sums := by
  refine fn_ok F sc_law_whole_sums (fun _ => rfl) fun cdv A outer s H E hr i hp => ?_
  obtain ⟨⟨sq, p⟩, many⟩ := i
  dsimp only at hp ⊢
  obtain ⟨hne, hl, hm0, hm, b, hb, hb1⟩ := hp
  have l0 : 0 < p.length := List.length_pos_iff.mpr hne
  have el : ((p.map PyData.int).length : Int) - 1 = ((p.length - 1 : Nat) : Int) := by rw [List.length_map]; omega
  refine .cons (.asg (pg_tup rfl (pgs_cons (pg_name (i := 2) sc_law_whole_sums.nd rfl (.inr rfl)) (pgs_cons (pg_name (i := 3) sc_law_whole_sums.nd rfl (.inr rfl)) pgs_nil))) (gd2 (by decide)) (.tup (.cons (.ix (.var 0 rfl (.neg (.int ⟨1, rfl, ix_sq (at_last hne) (.cons (.bin (.len (by rfl) B.len (.var 0 rfl ⟨_, sq_or sq p, .int (.sub (.nil ⟨by show 2 ≤ 2 ^ 24; decide, _, ⟨_, _, rfl, rfl⟩, ?_⟩))⟩))))⟩)))))))
  rw [el]
  refine .cons (.ite (.cmp (.var 3 rfl (.int (.eqI (.mk (ways (fun h => ?_) fun h => .nil ?_)))))))
  · have h1 : p.length = 1 := by omega
    refine .one (.ret (.tup (.cons (.bin (.lst (.cons (.int (.nil ⟨by show 1 ≤ 2 ^ 24; decide, .var 1 rfl (.repL (by omega) (by omega) (by show 1 * _ ≤ 2 ^ 24; omega) (.cons (.var 2 rfl (.nil ⟨by show 2 ≤ 2 ^ 24; decide, ?_⟩))))⟩))))))))
    show PyData.tuple [PyData.list _, _] = PyData.tuple [PyData.list _, _]
    rw [rep0, pwl_const h1, Int.toNat_natCast]
    rfl
  refine .cons (.set 4 sc_law_whole_sums.nd (.bin (.lcR 5 rfl sc_law_whole_sums.nd (⟨rfl, by decide +kernel, by decide +kernel, by decide +kernel, by decide +kernel⟩ : BlkOk N_law_whole_sums (defScope s_law_whole_sums) _ [("k", 5)]) (fun _ _ _ _ _ => pg_name (i := 5) sc_law_whole_sums.nd rfl (.inl rfl)) (by rfl) B.range
    (.var 3 rfl ⟨p.length - 1, rfl, by omega, fun i => .int (co p i * lead p ^ (p.length - 2 - i)), fun i hi s' H' Cc cl fp => ?_, .lst (.cons (.int (.nil ⟨by show 1 ≤ 2 ^ 24; decide, .catL ?_ ?_⟩)))⟩))))
  · have b1 : b * (p.length - 2 - i + 1) ≤ b * 65 := Nat.mul_le_mul_left _ (by omega)
    have b2 : b * (p.length - 2 - i) ≤ b * 65 := Nat.mul_le_mul_left _ (by omega)
    refine .bin (.ix (.var 0 rfl (.var 5 rfl (ix_sq (at_nat (by omega)) (.callF L hr (by rfl) (.cons (.var 2 rfl (.cons (.bin (.bin (.var 3 rfl (.int (.sub (.var 5 rfl (.sub (.nil ⟨(lead p, p.length - 2 - i), ?_, ⟨by dsimp only; omega, b, hb.co _, by dsimp only; omega⟩, .mul (mulok (hb.co i) (pow_lt (hb.co _) _) (by dsimp only; omega)) rfl⟩))))))))))))))))
    show [PyData.int _, PyData.int _] = [PyData.int _, PyData.int _]
    rw [show ((p.length - 1 : Nat) : Int) - 1 - (i : Int) = ((p.length - 2 - i : Nat) : Int) by omega]
    rfl
  · simp
    show _ ≤ 2 ^ 24
    omega
  have em : (List.range (p.length - 1)).map (fun i => PyData.int (co p i * lead p ^ (p.length - 2 - i))) ++ [PyData.int 1] = (mon p).map PyData.int := by
    unfold mon
    rw [List.map_append, List.map_map]
    rfl
  rw [em]
  have ml := mon_len hne
  refine .one (.ret (.tup (.cons (.callF S hr (by rfl) (.cons (.var 4 rfl (.cons (.var 1 rfl (.nil ⟨(mon p, many), rfl, ⟨mon_ne hne, by dsimp only; omega, hm0, hm, b, mon_gb hb hne, by omega⟩, .cons (.var 2 rfl (.nil ⟨by show 2 ≤ 2 ^ 24; decide, rfl⟩))⟩)))))))))
theorem ok_any (T : FnD P w K mg base 35 "_law_below" p_below) (G : FnD P w K mg base 35 "_law_pick" p_pick) (B : Bi mg) (F : Fun K "_law_any" "_law_any" s_law_any f fd) : FnOk P w K mg base CX0 36 f fd P_law_any p_any := by
  refine fn_okQ F sc_law_any (fun _ => rfl) fun cdv A outer s H E po hr i hp => ?_
  obtain ⟨m, n⟩ := i
  dsimp only at hp ⊢
  obtain ⟨hm, h1, h2⟩ := hp
  refine .cons (.setLc 3 rfl sc_law_any.nd (⟨rfl, by decide +kernel, by decide +kernel, by decide +kernel, by decide +kernel⟩ : BlkOk N_law_any (defScope s_law_any) _ [("k", 4)]) (fun _ _ _ _ _ => pg_name (i := 4) sc_law_any.nd rfl (.inl rfl)) (gd1 4) (by decide)
    (.range1 (by rfl) B.range (.cons (.var 1 rfl (.nil ⟨_, rfl, by omega, by show _ ≤ 2 ^ 24; omega, fun i acc => ∃ ns : List Int, acc = ns.map PyData.int ∧ ns.length = i ∧ Bd 21 ns, ⟨[], rfl, rfl, fun x hx => by cases hx⟩, ?_, ?_⟩)))))
  · rintro i d acc hd _ ⟨ns, rfl, hl, hb⟩
    obtain ⟨hi, rfl⟩ := get_rng hd
    refine ⟨_, rfl, fun s' H' Cc cl fp => .bin (.callQ 0 T hr (by rfl) rfl (.cons (.bin (.bin (.int (.var 2 rfl (.mul (mulokL (by decide)) (.int (.add (.nil ⟨_, rfl, by omega, fun d hd => ?_⟩))))))))))⟩
    obtain ⟨z, rfl, hz0, hz1⟩ := hd
    refine .var 2 rfl (.sub ⟨ns ++ [z - n], by rw [List.map_append]; rfl, by rw [List.length_append, hl]; rfl, fun x hx => ?_⟩)
    rcases List.mem_append.mp hx with h | h
    · exact hb x h
    · rcases List.mem_singleton.mp h with rfl
      omega
  · rintro acc _ ⟨ns, rfl, hl, hb⟩
    rw [rng_len, Int.toNat_natCast] at hl
    refine .one (.ret (.bin (.var 3 rfl (.lst (.cons (.bin (.bin (.int (.callQ 0 T hr (by rfl) rfl (.cons (.var 2 rfl (.nil ⟨n, rfl, h1, fun d hd => ?_⟩))))))))))))
    obtain ⟨z, rfl, hz0, hz1⟩ := hd
    refine .add (.callQ 0 G hr (by rfl) rfl (.cons (.lst (.cons (.int (.cons (.int (.cons (.neg (.int ⟨1, rfl, .nil ⟨by show 3 ≤ 2 ^ 24; decide, .nil ⟨_, rfl, ⟨by simp, by show 3 ≤ 1000; decide⟩, fun d hd => ?_⟩⟩⟩))))))))))
    have hs : ∃ y : Int, d = .int y ∧ (y = 1 ∨ y = -1) := by
      simp only [List.mem_cons, List.not_mem_nil, or_false] at hd
      rcases hd with rfl | rfl | rfl
      · exact ⟨_, rfl, .inl rfl⟩
      · exact ⟨_, rfl, .inl rfl⟩
      · exact ⟨_, rfl, .inr rfl⟩
    obtain ⟨y, rfl, hy⟩ := hs
    refine .mul (mulokR (by rcases hy with rfl | rfl <;> decide)) (.nil ⟨by show 1 ≤ 2 ^ 24; decide, .catL ?_ ⟨ns ++ [(1 + z) * y], by show PyData.list _ = PyData.list (List.map _ (ns ++ [_])); rw [List.map_append]; rfl, by rw [List.length_append, hl]; rfl, ?_, fun x hx => ?_⟩⟩)
    · rw [List.length_map]
      show _ + 1 ≤ 2 ^ 24
      omega
    · unfold lead
      rw [List.length_append, show ns.length + [(1 + z) * y].length - 1 = ns.length from rfl, co_last]
      exact Int.mul_ne_zero (by omega) (by rcases hy with rfl | rfl <;> decide)
    · rcases List.mem_append.mp hx with h | h
      · exact hb x h
      · rcases List.mem_singleton.mp h with rfl
        rcases hy with rfl | rfl <;> omega
end
end K2
end

section
set_option Elab.async false
set_option linter.all false
set_option maxRecDepth 100000
set_option maxHeartbeats 4000000
set_option exponentiation.threshold 100000
/-! K2n: a drawn row; like with like. -/
namespace K2
open PySem PySem.Spec PyProof.Rows L2 PD
abbrev p_one : Sp := spQ (ι := Unit) (fun _ => []) (fun _ => True) fun _ d => ∃ ns, d = LI ns ∧ Row 360 25 ns
/-- ints, tuples of ints, tuples of these .. -/
def shp : Nat → Dat → Prop
  | 0, d => ∃ i, d = .int i
  | n + 1, d => ∃ ds, d = .tuple ds ∧ ds.length ≤ 1000 ∧ ∀ x ∈ ds, shp n x
abbrev p_same (n : Nat) : Sp := spP (ι := Dat) (fun d => [d, d]) (fun d => shp n d) fun _ d => d = .bool true
theorem kit_it : kitB "int" "tuple" = some false := by decide +kernel
theorem kit_il : kitB "int" "list" = some false := by decide +kernel
theorem kit_is : kitB "int" "str" = some false := by decide +kernel
theorem kit_tt : kitB "tuple" "tuple" = some true := by decide +kernel
theorem boot_str' : bootBuiltins "str" = some (.type "str") := by decide +kernel
section
variable {P : Program} {w : World} {K : PD.Frag} {mg : Str → Option Value} {base : Heap} {fd : FuncData} {f : Addr}
theorem ok_one (T : FnD P w K mg base 34 "_law_take" p_take) (G : FnD P w K mg base 35 "_law_pick" p_pick) (Y : FnD P w K mg base 36 "_law_any" p_any) (S : FnD P w K mg base 37 "_law_factors" p_factors) (O : FnD P w K mg base 34 "_law_product_of" p_product_of) (W : FnD P w K mg base 33 "_law_grown" p_grown) (B : Bi mg)
    (F : Fun K "_law_one" "_law_one" s_law_one f fd) : FnOk P w K mg base CX0 38 f fd P_law_one p_one := by
  refine fn_okQ F sc_law_one (fun _ => rfl) fun cdv A outer s H E po hr _ _ => ?_
  refine .cons (.set 1 sc_law_one.nd (.callQ 0 G (hr.mono (by decide)) (by rfl) rfl (.cons (.lst (.cons (.int (.cons (.int (.cons (.bin (.int (.int (.pow ⟨by decide, by decide, by decide⟩ (.nil ⟨by show 3 ≤ 2 ^ 24; decide, .nil ⟨_, rfl, ⟨by simp, by show 3 ≤ 1000; decide⟩, fun d hd => ?_⟩⟩))))))))))))))
  have hsz : ∃ n : Int, d = .int n ∧ sizeOk n := by
    simp only [List.mem_cons, List.not_mem_nil, or_false] at hd
    rcases hd with rfl | rfl | rfl
    all_goals exact ⟨_, rfl, by decide, by decide⟩
  obtain ⟨n, rfl, hn⟩ := hsz
  refine .cons (.ite (.cmp (.callQ 0 T (hr.mono (by decide)) (by rfl) rfl (.cons (.int (.nil ⟨3, rfl, by decide, fun d hd => ?_⟩))))))
  obtain ⟨z, rfl, hz0, hz1⟩ := hd
  refine .int (.gt (.mk (ways (fun h => ?_) fun h => .nil ?_)))
  · refine .one (.ret (.callQ 0 Y (hr.mono (by decide)) (by rfl) rfl (.cons (.callQ 0 T (hr.mono (by decide)) (by rfl) rfl (.cons (.int (.nil ⟨13, rfl, by decide, fun d hd => ?_⟩)))))))
    obtain ⟨g, rfl, hg0, hg1⟩ := hd
    refine .cons (.var 1 rfl (.nil ⟨(g.toNat, n), ?_, ⟨by dsimp only; omega, hn⟩, fun d hd => ?_⟩))
    · show [PyData.int _, _] = [PyData.int _, _]
      rw [Int.toNat_of_nonneg hg0]
    · obtain ⟨ns, rfl, hl, h0, hb⟩ := hd
      dsimp only at hl
      exact ⟨ns, rfl, fun e => by rw [e] at hl; exact absurd hl (by simp), by omega, h0, hb.mono (by decide)⟩
  refine .cons (.set 2 sc_law_one.nd (.callQ 0 S (hr.mono (by decide)) (by rfl) rfl (.cons (.bin (.int (.callQ 0 T (hr.mono (by decide)) (by rfl) rfl (.cons (.int (.nil ⟨4, rfl, by decide, fun d hd => ?_⟩)))))))))
  obtain ⟨m, rfl, hm0, hm1⟩ := hd
  refine .add (.cons (.var 1 rfl (.nil ⟨((1 + m).toNat, n), ?_, ⟨by dsimp only; omega, hn⟩, fun d hd => ?_⟩)))
  · show [PyData.int _, _] = [PyData.int _, _]
    rw [Int.toNat_of_nonneg (by omega)]
  obtain ⟨fs, rfl, hfl, hfs⟩ := hd
  refine .one (.ret (.callF W (hr.mono (by decide)) (by rfl) (.cons (.call O (hr.mono (by decide)) (by rfl) (.cons (.var 2 rfl (.cons (.lc rfl sc_law_one.nd (⟨rfl, by decide +kernel, by decide +kernel, by decide +kernel, by decide +kernel⟩ : BlkOk N_law_one (defScope s_law_one) _ [("factor", 3)]) (fun _ _ _ _ _ => pg_name (i := 3) sc_law_one.nd rfl (.inl rfl)) (gd1 3) (by decide) (.seq (.var 2 rfl ⟨_, .inl rfl, fun i acc => ∃ os : List Int, acc = os.map PyData.int ∧ os.length = i ∧ ∀ x ∈ os, 0 ≤ x ∧ x ≤ 3, ⟨[], rfl, rfl, fun x hx => by cases hx⟩, ?_, ?_⟩))))))))))
  · rintro i d acc hd _ ⟨os, rfl, hl, hb⟩
    refine ⟨_, rfl, fun s' H' Cc cl fp => .bin (.int (.callQ 0 T (hr.mono (by decide)) (by rfl) rfl (.cons (.int (.nil ⟨3, rfl, by decide, fun d hd => ?_⟩)))))⟩
    obtain ⟨z, rfl, hz0, hz1⟩ := hd
    refine .add ⟨os ++ [1 + z], by rw [List.map_append]; rfl, by rw [List.length_append, hl]; rfl, fun x hx => ?_⟩
    rcases List.mem_append.mp hx with h | h
    · exact hb x h
    · rcases List.mem_singleton.mp h with rfl
      omega
  · rintro acc _ ⟨os, rfl, hl, hb⟩
    rw [List.length_map] at hl
    refine .nil ⟨(fs, os), rfl, ⟨hfl, hl, hfs, hb⟩, fun d hd => ?_⟩
    obtain ⟨ns, rfl, hR⟩ := hd
    refine .cons (.callQ 0 G (hr.mono (by decide)) (by rfl) rfl (.cons (.lst (.cons (.int (.cons (.neg (.int ⟨2, rfl, .nil ⟨by show 2 ≤ 2 ^ 24; decide, .nil ⟨_, rfl, ⟨by simp, by show 2 ≤ 1000; decide⟩, fun d hd => ?_⟩⟩⟩))))))))
    have hs : ∃ y : Int, d = .int y ∧ (y = 1 ∨ y = -2) := by
      simp only [List.mem_cons, List.not_mem_nil, or_false] at hd
      rcases hd with rfl | rfl
      · exact ⟨_, rfl, .inl rfl⟩
      · exact ⟨_, rfl, .inr rfl⟩
    obtain ⟨y, rfl, hy⟩ := hs
    have hy2 : y.natAbs < 2 ^ 2 := by rcases hy with rfl | rfl <;> decide
    refine .nil ⟨(ns, y), rfl, ⟨hR.bd.mono (by decide), Nat.lt_of_lt_of_le hy2 (le_two (by decide))⟩, ns.map fun x => x * y, rfl, ?_⟩
    refine ⟨fun e => hR.ne (List.map_eq_nil_iff.mp e), by rw [List.length_map]; exact hR.len, ?_, fun x hx => ?_⟩
    · unfold lead
      rw [List.length_map, co_mapI ns _ (by simp)]
      exact Int.mul_ne_zero hR.top (by rcases hy with rfl | rfl <;> decide)
    · obtain ⟨u, hu, rfl⟩ := List.mem_map.mp hx
      exact Nat.lt_of_lt_of_le (lt_mul (hR.bd u hu) hy2) (le_two (by decide))
theorem ok_same0 (C : FnD P w K mg base 33 "_law_is_integer" p_is_integer) (B : Bi mg) (ms : mg "str" = none) (F : Fun K "_law_same" "_law_same" s_law_same f fd) : FnOk P w K mg base CX0 34 f fd P_law_same (p_same 0) := by
  refine fn_ok F sc_law_same (fun _ => rfl) fun cdv A outer s H E hr d hp => ?_
  obtain ⟨i, rfl⟩ := hp
  refine .cons (.ite (.val (.isi (by rfl) B.isi (by rfl) B.tuple boot_tuple' (by decide) (by decide) (.var 1 rfl ⟨false, kit_it, .mk (no (.nil ?_))⟩))))
  refine .cons (.ite (.val (.isi (by rfl) B.isi (by rfl) B.list boot_list' (by decide) (by decide) (.var 1 rfl ⟨false, kit_il, .mk (no (.nil ?_))⟩))))
  refine .cons (.ite (.cmp (.var 1 rfl (.non (.isN (.mk (no (.nil ?_))))))))
  refine .cons (.ite (.val (.isi (by rfl) B.isi (by rfl) B.bool boot_bool' (by decide) (by decide) (.var 1 rfl ⟨false, kit_ib, .mk (no (.nil ?_))⟩))))
  refine .cons (.ite (.val (.isi (by rfl) B.isi (by rfl) ms boot_str' (by decide) (by decide) (.var 1 rfl ⟨false, kit_is, .mk (no (.nil ?_))⟩))))
  refine .one (.ret (.and (.call C hr (by rfl) (.cons (.var 0 rfl (.nil ⟨i, rfl, trivial, fun d hd => ?_⟩))))))
  subst hd
  refine .mk (yes (.one (.cmp (.var 0 rfl (.var 1 rfl (.eqI ?_))))))
  show PyData.bool (decide (i = i)) = _
  rw [decide_eq_true rfl]
theorem ok_sameS {n : Nat} (C : FnD P w K mg base (34 + n) "_law_same" (p_same n)) (B : Bi mg) (F : Fun K "_law_same" "_law_same" s_law_same f fd) : FnOk P w K mg base CX0 (34 + (n + 1)) f fd P_law_same (p_same (n + 1)) := by
  refine fn_ok F sc_law_same (fun _ => rfl) fun cdv A outer s H E hr d hp => ?_
  obtain ⟨ds, rfl, hl, hs⟩ := hp
  refine .cons (.ite (.val (.isi (by rfl) B.isi (by rfl) B.tuple boot_tuple' (by decide) (by decide) (.var 1 rfl ⟨true, kit_tt, .mk (yes ?_)⟩))))
  refine .cons (.ite (JTw.jt (.or (.not (.val (.isi (by rfl) B.isi (by rfl) B.tuple boot_tuple' (by decide) (by decide) (.var 0 rfl ⟨true, kit_tt, .mk (no (.or1 (.cmp ?_)))⟩)))))))
  refine .len (by rfl) B.len (.var 0 rfl ⟨_, .inr rfl, .len (by rfl) B.len (.var 1 rfl ⟨_, .inr rfl, .neI (.mk (waysN (fun h => absurd rfl h) fun _ => .nil ?_))⟩)⟩)
  have eb : (List.range ds.length).map (fun _ => PyData.bool true) = ((List.range ds.length).map fun _ => true).map PyData.bool := by rw [List.map_map]; rfl
  refine .one (.ret (.all rfl (by rfl) B.all (.lcR 2 rfl sc_law_same.nd (⟨rfl, by decide +kernel, by decide +kernel, by decide +kernel, by decide +kernel⟩ : BlkOk N_law_same (defScope s_law_same) _ [("k", 2)]) (fun _ _ _ _ _ => pg_name (i := 2) sc_law_same.nd rfl (.inl rfl)) (by rfl) B.range
    (.len (by rfl) B.len (.var 1 rfl ⟨_, .inr rfl, ds.length, rfl, by omega, fun _ => .bool true, fun k hk s' H' Cc cl fp => ?_, (List.range ds.length).map fun _ => true, by rw [eb], by simp⟩)))))
  have e : atI ds (k : Nat) = some ds[k] := atI_nat (List.getElem?_eq_getElem hk)
  exact .call C hr (by rfl) (.cons (.ix (.var 0 rfl (.var 2 rfl (.tup e (.cons (.ix (.var 1 rfl (.var 2 rfl (.tup e (.nil ⟨ds[k], rfl, hs _ (List.getElem_mem hk), fun d hd => hd⟩)))))))))))
end
end K2
end

section
set_option Elab.async false
set_option linter.all false
set_option maxRecDepth 100000
set_option maxHeartbeats 4000000
set_option exponentiation.threshold 100000
/-! K2t0: the law's word on moved rows: what is said. -/
namespace K2
open PySem PySem.Spec PyProof.Rows L2 PD
structure PlainOk (t : List Int) (n b : Nat) : Prop where
  len : t.length = n + 1
  bd : Bd b t
  pos : 0 < lead t
  one : cont t = 1
abbrev rough (t : List Int) (x : Int × Int) : Int × Int := (value t x, x.2 ^ (t.length - 1))
def plc (n : Nat) : List (Int × Int) := (List.range (n + 1)).map fun k : Nat => ((k : Int) - ((n / 2 : Nat) : Int), 1)
def pts (n : Nat) : List (Int × Int) := (List.range (n + 1)).map fun k : Nat => ((k : Int), 1)
structure MovedOk (ns : List Int) : Prop where
  sh : ∀ x : Int × Int, 0 < x.2 → x.1.natAbs < 2 ^ 60 → x.2.natAbs < 2 ^ 60 → PlainOk (shiftp ns x.1 x.2) (ns.length - 1) 20000 ∧
    Alike ((plc (ns.length - 1)).map (rough (shiftp ns x.1 x.2))) ((plc (ns.length - 1)).map fun z => rough ns (fsum z (-x.1, x.2)))
  sc : ∀ x : Int × Int, 0 < x.2 → x.1 ≠ 0 → x.1.natAbs < 2 ^ 60 → x.2.natAbs < 2 ^ 60 → PlainOk (scale ns x.1 x.2) (ns.length - 1) 20000 ∧
    Alike ((plc (ns.length - 1)).map fun z => rough (scale ns x.1 x.2) (fmul z x)) ((plc (ns.length - 1)).map (rough ns))
  sq : PlainOk (sqr ns) (ns.length - 1) 20000 ∧
    Alike ((pts (ns.length - 1)).map fun z => rough (sqr ns) (z.1 * z.1, 1)) ((pts (ns.length - 1)).map fun z => (value ns z * value ns (-z.1, 1), 1))
abbrev p_moved_so : Sp := spQ (ι := List Int) (fun ns => [LI ns]) (fun ns => Good ns ∧ MovedOk ns) fun _ d => d = .bool true
theorem get_prs {xs : List (Int × Int)} {i : Nat} {d : Dat} (h : (xs.map pr)[i]? = some d) : ∃ x, xs[i]? = some x ∧ d = pr x := get_map h
section
variable {X : Cx} {po : Option Addr} {elt e : Expr} {ρ : Env'} {Φ : Dat → Prop} {scope : Scope} {pos p : Pos} {tg : Expr} {iter : Expr} {y y2 : Str}
/-- `[elt for y in e]` over pairs, giving pairs -/
theorem lcP (j : Nat) (hc : X.calm = true) (hN : X.N.Nodup) (ok : BlkOk X.N X.env.scope scope [(y, j)]) (hg : ∀ (s : Shared) (H : Hp) (C : Addr) (cl : List (Str × Addr)) (fp : List Addr), PG (X.blk s H scope (compEnvC scope cl C X.env) fp) tg (gName j))
    (h : JE X po iter ρ fun d => ∃ xs, d = pairs xs ∧ ∃ f : Int × Int → Int × Int, (∀ x ∈ xs, JB X scope po elt ((ρ.set j .x).set j (.d (pr x))) fun v => v = pr (f x)) ∧ Φ (pairs (xs.map f)))
    (hs : ∀ x, foldedSetIterable iter X.env x = pure x := by intro _; rfl) : JE X po (.ListComp elt [⟨tg, iter, [], 0⟩] scope pos) ρ Φ :=
  .lcm hc hN ok hg (gd1 j) (.seq (h.mono fun d ⟨xs, hd, f, st, fin⟩ => ⟨xs.map pr, .inl hd, (xs.map f).map pr, by simp, fun i d r h1 h2 => by
    obtain ⟨x, hx, rfl⟩ := get_prs h1
    obtain ⟨x', hx', rfl⟩ := get_prs h2
    rw [List.getElem?_map, hx] at hx'
    have : x' = f x := (Option.some.inj hx').symm
    subst this
    exact ⟨_, rfl, st x (List.mem_of_getElem? hx)⟩, fin⟩)) hs
theorem setLcP (m : Nat) (j : Nat) {P : Post} {x : Str} {py spos : Pos} (hc : X.calm = true) (hN : X.N.Nodup) (ok : BlkOk X.N X.env.scope scope [(y, j)]) (hg : ∀ (s : Shared) (H : Hp) (C : Addr) (cl : List (Str × Addr)) (fp : List Addr), PG (X.blk s H scope (compEnvC scope cl C X.env) fp) tg (gName j))
    (h : JE X po iter ρ fun d => ∃ xs, d = pairs xs ∧ ∃ f : Int × Int → Int × Int, (∀ x ∈ xs, JB X scope po elt ((ρ.set j .x).set j (.d (pr x))) fun v => v = pr (f x)) ∧ P.nx (ρ.set m (.d (pairs (xs.map f)))))
    (hy : X.N[m]? = some x := by rfl) (hyl : X.env.scope.names.lookup x = some .local := by rfl) (hsw : swapsWith (.ListComp elt [⟨tg, iter, [], 0⟩] scope pos) (some (.Name x py)) spos.line X.env = pure true := by exact sw_true rfl rfl rfl (by decide +kernel))
    (hs : ∀ x, foldedSetIterable iter X.env x = pure x := by intro _; rfl) : JS X po (.Assign [.Name x py] (.ListComp elt [⟨tg, iter, [], 0⟩] scope pos) spos) ρ P :=
  .setLcm m hc hN ok hg (gd1 j) (.seq (h.mono fun d ⟨xs, hd, f, st, fin⟩ => ⟨xs.map pr, .inl hd, (xs.map f).map pr, by simp, fun i d r h1 h2 => by
    obtain ⟨x, hx, rfl⟩ := get_prs h1
    obtain ⟨x', hx', rfl⟩ := get_prs h2
    rw [List.getElem?_map, hx] at hx'
    have : x' = f x := (Option.some.inj hx').symm
    subst this
    exact ⟨_, rfl, st x (List.mem_of_getElem? hx)⟩, fin⟩)) hy hyl hsw hs
end
theorem plc_mem {n : Nat} (hn : n ≤ 64) {x : Int × Int} (h : x ∈ plc n) : x.2 = 1 ∧ x.1.natAbs < 2 ^ 7 := by
  obtain ⟨k, hk, rfl⟩ := List.mem_map.mp h
  have := List.mem_range.mp hk
  exact ⟨rfl, by show ((k : Int) - ((n / 2 : Nat) : Int)).natAbs < 128; omega⟩
theorem pts_mem {n : Nat} (hn : n ≤ 64) {x : Int × Int} (h : x ∈ pts n) : x.2 = 1 ∧ x.1.natAbs < 2 ^ 7 := by
  obtain ⟨k, hk, rfl⟩ := List.mem_map.mp h
  have := List.mem_range.mp hk
  exact ⟨rfl, by show ((k : Int)).natAbs < 128; omega⟩
theorem fsum_bd {x y : Int × Int} (hx : x.2 = 1) (h1 : x.1.natAbs < 2 ^ 7) (hy : 0 < y.2) (h2 : y.1.natAbs < 2 ^ 60) (h3 : y.2.natAbs < 2 ^ 60) : (fsum x y).1.natAbs < 2 ^ 100 ∧ (fsum x y).2.natAbs < 2 ^ 100 ∧ 0 < (fsum x y).2 := by
  have q := low_le (n := x.1 * y.2 + y.1 * x.2) (d := x.2 * y.2) (by rw [hx, Int.one_mul]; exact hy)
  refine ⟨Nat.lt_of_le_of_lt q.2.1 ?_, Nat.lt_of_le_of_lt q.2.2 ?_, q.1⟩
  · refine Nat.lt_of_lt_of_le (add_lt (n := 67) (lt_mul h1 h3) ?_) (le_two (by decide))
    rw [hx, Int.mul_one]
    exact Nat.lt_of_lt_of_le h2 (le_two (by decide))
  · rw [hx, Int.one_mul]
    exact Nat.lt_of_lt_of_le h3 (le_two (by decide))
theorem fmul_bd {x y : Int × Int} (hx : x.2 = 1) (h1 : x.1.natAbs < 2 ^ 7) (hy : 0 < y.2) (h2 : y.1.natAbs < 2 ^ 60) (h3 : y.2.natAbs < 2 ^ 60) : (fmul x y).1.natAbs < 2 ^ 100 ∧ (fmul x y).2.natAbs < 2 ^ 100 ∧ 0 < (fmul x y).2 := by
  have q := low_le (n := x.1 * y.1) (d := x.2 * y.2) (by rw [hx, Int.one_mul]; exact hy)
  refine ⟨Nat.lt_of_le_of_lt q.2.1 ?_, Nat.lt_of_le_of_lt q.2.2 ?_, q.1⟩
  · exact Nat.lt_of_lt_of_le (lt_mul h1 h2) (le_two (by decide))
  · rw [hx, Int.one_mul]
    exact Nat.lt_of_lt_of_le h3 (le_two (by decide))
theorem Good.bd400 {p : List Int} (h : Good p) : Bd 400 p := h.bd
end K2
end

section
set_option Elab.async false
set_option linter.all false
set_option maxRecDepth 100000
set_option maxHeartbeats 4000000
set_option exponentiation.threshold 100000
/-! K2t: the law's word on moved rows: the walk. -/
namespace K2
open PySem PySem.Spec PyProof.Rows L2 PD
section
variable {P : Program} {w : World} {K : PD.Frag} {mg : Str → Option Value} {base : Heap} {fd : FuncData} {f : Addr}
theorem ok_moved_so (Sh : FnD P w K mg base 36 "shifted" p_shifted) (Sc : FnD P w K mg base 37 "scaled" p_scaled) (Sq : FnD P w K mg base 37 "squared" p_squared) (Fr : FnD P w K mg base 36 "_law_fraction" p_fraction) (G : FnD P w K mg base 35 "_law_pick" p_pick)
    (Ip : FnD P w K mg base 35 "_law_is_plain" p_is_plain) (Ro : FnD P w K mg base 34 "_law_rough" p_rough) (Su : FnD P w K mg base 35 "_law_sum" p_sum) (Ti : FnD P w K mg base 35 "_law_times" p_times) (Al : FnD P w K mg base 33 "_law_alike" p_alike) (Va : FnD P w K mg base 33 "_law_value" p_value)
    (sr : base.NoSeer) (ht : P.given.tree = none) (B : Bi mg) (F : Fun K "_law_moved_so" "_law_moved_so" s_law_moved_so f fd) : FnOk P w K mg base CX0 38 f fd P_law_moved_so p_moved_so := by
  refine fn_okQ F sc_law_moved_so (fun _ => rfl) fun cdv A outer s H E po hr p hp => ?_
  have sx := seer_b (P := P) (w := w) (K := K) (mg := mg) (outer := outer) (H := H) (E := E) sc_law_moved_so hr (by decide) sr ht
  obtain ⟨hP, M⟩ := hp
  have l0 : 0 < p.length := List.length_pos_iff.mpr hP.ne
  have hl := hP.len
  have hb := hP.bd400
  obtain ⟨n, en⟩ : ∃ n, n = p.length - 1 := ⟨_, rfl⟩
  have hn : n ≤ 64 := by omega
  have el : ((p.map PyData.int).length : Int) - 1 = (n : Nat) := by rw [List.length_map]; omega
  refine .cons (.set 2 sc_law_moved_so.nd (.bin (.len (by rfl) B.len (.var 1 rfl ⟨_, .inl rfl, .int (.sub ?_)⟩))))
  rw [el]
  refine .cons (.set 3 sc_law_moved_so.nd (.listOf (by rfl) B.list (.var 1 rfl ⟨_, .inl rfl, ?_⟩)))
  have ep : (List.range (n + 1)).map (fun k : Nat => pr ((k : Int) - ((n / 2 : Nat) : Int), 1)) = (plc n).map pr := by unfold plc; rw [List.map_map]; rfl
  have eq : (List.range (n + 1)).map (fun k : Nat => pr ((k : Int), 1)) = (pts n).map pr := by unfold pts; rw [List.map_map]; rfl
  refine .cons (.setLcR 4 5 rfl sc_law_moved_so.nd (⟨rfl, by decide +kernel, by decide +kernel, by decide +kernel, by decide +kernel⟩ : BlkOk N_law_moved_so (defScope s_law_moved_so) _ [("k", 5)]) (fun _ _ _ _ _ => pg_name (i := 5) sc_law_moved_so.nd rfl (.inl rfl)) (by rfl) B.range
    (.bin (.var 2 rfl (.int (.add ⟨n + 1, by rw [Int.natCast_add]; rfl, by omega, fun k => pr ((k : Int) - ((n / 2 : Nat) : Int), 1), fun k hk s' H' Cc cl fp => ?_, ?_⟩)))))
  · refine .tup (.cons (.bin (.var 5 rfl (.toInt (by rfl) B.int (.bin (.var 2 rfl (.int (.fdiv sx.blk (by decide) ⟨_, rfl, .sub (.cons (.int (.nil ⟨by show 2 ≤ 2 ^ 24; decide, ?_⟩)))⟩))))))))
    show pr (_, _) = pr (_, _)
    rw [Int.natCast_ediv]
    rfl
  rw [ep]
  refine .cons (.set 6 sc_law_moved_so.nd (.callQ 0 Fr (hr.mono (by decide)) (by rfl) rfl (.nil ⟨(), rfl, trivial, fun d hd => ?_⟩)))
  obtain ⟨x, rfl, hx0, hx1, hx2⟩ := hd
  have x100 : small100 x.1 := Nat.lt_of_lt_of_le hx1 (le_two (by decide))
  have y100 : small100 x.2 := Nat.lt_of_lt_of_le hx2 (le_two (by decide))
  obtain ⟨ms1, ms2⟩ := M.sh x hx0 hx1 hx2
  rw [← en] at ms1 ms2
  refine .cons (.set 7 sc_law_moved_so.nd (.callF Sh (hr.mono (by decide)) (by rfl) (.cons (.var 1 rfl (.cons ?_)))))
  refine .callQ 0 G (hr.mono (by decide)) (by rfl) rfl (.cons (.lst (.cons (.var 6 rfl (.cons (.listOf (by rfl) B.list (.var 6 rfl ⟨_, .inr rfl, .nil ⟨by show 2 ≤ 2 ^ 24; decide, .nil ⟨_, rfl, ⟨by simp, by show 2 ≤ 1000; decide⟩, fun d hd => ?_⟩⟩⟩)))))))
  have hsq : ∃ b : Bool, d = SQ b [x.1, x.2] := by
    simp only [List.mem_cons, List.not_mem_nil, or_false] at hd
    rcases hd with rfl | rfl
    · exact ⟨false, rfl⟩
    · exact ⟨true, rfl⟩
  obtain ⟨b1, rfl⟩ := hsq
  refine .nil ⟨((true, p), b1, x), rfl, ⟨hP, x100, y100⟩, ?_⟩
  dsimp only
  generalize shiftp p x.1 x.2 = S1 at ms1 ms2 ⊢
  have h64 : p.length - 1 ≤ 64 := by omega
  have rough_ok : ∀ (t : List Int) (z : Int × Int), t.length = n + 1 → Bd 20000 t → z.1.natAbs < 2 ^ 100 → z.2.natAbs < 2 ^ 100 → t ≠ [] ∧ t.length ≤ 65 ∧ ∃ b c, Bd b t ∧ z.1.natAbs < 2 ^ c ∧ z.2.natAbs < 2 ^ c ∧ b ≤ 1000000 ∧ c ≤ 10000 := fun t z h1 h2 h3 h4 =>
    ⟨fun e => by rw [e] at h1; exact absurd h1 (by simp), by omega, 20000, 100, h2, h3, h4, by decide, by decide⟩
  have pl : p.length = n + 1 := by omega
  have pb : Bd 20000 p := hb.mono (by decide)
  refine .cons (.ite (.not (.val (.call Ip (hr.mono (by decide)) (by rfl) (.cons (.var 7 rfl (.cons (.var 2 rfl (.nil ⟨(S1, n), rfl, ⟨ms1.len, ms1.bd.mono (by decide), ms1.pos, ms1.one⟩, fun d hd => ?_⟩)))))))))
  subst hd
  refine .mk (no (.nil ?_))
  refine .cons (setLcP 8 9 rfl sc_law_moved_so.nd (⟨rfl, by decide +kernel, by decide +kernel, by decide +kernel, by decide +kernel⟩ : BlkOk N_law_moved_so (defScope s_law_moved_so) _ [("x", 9)]) (fun _ _ _ _ _ => pg_name (i := 9) sc_law_moved_so.nd rfl (.inl rfl))
    (.var 4 rfl ⟨plc n, rfl, fun z => rough p (fsum z (-x.1, x.2)), fun z hz s' H' Cc cl fp => ?_, ?_⟩))
  · obtain ⟨z1, z2⟩ := plc_mem hn hz
    have nx : (-x.1).natAbs < 2 ^ 60 := by rw [Int.natAbs_neg]; exact hx1
    have fb := fsum_bd (y := (-x.1, x.2)) z1 z2 hx0 nx hx2
    refine .callF Ro (hr.mono (by decide)) (by rfl) (.cons (.var 1 rfl (.cons (.callF Su (hr.mono (by decide)) (by rfl) (.cons (.var 9 rfl (.cons (.tup (.cons (.neg (.ix (.var 6 rfl (.int (ix_pr0 ⟨_, rfl, .cons (.ix (.var 6 rfl (.int (ix_pr1 (.nil ⟨by show 2 ≤ 2 ^ 24; decide, ?_⟩)))))⟩))))))))))))))
    refine .nil ⟨(z, (-x.1, x.2)), rfl, ⟨by dsimp only; omega, hx0, Nat.lt_of_lt_of_le z2 (le_two (by decide)), by dsimp only; rw [z1]; exact Nat.one_lt_two_pow (by decide), Nat.lt_of_lt_of_le nx (le_two (by decide)), Nat.lt_of_lt_of_le hx2 (le_two (by decide))⟩, ?_⟩
    exact .nil ⟨((true, p), fsum z (-x.1, x.2)), rfl, rough_ok p _ pl pb fb.1 fb.2.1, rfl⟩
  refine .cons (.ite (.not (.val (.call Al (hr.mono (by decide)) (by rfl) (.cons ?_)))))
  refine lcP 9 rfl sc_law_moved_so.nd (⟨rfl, by decide +kernel, by decide +kernel, by decide +kernel, by decide +kernel⟩ : BlkOk N_law_moved_so (defScope s_law_moved_so) _ [("x", 9)]) (fun _ _ _ _ _ => pg_name (i := 9) sc_law_moved_so.nd rfl (.inl rfl))
    (.var 4 rfl ⟨plc n, rfl, rough (S1), fun z hz s' H' Cc cl fp => ?_, .cons (.var 8 rfl (.nil ⟨(_, _), rfl, ms2, fun d hd => ?_⟩))⟩)
  · obtain ⟨z1, z2⟩ := plc_mem hn hz
    exact .callF Ro (hr.mono (by decide)) (by rfl) (.cons (.var 7 rfl (.cons (.var 9 rfl (.nil ⟨((false, S1), z), rfl, rough_ok _ z ms1.len ms1.bd (Nat.lt_of_lt_of_le z2 (le_two (by decide))) (by rw [z1]; exact Nat.one_lt_two_pow (by decide)), rfl⟩)))))
  subst hd
  refine .mk (no (.nil ?_))
  refine .cut (fun ρ => ∃ (y : Int × Int) (z7 z8 : Sl), ρ = [.pool, .d (LI p), .d (.int (n : Nat)), .d (LI p), .d (pairs (plc n)), .x, .d (pr y), z7, z8, .x, .x, .x, .x] ∧ 0 < y.2 ∧ y.1 ≠ 0 ∧ y.1.natAbs < 2 ^ 60 ∧ y.2.natAbs < 2 ^ 60)
    (.set 6 sc_law_moved_so.nd (.ifx (.cmp (.ix (.var 6 rfl (.int (ix_pr0 (.int (.neI (.mk (waysN (fun h => .var 6 rfl ⟨x, _, _, rfl, hx0, h, hx1, hx2⟩) fun h => ?_))))))))))) ?_
  · exact .tup (.cons (.neg (.int ⟨3, rfl, .cons (.int (.nil ⟨by show 2 ≤ 2 ^ 24; decide, (-3, 2), _, _, rfl, by decide, by decide, by decide, by decide⟩))⟩)))
  rintro _ ⟨y, z7, z8, rfl, hy0, hy1, hy2, hy3⟩
  have x100 : small100 y.1 := Nat.lt_of_lt_of_le hy2 (le_two (by decide))
  have y100 : small100 y.2 := Nat.lt_of_lt_of_le hy3 (le_two (by decide))
  obtain ⟨mc1, mc2⟩ := M.sc y hy0 hy1 hy2 hy3
  rw [← en] at mc1 mc2
  refine .cons (.set 7 sc_law_moved_so.nd (.callF Sc (hr.mono (by decide)) (by rfl) (.cons (.tupOf (by rfl) B.tuple (.var 1 rfl ⟨_, .inl rfl, .cons ?_⟩)))))
  refine .callQ 0 G (hr.mono (by decide)) (by rfl) rfl (.cons (.lst (.cons (.var 6 rfl (.cons (.listOf (by rfl) B.list (.var 6 rfl ⟨_, .inr rfl, .nil ⟨by show 2 ≤ 2 ^ 24; decide, .nil ⟨_, rfl, ⟨by simp, by show 2 ≤ 1000; decide⟩, fun d hd => ?_⟩⟩⟩)))))))
  have hsq : ∃ b : Bool, d = SQ b [y.1, y.2] := by
    simp only [List.mem_cons, List.not_mem_nil, or_false] at hd
    rcases hd with rfl | rfl
    · exact ⟨false, rfl⟩
    · exact ⟨true, rfl⟩
  obtain ⟨b2, rfl⟩ := hsq
  refine .nil ⟨((false, p), b2, y), rfl, ⟨hP, x100, y100⟩, ?_⟩
  dsimp only
  generalize scale p y.1 y.2 = S2 at mc1 mc2 ⊢
  refine .cons (.ite (.not (.val (.call Ip (hr.mono (by decide)) (by rfl) (.cons (.var 7 rfl (.cons (.var 2 rfl (.nil ⟨(S2, n), rfl, ⟨mc1.len, mc1.bd.mono (by decide), mc1.pos, mc1.one⟩, fun d hd => ?_⟩)))))))))
  subst hd
  refine .mk (no (.nil ?_))
  refine .cons (setLcP 10 9 rfl sc_law_moved_so.nd (⟨rfl, by decide +kernel, by decide +kernel, by decide +kernel, by decide +kernel⟩ : BlkOk N_law_moved_so (defScope s_law_moved_so) _ [("x", 9)]) (fun _ _ _ _ _ => pg_name (i := 9) sc_law_moved_so.nd rfl (.inl rfl))
    (.var 4 rfl ⟨plc n, rfl, fun z => rough (S2) (fmul z y), fun z hz s' H' Cc cl fp => ?_, ?_⟩))
  · obtain ⟨z1, z2⟩ := plc_mem hn hz
    have fb := fmul_bd z1 z2 hy0 hy2 hy3
    refine .callF Ro (hr.mono (by decide)) (by rfl) (.cons (.var 7 rfl (.cons (.callF Ti (hr.mono (by decide)) (by rfl) (.cons (.var 9 rfl (.cons (.var 6 rfl (.nil ?_)))))))))
    refine ⟨(z, y), rfl, ⟨by dsimp only; omega, hy0, Nat.lt_of_lt_of_le z2 (le_two (by decide)), by dsimp only; rw [z1]; exact Nat.one_lt_two_pow (by decide), Nat.lt_of_lt_of_le hy2 (le_two (by decide)), Nat.lt_of_lt_of_le hy3 (le_two (by decide))⟩, ?_⟩
    exact .nil ⟨((false, S2), fmul z y), rfl, rough_ok _ _ mc1.len mc1.bd fb.1 fb.2.1, rfl⟩
  refine .cons (.ite (.not (.val (.call Al (hr.mono (by decide)) (by rfl) (.cons (.var 10 rfl (.cons ?_)))))))
  refine lcP 9 rfl sc_law_moved_so.nd (⟨rfl, by decide +kernel, by decide +kernel, by decide +kernel, by decide +kernel⟩ : BlkOk N_law_moved_so (defScope s_law_moved_so) _ [("x", 9)]) (fun _ _ _ _ _ => pg_name (i := 9) sc_law_moved_so.nd rfl (.inl rfl))
    (.var 4 rfl ⟨plc n, rfl, rough p, fun z hz s' H' Cc cl fp => ?_, .nil ⟨(_, _), rfl, mc2, fun d hd => ?_⟩⟩)
  · obtain ⟨z1, z2⟩ := plc_mem hn hz
    exact .callF Ro (hr.mono (by decide)) (by rfl) (.cons (.var 1 rfl (.cons (.var 9 rfl (.nil ⟨((true, p), z), rfl, rough_ok _ z pl pb (Nat.lt_of_lt_of_le z2 (le_two (by decide))) (by rw [z1]; exact Nat.one_lt_two_pow (by decide)), rfl⟩)))))
  subst hd
  refine .mk (no (.nil ?_))
  obtain ⟨mq1, mq2⟩ := M.sq
  rw [← en] at mq1 mq2
  refine .cons (.set 7 sc_law_moved_so.nd (.callF Sq (hr.mono (by decide)) (by rfl) (.cons (.var 1 rfl (.nil ⟨(true, p), rfl, hP, ?_⟩)))))
  dsimp only
  generalize sqr p = S3 at mq1 mq2 ⊢
  refine .cons (.setLcR 11 5 rfl sc_law_moved_so.nd (⟨rfl, by decide +kernel, by decide +kernel, by decide +kernel, by decide +kernel⟩ : BlkOk N_law_moved_so (defScope s_law_moved_so) _ [("k", 5)]) (fun _ _ _ _ _ => pg_name (i := 5) sc_law_moved_so.nd rfl (.inl rfl)) (by rfl) B.range
    (.bin (.var 2 rfl (.int (.add ⟨n + 1, by rw [Int.natCast_add]; rfl, by omega, fun k => pr ((k : Int), 1), fun k hk s' H' Cc cl fp => ?_, ?_⟩)))))
  · exact .tup (.cons (.var 5 rfl (.cons (.int (.nil ⟨by show 2 ≤ 2 ^ 24; decide, rfl⟩)))))
  rw [eq]
  refine .cons (setLcP 12 9 rfl sc_law_moved_so.nd (⟨rfl, by decide +kernel, by decide +kernel, by decide +kernel, by decide +kernel⟩ : BlkOk N_law_moved_so (defScope s_law_moved_so) _ [("x", 9)]) (fun _ _ _ _ _ => pg_name (i := 9) sc_law_moved_so.nd rfl (.inl rfl))
    (.var 11 rfl ⟨pts n, rfl, fun z => (value p z * value p (-z.1, 1), 1), fun z hz s' H' Cc cl fp => ?_, ?_⟩))
  · obtain ⟨z1, z2⟩ := pts_mem hn hz
    have za : z.2.natAbs < 2 ^ 7 := by rw [z1]; decide
    have zb : (-z.1).natAbs < 2 ^ 7 := by rw [Int.natAbs_neg]; exact z2
    have v1 := hom_bd hb z2 za p.length
    have v2 := hom_bd hb zb (show (1 : Int).natAbs < 2 ^ 7 by decide) p.length
    have w1 : (value p z).natAbs < 2 ^ 1000 := Nat.lt_of_le_of_lt v1 (Nat.pow_lt_pow_right (by decide) (by omega))
    have w2 : (value p (-z.1, 1)).natAbs < 2 ^ 1000 := Nat.lt_of_le_of_lt v2 (Nat.pow_lt_pow_right (by decide) (by omega))
    refine .tup (.cons (.bin (.callF Va (hr.mono (by decide)) (by rfl) (.cons (.var 1 rfl (.cons (.var 9 rfl (.nil ⟨((true, p), z), rfl, ⟨hl, 400, 7, hb, z2, za, by decide, by decide⟩, ?_⟩))))))))
    refine .callF Va (hr.mono (by decide)) (by rfl) (.cons (.var 1 rfl (.cons (.tup (.cons (.neg (.ix (.var 9 rfl (.int (ix_pr0 ⟨_, rfl, .cons (.int (.nil ⟨by show 2 ≤ 2 ^ 24; decide, .nil ⟨((true, p), (-z.1, 1)), rfl, ⟨hl, 400, 7, hb, zb, (show (1 : Int).natAbs < 2 ^ 7 by decide), by decide, by decide⟩, ?_⟩⟩))⟩))))))))))
    exact .mul (mulok w1 w2 (by decide)) (.cons (.int (.nil ⟨by show 2 ≤ 2 ^ 24; decide, rfl⟩)))
  refine .one (.ret (.and (.call Ip (hr.mono (by decide)) (by rfl) (.cons (.var 7 rfl (.cons (.var 2 rfl (.nil ⟨(S3, n), rfl, ⟨mq1.len, mq1.bd.mono (by decide), mq1.pos, mq1.one⟩, fun d hd => ?_⟩))))))))
  subst hd
  refine .mk (yes (.and (.call Al (hr.mono (by decide)) (by rfl) (.cons ?_))))
  refine lcP 9 rfl sc_law_moved_so.nd (⟨rfl, by decide +kernel, by decide +kernel, by decide +kernel, by decide +kernel⟩ : BlkOk N_law_moved_so (defScope s_law_moved_so) _ [("x", 9)]) (fun _ _ _ _ _ => pg_name (i := 9) sc_law_moved_so.nd rfl (.inl rfl))
    (.var 11 rfl ⟨pts n, rfl, fun z => rough (S3) (z.1 * z.1, 1), fun z hz s' H' Cc cl fp => ?_, .cons (.var 12 rfl (.nil ⟨(_, _), rfl, mq2, fun d hd => ?_⟩))⟩)
  · obtain ⟨z1, z2⟩ := pts_mem hn hz
    refine .callF Ro (hr.mono (by decide)) (by rfl) (.cons (.var 7 rfl (.cons (.tup (.cons (.bin (.ix (.var 9 rfl (.int (ix_pr0 (.ix (.var 9 rfl (.int (ix_pr0 (.mul (mulok z2 z2 (by decide)) (.cons (.int (.nil ⟨by show 2 ≤ 2 ^ 24; decide, ?_⟩))))))))))))))))))
    exact .nil ⟨((false, S3), (z.1 * z.1, 1)), rfl, rough_ok _ _ mq1.len mq1.bd (Nat.lt_of_lt_of_le (lt_mul z2 z2) (le_two (by decide))) (show (1 : Int).natAbs < 2 ^ 100 by decide), rfl⟩
  subst hd
  refine .mk (yes (.one (.cmp (.var 1 rfl (.var 3 rfl (.eqD ?_ (LI_shaped p) (LI_shaped p) ?_))))))
  · have := hr.un
    show (A.deeper _).units + 64 < cLine
    omega
  · show PyData.bool _ = PyData.bool true
    rw [SeqAt.eqv_refl (LI p) (LI_lay p)]
end
end K2
end

section
set_option Elab.async false
set_option linter.all false
set_option maxRecDepth 100000
set_option maxHeartbeats 4000000
set_option exponentiation.threshold 100000
/-! K2u: the law's word on pairs. -/
namespace K2
open PySem PySem.Spec PyProof.Rows L2 PD
structure PlainOk' (t : List Int) (n b : Nat) : Prop where
  len : t.length = n + 1
  bd : Bd b t
  pos : 0 < lead t
  one : cont t = 1
/-- what the k-th sum of powers is to be -/
def dueOf (s : Bool) (p q : List Int) (k : Nat) : Int :=
  if s then sm (k + 1) fun j => (choose k j : Nat) * psum (mon p) (k - j) * psum (mon q) j * lead q ^ (k - j) * lead p ^ j else psum (mon p) k * psum (mon q) k
structure PairOk (t p q : List Int) (s : Bool) : Prop where
  plain : PlainOk' t (deg2 p q) 120000
  eq : 0 < deg2 p q → ∀ k, k ≤ deg2 p q → psum (mon t) k * (lead p * lead q) ^ k = dueOf s p q k * lead t ^ k
abbrev p_pairs_so : Sp := spP (ι := List Int × (List Int × List Int) × Bool) (fun i => [TI i.1, LI i.2.1.1, LI i.2.1.2, .bool i.2.2]) (fun i => Good i.2.1.1 ∧ Good i.2.1.2 ∧ deg2 i.2.1.1 i.2.1.2 ≤ 64 ∧ PairOk i.1 i.2.1.1 i.2.1.2 i.2.2) fun _ d => d = .bool true
def rowL (k : Nat) : List Int := (List.range (k + 1)).map fun j => ((choose k j : Nat) : Int)
theorem rowL_next (k : Nat) : [1] ++ ((List.range k).map fun j => co (rowL k) j + co (rowL k) (j + 1)) ++ [1] = rowL (k + 1) := by
  have hl : (([1] ++ ((List.range k).map fun j => co (rowL k) j + co (rowL k) (j + 1))) : List Int).length = k + 1 := by simp
  refine row_ext (by simp [rowL]) fun i hi => ?_
  rw [List.length_append, hl] at hi
  have hr : co (rowL (k + 1)) i = (choose (k + 1) i : Nat) := by
    unfold rowL
    rw [co_map, if_pos (by simpa using hi)]
  rw [hr]
  by_cases h1 : i < k + 1
  · rw [co_app (by rw [hl]; exact h1)]
    cases i with
    | zero => rfl
    | succ i =>
      have e : co ([1] ++ (List.range k).map fun j => co (rowL k) j + co (rowL k) (j + 1)) (i + 1) = co ((List.range k).map fun j => co (rowL k) j + co (rowL k) (j + 1)) i := by simp [co, List.getD]
      rw [e, co_map, if_pos (by omega)]
      unfold rowL
      rw [co_map, co_map, if_pos (by omega), if_pos (by omega)]
      show _ = ((choose k i + choose k (i + 1) : Nat) : Int)
      omega
  · have e : i = k + 1 := by simp at hi; omega
    subst e
    have := co_last ([1] ++ (List.range k).map fun j => co (rowL k) j + co (rowL k) (j + 1)) 1
    rw [hl] at this
    rw [this, choose_self]
    rfl
theorem co_rowL {k j : Nat} (h : j ≤ k) : co (rowL k) j = (choose k j : Nat) := by
  unfold rowL
  rw [co_map, if_pos (by omega)]
theorem due_bd {p q : List Int} (hP : PolOk p) (hQ : PolOk q) {k : Nat} (hk : k ≤ 64) (s : Bool) : (dueOf s p q k).natAbs < 2 ^ (900 * k + 50) := by
  have k0 := hP.len
  have k1 := hQ.len
  unfold dueOf
  split
  · refine Nat.lt_of_le_of_lt (sm_bd (B := 2 ^ (809 * k + 14)) fun j hj => ?_) ?_
    · have c1 : ((choose k j : Nat) : Int).natAbs ≤ 2 ^ k := by simpa using choose_le k j
      refine Nat.le_trans (mul_bd (mul_bd (mul_bd (mul_bd c1 (psum_mon_bd' hP.bd hP.ne k0 (k := k - j) (by omega))) (psum_mon_bd' hQ.bd hQ.ne k1 (k := j) (by omega))) (pow_bd (Nat.le_of_lt (hQ.bd.co _)) (k - j))) (pow_bd (Nat.le_of_lt (hP.bd.co _)) j)) (le_two ?_)
      show k + (408 * (k - j) + 7) + (408 * j + 7) + 400 * (k - j) + 400 * j ≤ _
      omega
    · have : k + 1 ≤ 2 ^ 7 := by omega
      refine Nat.lt_of_le_of_lt (Nat.mul_le_mul_right _ this) ?_
      rw [← Nat.pow_add]
      exact Nat.pow_lt_pow_right (by decide) (by omega)
  · exact lt_two (mul_bd (psum_mon_bd' hP.bd hP.ne k0 (by omega)) (psum_mon_bd' hQ.bd hQ.ne k1 (by omega))) (by omega)
section
variable {P : Program} {w : World} {K : PD.Frag} {mg : Str → Option Value} {base : Heap} {fd : FuncData} {f : Addr}
theorem ok_pairs_so (Ip : FnD P w K mg base 35 "_law_is_plain" p_is_plain) (Wh : FnD P w K mg base 34 "_law_whole_sums" p_whole_sums) (Po : FnD P w K mg base 33 "_law_power" p_lpower) (B : Bi mg)
    (F : Fun K "_law_pairs_so" "_law_pairs_so" s_law_pairs_so f fd) : FnOk P w K mg base CX0 36 f fd P_law_pairs_so p_pairs_so := by
  refine fn_ok F sc_law_pairs_so (fun _ => rfl) fun cdv A outer s H E hr i hp => ?_
  obtain ⟨t, ⟨p, q⟩, su⟩ := i
  dsimp only at hp ⊢
  obtain ⟨hP, hQ, hn, M⟩ := hp
  have l0 : 0 < p.length := List.length_pos_iff.mpr hP.ne
  have l1 : 0 < q.length := List.length_pos_iff.mpr hQ.ne
  have k0 := hP.len
  have k1 := hQ.len
  have tl := M.plain.len
  have tne : t ≠ [] := fun e => by rw [e] at tl; exact absurd tl (by simp)
  obtain ⟨n, en⟩ : ∃ n, n = deg2 p q := ⟨_, rfl⟩
  rw [← en] at hn tl
  have em : ((n : Nat) : Int) + 1 = ((n + 1 : Nat) : Int) := by omega
  refine .cons (.set 4 sc_law_pairs_so.nd (.bin (.bin (.len (by rfl) B.len (.var 1 rfl ⟨_, .inl rfl, .int (.sub (.bin (.len (by rfl) B.len (.var 2 rfl ⟨_, .inl rfl, .int (.sub (.mul (mulokL ?_) ?_))⟩))))⟩)))))
  · rw [List.length_map]; omega
  rw [show (((p.map PyData.int).length : Int) - 1) * (((q.map PyData.int).length : Int) - 1) = ((n : Nat) : Int) by
    rw [en, List.length_map, List.length_map, show (p.length : Int) - 1 = ((p.length - 1 : Nat) : Int) by omega, show (q.length : Int) - 1 = ((q.length - 1 : Nat) : Int) by omega, ← Int.natCast_mul]]
  refine .cons (.ite (.not (.val (.call Ip (hr.mono (by decide)) (by rfl) (.cons (.var 0 rfl (.cons (.var 4 rfl (.nil ⟨(t, n), rfl, ⟨tl, M.plain.bd.mono (by decide), M.plain.pos, M.plain.one⟩, fun d hd => ?_⟩)))))))))
  subst hd
  refine .mk (no (.nil ?_))
  refine .cons (.asg (pg_tup rfl (pgs_cons (pg_name (i := 5) sc_law_pairs_so.nd rfl (.inl rfl)) (pgs_cons (pg_name (i := 6) sc_law_pairs_so.nd rfl (.inl rfl)) pgs_nil))) (gd2 (by decide)) (.callF Wh (hr.mono (by decide)) (by rfl) (.cons (.var 1 rfl (.cons (.bin (.var 4 rfl (.int (.add ?_))))))))) 
  rw [em]
  refine .nil ⟨((true, p), n + 1), rfl, ⟨hP.ne, k0, by omega, by dsimp only; omega, 400, hP.bd, by decide⟩, _, ⟨_, _, rfl, rfl⟩, ?_⟩
  refine .cons (.asg (pg_tup rfl (pgs_cons (pg_name (i := 7) sc_law_pairs_so.nd rfl (.inl rfl)) (pgs_cons (pg_name (i := 8) sc_law_pairs_so.nd rfl (.inl rfl)) pgs_nil))) (gd2 (by decide)) (.callF Wh (hr.mono (by decide)) (by rfl) (.cons (.var 2 rfl (.cons (.bin (.var 4 rfl (.int (.add ?_))))))))) 
  rw [em]
  refine .nil ⟨((true, q), n + 1), rfl, ⟨hQ.ne, k1, by omega, by dsimp only; omega, 400, hQ.bd, by decide⟩, _, ⟨_, _, rfl, rfl⟩, ?_⟩
  refine .cons (.asg (pg_tup rfl (pgs_cons (pg_name (i := 9) sc_law_pairs_so.nd rfl (.inl rfl)) (pgs_cons (pg_name (i := 10) sc_law_pairs_so.nd rfl (.inl rfl)) pgs_nil))) (gd2 (by decide)) (.callF Wh (hr.mono (by decide)) (by rfl) (.cons (.var 0 rfl (.cons (.bin (.var 4 rfl (.int (.add ?_))))))))) 
  rw [em]
  refine .nil ⟨((false, t), n + 1), rfl, ⟨tne, by dsimp only; omega, by omega, by dsimp only; omega, 120000, M.plain.bd, by decide⟩, _, ⟨_, _, rfl, rfl⟩, ?_⟩
  refine .cons (.asg (pg_tup rfl (pgs_cons (pg_name (i := 11) sc_law_pairs_so.nd rfl (.inr rfl)) (pgs_cons (pg_name (i := 12) sc_law_pairs_so.nd rfl (.inl rfl)) (pgs_cons (pg_name (i := 13) sc_law_pairs_so.nd rfl (.inl rfl)) pgs_nil)))) (gdN [11, 12, 13] 3 rfl) (.tup (.cons (.lst (.cons (.int (.nil ⟨by show 1 ≤ 2 ^ 24; decide, .cons (.int (.cons (.int (.nil ⟨by show 3 ≤ 2 ^ 24; decide, _, ⟨_, rfl, rfl, rfl⟩, ?_⟩))))⟩)))))))
  have lw : ∀ r : List Int, (pwl r (n + 1)).length = n + 1 := fun r => by rw [pwl, bl_len]
  have ix5 : ∀ (r : List Int) (k : Nat), k ≤ n → atI ((pwl r (n + 1)).map PyData.int) (k : Int) = some (.int (psum r k)) := fun r k hk => by
    have := at_nat (ns := pwl r (n + 1)) (i := k) (by rw [lw]; omega)
    rw [this]
    have e : (pwl r (n + 1)).getD k 0 = psum r k := co_pwl (by omega)
    rw [e]
  have rl : ∀ k, (rowL k).length = k + 1 := fun k => by simp [rowL]
  refine .cons (.for_ PassesOwn.never rfl (pg_name (i := 14) sc_law_pairs_so.nd rfl (.inl rfl)) (gd1 14) (.range1 (by rfl) B.range (.cons (.bin (.var 4 rfl (.int (.add (.nil ⟨_, rfl, by omega, by show ((n : Int) + 1).toNat ≤ 2 ^ 24; omega, ?_⟩))))))))
  rw [show (((n : Nat) : Int) + 1).toNat = n + 1 by omega]
  refine ⟨fun k ρ => ∃ z14 z15 z16 z17 : Sl, ρ = [.d (TI t), .d (LI p), .d (LI q), .d (.bool su), .d (.int (n : Nat)), .d (LI (pwl (mon p) (n + 1))), .d (.int (lead p)), .d (LI (pwl (mon q) (n + 1))), .d (.int (lead q)), .d (LI (pwl (mon t) (n + 1))), .d (.int (lead t)), .d (LI (rowL k)), .d (.int ((lead p * lead q) ^ k)), .d (.int (lead t ^ k)), z14, z15, z16, z17], ⟨.x, .x, .x, .x, by rw [Int.pow_zero, Int.pow_zero]; rfl⟩, ?_, ?_⟩
  · rintro k d _ hd ⟨z14, z15, z16, z17, rfl⟩
    obtain ⟨hk, rfl⟩ := get_rng hd
    rw [show (0 : Int) + ((k : Nat) : Int) = (k : Nat) by omega]
    have hk' : k ≤ n := by omega
    have f1 : ∀ j, j ≤ n → (psum (mon p) j).natAbs < 2 ^ (408 * j + 8) := fun j hj => lt_two (psum_mon_bd' hP.bd hP.ne k0 (by omega)) (by omega)
    have f2 : ∀ j, j ≤ n → (psum (mon q) j).natAbs < 2 ^ (408 * j + 8) := fun j hj => lt_two (psum_mon_bd' hQ.bd hQ.ne k1 (by omega)) (by omega)
    refine ⟨_, rfl, .cons (.set 15 sc_law_pairs_so.nd (.bin (.ix (.var 5 rfl (.var 14 rfl (.list (ix5 _ k hk') (.ix (.var 7 rfl (.var 14 rfl (.list (ix5 _ k hk') (.mul (mulok (f1 k hk') (f2 k hk') (by omega)) ?_)))))))))))⟩
    refine .cut (fun ρ => ∃ z16 z17 : Sl, ρ = [.d (TI t), .d (LI p), .d (LI q), .d (.bool su), .d (.int (n : Nat)), .d (LI (pwl (mon p) (n + 1))), .d (.int (lead p)), .d (LI (pwl (mon q) (n + 1))), .d (.int (lead q)), .d (LI (pwl (mon t) (n + 1))), .d (.int (lead t)), .d (LI (rowL k)), .d (.int ((lead p * lead q) ^ k)), .d (.int (lead t ^ k)), .d (.int (k : Nat)), .d (.int (dueOf su p q k)), z16, z17]) (.ite (.tru (.var 3 rfl ⟨su, rfl, ?_⟩))) ?_
    · cases su
      · exact no (.nil ⟨z16, z17, rfl⟩)
      refine yes (.cons (.set 15 sc_law_pairs_so.nd (.int (.cons (.set 16 sc_law_pairs_so.nd (.int (.one ?_)))))))
      refine .for_ PassesOwn.never rfl (pg_name (i := 17) sc_law_pairs_so.nd rfl (.inl rfl)) (gd1 17) (.range1 (by rfl) B.range (.cons (.bin (.var 14 rfl (.int (.add (.nil ⟨_, rfl, by omega, by show ((k : Int) + 1).toNat ≤ 2 ^ 24; omega, ?_⟩)))))))
      rw [show (((k : Nat) : Int) + 1).toNat = k + 1 by omega]
      refine ⟨fun m ρ => ∃ z17 : Sl, ρ = [.d (TI t), .d (LI p), .d (LI q), .d (.bool true), .d (.int (n : Nat)), .d (LI (pwl (mon p) (n + 1))), .d (.int (lead p)), .d (LI (pwl (mon q) (n + 1))), .d (.int (lead q)), .d (LI (pwl (mon t) (n + 1))), .d (.int (lead t)), .d (LI (rowL k)), .d (.int ((lead p * lead q) ^ k)), .d (.int (lead t ^ k)), .d (.int (k : Nat)), .d (.int (sm m fun j => (choose k j : Nat) * psum (mon p) (k - j) * psum (mon q) j * lead q ^ (k - j) * lead p ^ j)), .d (.int (lead p ^ m)), z17], ⟨z17, by rw [Int.pow_zero]; rfl⟩, ?_, ?_⟩
      · rintro j d _ hd ⟨z17, rfl⟩
        obtain ⟨hj, rfl⟩ := get_rng hd
        rw [show (0 : Int) + ((j : Nat) : Int) = (j : Nat) by omega]
        have ekj : ((k : Nat) : Int) - ((j : Nat) : Int) = ((k - j : Nat) : Int) := by omega
        have c1 : (co (rowL k) j).natAbs < 2 ^ (k + 1) := by
          rw [co_rowL (by omega)]
          exact lt_two (by simpa using choose_le k j) (Nat.lt_succ_self _)
        have c2 := f1 (k - j) (by omega)
        have c3 := f2 j (by omega)
        have c4 : (lead q ^ (k - j)).natAbs < 2 ^ (400 * (k - j) + 1) := pow_lt (hQ.bd.co _) _
        have c5 : (lead p ^ j).natAbs < 2 ^ (400 * j + 1) := pow_lt (hP.bd.co _) _
        refine ⟨_, rfl, .cons (.set 15 sc_law_pairs_so.nd (.bin (.var 15 rfl ?_)))⟩
        refine .bin (.bin (.bin (.bin (.ix (.var 11 rfl (.var 17 rfl (.list (at_nat (ns := rowL k) (by rw [rl]; omega)) (.ix (.var 5 rfl (.bin (.var 14 rfl (.var 17 rfl (.sub ?_)))))))))))))
        rw [ekj]
        refine .list (ix5 _ (k - j) (by omega)) (.mul (mulok c1 c2 (by omega)) (.ix (.var 7 rfl (.var 17 rfl (.list (ix5 _ j (by omega)) (.mul (mulok (lt_mul c1 c2) c3 (by omega)) ?_))))))
        refine .callF Po (hr.mono (by decide)) (by rfl) (.cons (.var 8 rfl (.cons (.bin (.var 14 rfl (.var 17 rfl (.sub (.nil ⟨(lead q, k - j), ?_, ⟨by dsimp only; omega, 400, hQ.bd.co _, by dsimp only; omega⟩, .mul (mulok (lt_mul (lt_mul c1 c2) c3) c4 (by omega)) ?_⟩))))))))
        · show [PyData.int _, PyData.int _] = [PyData.int _, PyData.int _]
          rw [ekj]
        refine .var 16 rfl (.mul (mulok (lt_mul (lt_mul (lt_mul c1 c2) c3) c4) c5 (by omega)) (.add ?_))
        refine .one (.set 16 sc_law_pairs_so.nd (.bin (.var 16 rfl (.var 6 rfl (.mul (mulok c5 (hP.bd.co _) (by show _ + 400 ≤ _; omega)) ⟨.d (.int (j : Nat)), ?_⟩)))))
        have er : (rowL k).getD j 0 = (choose k j : Nat) := co_rowL (by omega)
        rw [er, Int.pow_succ]
        rfl
      · rintro _ ⟨z17, rfl⟩
        rw [rng_len]
        exact ⟨_, z17, rfl⟩
    rintro _ ⟨z16, z17, rfl⟩
    have c6 : (psum (mon t) k).natAbs < 2 ^ (120008 * k + 8) := by
      by_cases h0 : k = 0
      · subst h0
        rw [psum_zero, mon_len tne, tl]
        show n + 1 - 1 < 2 ^ 8
        omega
      · exact lt_two (psum_bd (mon_gb M.plain.bd tne) (by rw [mon_len tne]; omega) k (by omega) (by omega)) (by omega)
    have c7 : ((lead p * lead q) ^ k).natAbs < 2 ^ (800 * k + 1) := pow_lt (n := 800) (lt_mul (hP.bd.co _) (hQ.bd.co _)) k
    have c8 : (lead t ^ k).natAbs < 2 ^ (120000 * k + 1) := pow_lt (M.plain.bd.co _) k
    have c9 := due_bd hP.toPolOk hQ.toPolOk (k := k) (by omega) su
    refine .cut (fun ρ => ρ = [.d (TI t), .d (LI p), .d (LI q), .d (.bool su), .d (.int (n : Nat)), .d (LI (pwl (mon p) (n + 1))), .d (.int (lead p)), .d (LI (pwl (mon q) (n + 1))), .d (.int (lead q)), .d (LI (pwl (mon t) (n + 1))), .d (.int (lead t)), .d (LI (rowL k)), .d (.int ((lead p * lead q) ^ k)), .d (.int (lead t ^ k)), .d (.int (k : Nat)), .d (.int (dueOf su p q k)), z16, z17])
      (.ite (JTw.jt (.and (.cmp (.var 4 rfl (.int (.gt (.mk (ways (fun hn0 => .and1 (.cmp ?_)) fun _ => no (.nil rfl)))))))))) ?_
    · refine .bin (.ix (.var 9 rfl (.var 14 rfl (.list (ix5 _ k hk') (.var 12 rfl (.mul (mulok c6 c7 (by omega)) (.bin (.var 15 rfl (.var 13 rfl (.mul (mulok c9 c8 (by omega)) (.neI (.mk (waysN (fun h => absurd ?_ h) fun _ => .nil rfl)))))))))))))
      exact M.eq (by omega) k (by omega)
    rintro _ rfl
    refine .cons (.par 12 13 rfl sc_law_pairs_so.nd (by decide) (.cons (.bin (.bin (.var 12 rfl (.var 6 rfl (.mul (mulok c7 (hP.bd.co _) (by show _ + 400 ≤ _; omega)) (.var 8 rfl (.mul (mulok (lt_mul c7 (hP.bd.co _)) (hQ.bd.co _) (by show _ + 400 + 400 ≤ _; omega)) (.cons (.bin (.var 13 rfl (.var 10 rfl (.mul (mulok c8 (M.plain.bd.co _) (by omega)) (.nil ⟨_, _, rfl, ?_⟩)))))))))))))))
    refine .one (.set 11 sc_law_pairs_so.nd (.bin (.bin (.lst (.cons (.int (.nil ⟨by show 1 ≤ 2 ^ 24; decide, ?_⟩)))))))
    refine .lcR 17 rfl sc_law_pairs_so.nd (⟨rfl, by decide +kernel, by decide +kernel, by decide +kernel, by decide +kernel⟩ : BlkOk N_law_pairs_so (defScope s_law_pairs_so) _ [("j", 17)]) (fun _ _ _ _ _ => pg_name (i := 17) sc_law_pairs_so.nd rfl (.inl rfl)) (by rfl) B.range
      (.var 14 rfl ⟨k, rfl, by omega, fun j => .int (co (rowL k) j + co (rowL k) (j + 1)), fun j hj s' H' Cc cl fp => ?_, .catL ?_ (.lst (.cons (.int (.nil ⟨by show 1 ≤ 2 ^ 24; decide, .catL ?_ ⟨.d (.int (k : Nat)), .d (.int (dueOf su p q k)), z16, z17, ?_⟩⟩))))⟩)
    · refine .bin (.ix (.var 11 rfl (.var 17 rfl (.list (at_nat (ns := rowL k) (by rw [rl]; omega)) (.ix (.var 11 rfl (.bin (.var 17 rfl (.int (.add ?_))))))))))
      rw [show ((j : Nat) : Int) + 1 = ((j + 1 : Nat) : Int) by omega]
      exact .list (at_nat (ns := rowL k) (by rw [rl]; omega)) (.add rfl)
    · simp
      show _ ≤ 2 ^ 24
      omega
    · simp
      show _ ≤ 2 ^ 24
      omega
    · have e1 : [PyData.int 1] ++ (List.range k).map (fun j => PyData.int (co (rowL k) j + co (rowL k) (j + 1))) ++ [PyData.int 1] = (rowL (k + 1)).map PyData.int := by
        rw [← rowL_next, List.map_append, List.map_append, List.map_map]
        rfl
      rw [e1, Int.pow_succ, Int.pow_succ, ← Int.mul_assoc]
      rfl
  · rintro _ ⟨z14, z15, z16, z17, rfl⟩
    exact .one (.ret (.bl rfl))
end
end K2
end

section
set_option Elab.async false
set_option linter.all false
set_option maxRecDepth 100000
set_option maxHeartbeats 4000000
set_option exponentiation.threshold 100000
/-! K2v: the law's fixed cases; the pool is made. -/
namespace K2
open PySem PySem.Spec PyProof.Rows L2 PD
abbrev p_always : Sp := spP (ι := Unit) (fun _ => []) (fun _ => True) fun _ d => d = .bool true
def goodB (p : List Int) : Bool := !p.isEmpty && decide (p.length ≤ 65) && p.all (fun x => decide (x.natAbs < 1000)) && decide (lead p ≠ 0)
theorem good_of {p : List Int} (h : goodB p = true) : Good p := by
  unfold goodB at h
  simp only [Bool.and_eq_true, decide_eq_true_eq, List.all_eq_true] at h
  obtain ⟨⟨⟨h1, h2⟩, h3⟩, h4⟩ := h
  refine { ne := ?_, len := h2, bd := fun x hx => ?_, last := h4 }
  · intro z; rw [z] at h1; cases h1
  · exact Nat.lt_of_lt_of_le (h3 x hx) (show 1000 ≤ 2 ^ 400 by decide)
theorem sh1 : shiftp [0, 1] 1 2 = [-1, 2] := by decide +kernel
theorem sq1 : sqr [-2, 1] = [-4, 1] := by decide +kernel
theorem su1 : sumsP [-1, 2] [-1, 3] = [-5, 6] := by decide +kernel
theorem pr1 : prodP [-1, 2] [-1, 3] = [-1, 6] := by decide +kernel
theorem sc1 : scale [-1, 1] 3 2 = [-3, 2] := by decide +kernel
theorem su2 : sumsP [-2, 0, 1] [-3, 1] = [7, -6, 1] := by decide +kernel
theorem sq2 : sqr [0, 1, 1] = [0, -1, 1] := by decide +kernel
theorem shp_TI (ns : List Int) (h : ns.length ≤ 1000) : shp 1 (PD.TI ns) := by
  refine ⟨_, rfl, by rw [List.length_map]; exact h, fun x hx => ?_⟩
  obtain ⟨i, _, rfl⟩ := List.mem_map.mp hx
  exact ⟨i, rfl⟩
section
variable {P : Program} {w : World} {K : PD.Frag} {mg : Str → Option Value} {base : Heap} {fd : FuncData} {f : Addr}
theorem ok_always (Sh : FnD P w K mg base 36 "shifted" p_shifted) (Sc : FnD P w K mg base 37 "scaled" p_scaled) (Sq : FnD P w K mg base 37 "squared" p_squared) (Su : FnD P w K mg base 37 "sums_of" p_sums_of) (Pr : FnD P w K mg base 37 "products_of" p_products_of) (Sa : FnD P w K mg base 36 "_law_same" (p_same 2))
    (F : Fun K "_law_always" "_law_always" s_law_always f fd) : FnOk P w K mg base CX0 38 f fd P_law_always p_always := by
  refine fn_ok F sc_law_always (fun _ => rfl) fun cdv A outer s H E hr i hp => ?_
  have sm : ∀ {i : Int}, i.natAbs < 1000 → small100 i := fun h => Nat.lt_of_lt_of_le h (show 1000 ≤ 2 ^ 100 by decide)
  refine .cons (.set 0 sc_law_always.nd (.tup (.cons (.callF Sh (hr.mono (by decide)) (by rfl) (.cons (.lst (.cons (.int (.cons (.int (.nil ⟨by show 2 ≤ 2 ^ 24; decide, ?_⟩)))))))))))
  refine .cons (.tup (.cons (.int (.cons (.int (.nil ⟨by show 2 ≤ 2 ^ 24; decide, .nil ⟨((true, [0, 1]), false, (1, 2)), rfl, ⟨good_of (by decide +kernel), sm (by decide), sm (by decide)⟩, ?_⟩⟩))))))
  dsimp only
  rw [sh1]
  refine .cons (.callF Sq (hr.mono (by decide)) (by rfl) (.cons (.tup (.cons (.neg (.int ⟨2, rfl, .cons (.int (.nil ⟨by show 2 ≤ 2 ^ 24; decide, .nil ⟨(false, [-2, 1]), rfl, good_of (by decide +kernel), ?_⟩⟩))⟩))))))
  dsimp only
  rw [sq1]
  refine .cons (.callF Su (hr.mono (by decide)) (by rfl) (.cons (.tup (.cons (.neg (.int ⟨1, rfl, .cons (.int (.nil ⟨by show 2 ≤ 2 ^ 24; decide, ?_⟩))⟩))))))
  refine .cons (.lst (.cons (.neg (.int ⟨1, rfl, .cons (.int (.nil ⟨by show 2 ≤ 2 ^ 24; decide, .nil ⟨((false, [-1, 2]), true, [-1, 3]), rfl, ⟨good_of (by decide +kernel), good_of (by decide +kernel), by decide⟩, ?_⟩⟩))⟩))))
  dsimp only
  rw [su1]
  refine .cons (.callF Pr (hr.mono (by decide)) (by rfl) (.cons (.lst (.cons (.neg (.int ⟨1, rfl, .cons (.int (.nil ⟨by show 2 ≤ 2 ^ 24; decide, ?_⟩))⟩))))))
  refine .cons (.tup (.cons (.neg (.int ⟨1, rfl, .cons (.int (.nil ⟨by show 2 ≤ 2 ^ 24; decide, .nil ⟨((true, [-1, 2]), false, [-1, 3]), rfl, ⟨good_of (by decide +kernel), good_of (by decide +kernel), by decide⟩, ?_⟩⟩))⟩))))
  dsimp only
  rw [pr1]
  refine .cons (.callF Sc (hr.mono (by decide)) (by rfl) (.cons (.tup (.cons (.neg (.int ⟨1, rfl, .cons (.int (.nil ⟨by show 2 ≤ 2 ^ 24; decide, ?_⟩))⟩))))))
  refine .cons (.lst (.cons (.int (.cons (.int (.nil ⟨by show 2 ≤ 2 ^ 24; decide, .nil ⟨((false, [-1, 1]), true, (3, 2)), rfl, ⟨good_of (by decide +kernel), sm (by decide), sm (by decide)⟩, ?_⟩⟩))))))
  dsimp only
  rw [sc1]
  refine .nil ⟨by show 5 ≤ 2 ^ 24; decide, ?_⟩
  refine .cons (.ite (.not (.val (.call Sa (hr.mono (by decide)) (by rfl) (.cons (.var 0 rfl (.cons (.tup (.cons ?_)))))))))
  refine .tup (.cons (.neg (.int ⟨1, rfl, .cons (.int (.nil ⟨by show 2 ≤ 2 ^ 24; decide, ?_⟩))⟩)))
  refine .cons ?_
  refine .tup (.cons (.neg (.int ⟨4, rfl, .cons (.int (.nil ⟨by show 2 ≤ 2 ^ 24; decide, ?_⟩))⟩)))
  refine .cons ?_
  refine .tup (.cons (.neg (.int ⟨5, rfl, .cons (.int (.nil ⟨by show 2 ≤ 2 ^ 24; decide, ?_⟩))⟩)))
  refine .cons ?_
  refine .tup (.cons (.neg (.int ⟨1, rfl, .cons (.int (.nil ⟨by show 2 ≤ 2 ^ 24; decide, ?_⟩))⟩)))
  refine .cons ?_
  refine .tup (.cons (.neg (.int ⟨3, rfl, .cons (.int (.nil ⟨by show 2 ≤ 2 ^ 24; decide, ?_⟩))⟩)))
  refine .nil ⟨by show 5 ≤ 2 ^ 24; decide, .nil ⟨.tuple [PD.TI [-1, 2], PD.TI [-4, 1], PD.TI [-5, 6], PD.TI [-1, 6], PD.TI [-3, 2]], rfl, ?_, fun d hd => ?_⟩⟩
  · refine ⟨_, rfl, by decide, fun x hx => ?_⟩
    simp only [List.mem_cons, List.not_mem_nil, or_false] at hx
    rcases hx with rfl | rfl | rfl | rfl | rfl
    all_goals exact shp_TI _ (by decide)
  subst hd
  refine .mk (no (.nil ?_))
  refine .one (.ret (.call Sa (hr.mono (by decide)) (by rfl) (.cons ?_)))
  refine .tup (.cons (.callF Su (hr.mono (by decide)) (by rfl) (.cons ?_)))
  refine .tup (.cons (.neg (.int ⟨2, rfl, .cons (.int (.cons (.int (.nil ⟨by show 3 ≤ 2 ^ 24; decide, ?_⟩))))⟩)))
  refine .cons ?_
  refine .tup (.cons (.neg (.int ⟨3, rfl, .cons (.int (.nil ⟨by show 2 ≤ 2 ^ 24; decide, .nil ⟨((false, [-2, 0, 1]), false, [-3, 1]), rfl, ⟨good_of (by decide +kernel), good_of (by decide +kernel), by decide⟩, ?_⟩⟩))⟩)))
  dsimp only
  rw [su2]
  refine .cons (.callF Sq (hr.mono (by decide)) (by rfl) (.cons ?_))
  refine .tup (.cons (.int (.cons (.int (.cons (.int (.nil ⟨by show 3 ≤ 2 ^ 24; decide, .nil ⟨(false, [0, 1, 1]), rfl, good_of (by decide +kernel), ?_⟩⟩)))))))
  dsimp only
  rw [sq2]
  refine .nil ⟨by show 2 ≤ 2 ^ 24; decide, .cons (.tup (.cons ?_))⟩
  refine .tup (.cons (.int (.cons (.neg (.int ⟨6, rfl, .cons (.int (.nil ⟨by show 3 ≤ 2 ^ 24; decide, ?_⟩))⟩)))))
  refine .cons ?_
  refine .tup (.cons (.int (.cons (.neg (.int ⟨1, rfl, .cons (.int (.nil ⟨by show 3 ≤ 2 ^ 24; decide, ?_⟩))⟩)))))
  refine .nil ⟨by show 2 ≤ 2 ^ 24; decide, .nil ⟨.tuple [PD.TI [7, -6, 1], PD.TI [0, -1, 1]], rfl, ?_, fun d hd => hd⟩⟩
  refine ⟨_, rfl, by decide, fun x hx => ?_⟩
  simp only [List.mem_cons, List.not_mem_nil, or_false] at hx
  rcases hx with rfl | rfl
  all_goals exact shp_TI _ (by decide)
end
end K2
end

section
set_option Elab.async false
set_option linter.all false
set_option maxRecDepth 100000
set_option maxHeartbeats 4000000
set_option exponentiation.threshold 100000
/-! K2w: the pool is made. -/
namespace K2
open PySem PySem.Spec PyProof.Rows L2 PD
def spPool (K : PD.Frag) : Sp := fun vs H Q _ => ∃ (s : Addr) (F : Hp) (ns : List Int), vs = [.ref s] ∧ Same F H ∧ (∀ H', Same F H' → SqL K H' s (ns.map V.int)) ∧ ns.length ≤ 63 ∧ ∀ a F' H' v, Same F' H' → PSt a v F' H' → Q (.ref a) H'
theorem y_script {K : PD.Frag} {F : Hp} {s : Addr} {ns : List Int} (hS : ∀ H', Same F H' → SqL K H' s (ns.map V.int)) (z : ns.length ≤ 63) : Yields (Itl K s) F (ns.map PyData.int) where
  len := by rw [List.length_map]; show _ ≤ 2 ^ 24; omega
  go := fun i H hi sm => ⟨ns.map V.int, (ns.map V.int)[i]'(by simpa using hi), hS H sm, by simp⟩
  stop := fun H sm => ⟨ns.map V.int, hS H sm, by simp⟩
  yld := fun i FH H x H' d hd s1 s2 y => by
    obtain ⟨e, y⟩ := y
    subst e
    have hx := y _ (hS _ (s1.trans s2))
    obtain ⟨hi, rfl⟩ := get_ints hd
    rw [List.getElem?_map, List.getElem?_eq_getElem hi] at hx
    have e2 : x = .int ns[i] := (Option.some.inj hx).symm
    subst e2
    have e3 : ns.getD i 0 = ns[i] := by simp [List.getD, hi]
    rw [e3]
    exact ⟨FH, .refl s2 .none, .int _⟩
section
variable {P : Program} {w : World} {K : PD.Frag} {mg : Str → Option Value} {base : Heap} {fd : FuncData} {f : Addr}
theorem ok_pool (F : Fun K "_law_pool" "_law_pool" s_law_pool f fd) : FnOk P w K mg base CX0 33 f fd P_law_pool (spPool K) := by
  refine F.ok sc_law_pool (fun vs H Q E h => ?_) (fun cdv A outer s H vs Q E hr h => ?_)
  · obtain ⟨a, F, ns, rfl, _⟩ := h
    rfl
  obtain ⟨a, F, ns, rfl, sm, hS, hl, q⟩ := h
  have st0 : Stt none (L2.start N_law_pool [.ref a]) F H [.x, .x] := by
    refine ⟨rfl, fun i s h => ?_, fun i j b ds es h1 _ _ _ => ?_, sm, .none⟩
    · match i, h with
      | 0, h => cases h; exact ⟨_, rfl, trivial⟩
      | 1, h => cases h; exact ⟨_, rfl, trivial⟩
      | i + 2, h => simp at h
    · match i, h1 with
      | 0, h => cases h
      | 1, h => cases h
      | i + 2, h => simp at h
  refine ⟨_, pss_one (ps_ret (pe_lst (pa_cons (pe_lc (own := [("cell", 1)]) rfl sc_law_pool.nd (pi_list (pe_var (i := 0) rfl (.inl rfl))) (⟨rfl, by decide +kernel, by decide +kernel, by decide +kernel, by decide +kernel⟩ : BlkOk N_law_pool (defScope s_law_pool) _ [("cell", 1)]) (fun _ _ _ _ _ => pg_name (i := 1) sc_law_pool.nd rfl (.inl rfl)) (fun s H C cl fp => pts_J (po := none) s H C cl fp (by decide)) (pe_Jb (po := none))) (pa_cons pe_int (pa_cons pe_int (pa_cons pe_int pa_nil)))))), ?_⟩
  unfold tRet tLst
  unfold tCons
  refine lc_readT (own := [("cell", 1)]) (po := none) (ρ := [.x, .x]) (R := R1 1) (Φ := fun d => ∃ cells : List Int, d = LI cells ∧ ∀ x ∈ cells, 0 ≤ x) (gd1 1) (fun R' k => ?_) st0 ?_
  · refine ⟨.ref a, rfl, a, rfl, ⟨_, hS H sm⟩, k _ F H (ns.map PyData.int) ⟨fun i acc => ∃ cells : List Int, acc = cells.map PyData.int ∧ ∀ x ∈ cells, 0 ≤ x, ⟨[], rfl, fun x hx => by cases hx⟩, ?_, ?_⟩ (.refl sm .none) (y_script hS hl)⟩
    · rintro i d acc hd _ ⟨cells, rfl, hc⟩
      obtain ⟨hi, rfl⟩ := get_ints hd
      have nx : ∀ z : Int, 0 ≤ z → ∃ cs : List Int, cells.map PyData.int ++ [PyData.int z] = cs.map PyData.int ∧ ∀ x ∈ cs, 0 ≤ x := by
        intro z hz
        refine ⟨cells ++ [z], by rw [List.map_append]; rfl, fun x hx => ?_⟩
        rcases List.mem_append.mp hx with h | h
        · exact hc x h
        · rcases List.mem_singleton.mp h with rfl
          exact hz
      refine ⟨_, rfl, fun s' H' Cc cl fp => .ifx (.cmp (.var 1 rfl (.int (.ge (.mk (ways (fun h => ?_) fun h => ?_))))))⟩
      · exact .bin (.int (.var 1 rfl (.mul (mulokL (by decide)) (nx _ (by omega)))))
      · exact .bin (.bin (.neg (.int ⟨2, rfl, .var 1 rfl (.mul (mulokL (by decide)) (.int (.sub (nx _ (by omega)))))⟩)))
    · rintro acc _ ⟨cells, rfl, hc⟩
      exact ⟨cells, rfl, hc⟩
  · rintro v F' H' d ⟨cells, rfl, hc⟩ A r
    refine ⟨by show 4 ≤ 2 ^ 24; decide, fun p n => ?_⟩
    obtain ⟨c, xs, rfl, h1, rd⟩ := dp_list r
    have e := dints rd
    subst e
    refine q p F' _ ⟨c, cells, 0, 0, 17⟩ (fun b u e => ?_) ⟨A.sub.free n, upd_same, h1, ⟨hc, Int.le_refl 0, Int.le_refl 0, (show (0 : Int) ≤ 17 by decide), (show (17 : Int) < 2147483647 by decide)⟩⟩
    rw [upd_ne (ne_of_none (A.sub b u e) n)]
    exact A.sub b u e
end
end K2
end

section
set_option Elab.async false
set_option linter.all false
set_option maxRecDepth 100000
set_option maxHeartbeats 4000000
set_option exponentiation.threshold 100000
/-! K2x: law. -/
namespace K2
open PySem PySem.Spec PyProof.Rows L2 PD
structure Maths : Prop where
  moved : ∀ ns, Good ns → MovedOk ns
  sums : ∀ p q, Good p → Good q → deg2 p q ≤ 64 → PairOk (sumsP p q) p q true
  prods : ∀ p q, Good p → Good q → deg2 p q ≤ 64 → PairOk (prodP p q) p q false
  symS : ∀ p q, Good p → Good q → deg2 p q ≤ 64 → sumsP q p = sumsP p q
  symP : ∀ p q, Good p → Good q → deg2 p q ≤ 64 → prodP q p = prodP p q
def spLaw (K : PD.Frag) : Sp := fun vs H Q _ => ∃ (s : Addr) (ns : List Int), vs = [.ref s] ∧ (∀ H', Same H H' → SqL K H' s (ns.map V.int)) ∧ ns.length ≤ 63 ∧ ∀ H', Q (.bl true) H'
theorem Row.good {b l : Nat} {ns : List Int} (h : Row b l ns) (hb : b ≤ 400) (hl : l ≤ 65) : Good ns := { ne := h.ne, len := Nat.le_trans h.len hl, bd := h.bd.mono hb, last := h.top }
theorem deg_comm (p q : List Int) : deg2 p q = deg2 q p := Nat.mul_comm _ _
theorem good_snoc {l : List Int} {b : Nat} {z : Int} (hb : Bd b l) (hb4 : b ≤ 400) (hl : l.length ≤ 64) (h0 : z ≠ 0) (hz : z.natAbs < 2 ^ 400) : Good (l ++ [z]) where
  ne := by simp
  len := by rw [List.length_append]; show _ + 1 ≤ _; omega
  bd := fun x hx => by
    rcases List.mem_append.mp hx with h | h
    · exact (hb.mono hb4) x h
    · rcases List.mem_singleton.mp h with rfl
      exact hz
  last := by
    unfold lead
    rw [List.length_append, show l.length + [z].length - 1 = l.length from rfl, co_last]
    exact h0
theorem Bd.take {b : Nat} {l : List Int} (h : Bd b l) (k : Nat) : Bd b (l.take k) := fun x hx => h x (List.mem_of_mem_take hx)
def tsA (X : Cx) (sts : List Stmt) : TS := fun D σ H => ∃ po, tsJ X po sts D σ H
theorem pss_A {X : Cx} {sts : List Stmt} : PSs X sts (tsA X sts) := ⟨fun pins s σ H D I ⟨po, h⟩ => (pss_J (po := po)).run pins s σ H D I h⟩
section
variable {P : Program} {w : World} {K : PD.Frag} {mg : Str → Option Value} {base : Heap} {fd : FuncData} {f : Addr}
theorem ok_law (M : Maths) (Gp : FnD P w K mg base 33 "_law_pool" (spPool K)) (Ga : FnD P w K mg base 38 "_law_always" p_always) (T : FnD P w K mg base 34 "_law_take" p_take) (G : FnD P w K mg base 35 "_law_pick" p_pick) (O : FnD P w K mg base 38 "_law_one" p_one) (Y : FnD P w K mg base 36 "_law_any" p_any)
    (Mo : FnD P w K mg base 38 "_law_moved_so" p_moved_so) (Pa : FnD P w K mg base 36 "_law_pairs_so" p_pairs_so) (Su : FnD P w K mg base 37 "sums_of" p_sums_of) (Pr : FnD P w K mg base 37 "products_of" p_products_of) (Sa : FnD P w K mg base 35 "_law_same" (p_same 1))
    (sr : base.NoSeer) (ht : P.given.tree = none) (B : Bi mg) (F : Fun K "law" "law" s_law f fd) : FnOk P w K mg base CX0 40 f fd P_law (spLaw K) := by
  refine F.ok sc_law (fun vs H Q E h => ?_) (fun cdv A outer s H vs Q E hr h => ?_)
  · obtain ⟨a, ns, rfl, _⟩ := h
    rfl
  obtain ⟨sa, ns, rfl, hS, hl, q⟩ := h
  obtain ⟨fp, fdp, psp, GP, gm, gk, gb⟩ := Gp
  have sx := seer_b (P := P) (w := w) (K := K) (mg := mg) (outer := outer) (H := H) (E := E) (s := s) sc_law hr (by decide) sr ht
  refine ⟨_, pss_cons (ps_set (i := 1) sc_law.nd rfl (.inl rfl) (pe_call GP (hr.mono (by decide)) (by rfl) gm gk gb .nil pass0 (pa_cons (pe_var (i := 0) rfl (.inl rfl)) pa_nil))) pss_A, ?_⟩
  refine ⟨.ref sa, rfl, sa, H, ns, rfl, Same.refl H, hS, hl, fun a F' H' v sm ps => ?_⟩
  refine ⟨some a, ?_⟩
  have pok : PoolOk (some a) F' H' := fun b hb => by cases hb; exact ps.pool
  have st0 : Stt (some a) ((L2.start N_law [V.ref sa]).set 1 (some (.ref a))) F' H' [.x, .pool, .x, .x, .x, .x, .x] := by
    refine ⟨rfl, fun i s h => ?_, fun i j b ds es h1 _ _ _ => ?_, sm, pok⟩
    · match i, h with
      | 0, h => cases h; exact ⟨_, rfl, trivial⟩
      | 1, h => cases h; exact ⟨_, rfl, a, rfl, rfl⟩
      | 2, h => cases h; exact ⟨_, rfl, trivial⟩
      | 3, h => cases h; exact ⟨_, rfl, trivial⟩
      | 4, h => cases h; exact ⟨_, rfl, trivial⟩
      | 5, h => cases h; exact ⟨_, rfl, trivial⟩
      | 6, h => cases h; exact ⟨_, rfl, trivial⟩
      | i + 7, h => simp at h
    · match i, h1 with
      | 0, h => cases h
      | 1, h => cases h
      | 2, h => cases h
      | 3, h => cases h
      | 4, h => cases h
      | 5, h => cases h
      | 6, h => cases h
      | i + 7, h => simp at h
  refine tsJ_of (P := { nx := fun _ => False, rt := fun d => d = .bool true }) ?_ ⟨st0, .refl sm pok, fun i ds b h1 _ => ?_⟩ ⟨fun _ _ _ _ z => z.elim, fun u F2 H2 d k _ r => ?_, fun _ _ _ _ z => z.elim, fun _ _ _ _ z => z.elim⟩
  · refine .cons (.ite (.not (.val (.call0 Ga (hr.mono (by decide)) (by rfl) ⟨(), rfl, trivial, fun d hd => ?_⟩))))
    subst hd
    refine .mk (no (.nil ?_))
    refine .cut (fun ρ => ∃ z2 z3 z4 z5 z6 : Sl, ρ = [.x, .pool, z2, z3, z4, z5, z6]) ?_ ?_
    · refine .for_ PassesOwn.never rfl (pg_name (i := 2) sc_law.nd rfl (.inl rfl)) (gd1 2) (.range1 (by rfl) B.range (.cons (.int (.nil ⟨1, rfl, by decide, by decide, fun k ρ => ∃ z2 z3 z4 z5 z6 : Sl, ρ = [.x, .pool, z2, z3, z4, z5, z6], ⟨.x, .x, .x, .x, .x, rfl⟩, ?_, fun ρ h => h⟩))))
      rintro k d _ hd ⟨z2, z3, z4, z5, z6, rfl⟩
      refine ⟨_, rfl, .cons (.par 3 4 rfl sc_law.nd (by decide) (.cons (.callQ 1 O (hr.mono (by decide)) (by rfl) rfl (.nil ⟨(), rfl, trivial, fun d hd => ?_⟩))))⟩
      obtain ⟨p, rfl, hp⟩ := hd
      refine .cons (.callQ 1 O (hr.mono (by decide)) (by rfl) rfl (.nil ⟨(), rfl, trivial, fun d hd => ?_⟩))
      obtain ⟨q, rfl, hq⟩ := hd
      refine .nil ⟨_, _, rfl, ?_⟩
      have gp := hp.good (by decide) (by decide)
      have gq := hq.good (by decide) (by decide)
      have lp : 0 < p.length := List.length_pos_iff.mpr hp.ne
      have lp2 := hp.len
      have lq2 := hq.len
      have lq : 0 < q.length := List.length_pos_iff.mpr hq.ne
      refine .cons (.ite (.not (.val (.callQ 1 Mo (hr.mono (by decide)) (by rfl) rfl (.cons (.var 3 rfl (.nil ⟨p, rfl, ⟨gp, M.moved p gp⟩, fun d hd => ?_⟩)))))))
      subst hd
      refine .mk (no (.nil ?_))
      refine .cons (.set 5 sc_law.nd (.bin (.int (.toInt (by rfl) B.int (.bin (.callQ 1 G (hr.mono (by decide)) (by rfl) rfl (.cons (.lst (.cons (.int (.cons (.int (.cons (.int (.nil ⟨by show 3 ≤ 2 ^ 24; decide, .nil ⟨_, rfl, ⟨by simp, by show 3 ≤ 1000; decide⟩, fun d hd => ?_⟩⟩)))))))))))))))
      have hs : ∃ y : Nat, d = .int (y : Nat) ∧ y ≤ 36 := by
        simp only [List.mem_cons, List.not_mem_nil, or_false] at hd
        rcases hd with rfl | rfl | rfl
        · exact ⟨20, rfl, by decide⟩
        · exact ⟨20, rfl, by decide⟩
        · exact ⟨36, rfl, by decide⟩
      obtain ⟨y, rfl, hy⟩ := hs
      refine .max2 rfl (by rfl) B.max (.int (.bin (.len (by rfl) B.len (.var 3 rfl ⟨_, .inl rfl, .int (.sub ⟨_, _, rfl, rfl, .fdiv sx (by omega) ⟨_, rfl, .add ?_⟩⟩)⟩))))
      have ek : (1 : Int) + (y : Nat) / max (1 : Int) (((p.map PyData.int).length : Int) - 1) = ((1 + y / max 1 (p.length - 1) : Nat) : Int) := by
        rw [List.length_map, show max (1 : Int) ((p.length : Int) - 1) = ((max 1 (p.length - 1) : Nat) : Int) by omega, ← Int.natCast_ediv]
        omega
      rw [ek]
      have hdeg : (p.length - 1) * (y / max 1 (p.length - 1)) ≤ 36 := by
        refine Nat.le_trans (Nat.mul_le_mul_right _ (show p.length - 1 ≤ max 1 (p.length - 1) by omega)) ?_
        exact Nat.le_trans (Nat.mul_div_le _ _) hy
      generalize y / max 1 (p.length - 1) = m at hdeg
      have tne : q.take (1 + m) ≠ [] := fun z => by
        have := congrArg List.length z
        rw [List.length_take] at this
        have : min (1 + m) q.length = 0 := this
        omega
      have etk : PD.cutD (q.map PyData.int) none (some ((1 + m : Nat) : Int)) = (q.take (1 + m)).map PyData.int := by rw [cut_to, ← List.map_take]
      refine .cut (fun ρ => ∃ (r : List Int) (z2 z5 z6 : Sl), ρ = [.x, .pool, z2, .d (LI p), .d (LI r), z5, z6] ∧ Good r ∧ deg2 p r ≤ 64) (.set 4 sc_law.nd (.ifx (.cmp (.ix (.sliceL (.var 4 rfl (.var 5 rfl ⟨_, rfl, _, rfl, .neg (.int ⟨1, rfl, ?_⟩)⟩))))))) ?_
      · rw [etk]
        refine .list (at_last tne) (.int (.neI (.mk (waysN (fun h => ?_) fun h => ?_))))
        · refine .sliceL (.var 4 rfl (.var 5 rfl ⟨_, rfl, _, rfl, q.take (1 + m), .d d, .d (.int ((1 + m : Nat) : Int)), z6, by rw [etk]; rfl, ⟨⟨tne, by rw [List.length_take]; omega, gq.bd.take _⟩, h⟩, ?_⟩))
          have : (q.take (1 + m)).length - 1 ≤ m := by rw [List.length_take]; omega
          exact Nat.le_trans (Nat.mul_le_mul_left _ this) (by omega)
        · refine .bin (.sliceL (.var 4 rfl (.int ⟨_, rfl, _, rfl, .lst (.cons (.int (.nil ⟨by show 1 ≤ 2 ^ 24; decide, .catL ?_ ⟨q.take 1 ++ [2], .d d, .d (.int ((1 + m : Nat) : Int)), z6, ?_, good_snoc (gq.bd.take 1) (Nat.le_refl _) (by rw [List.length_take]; omega) (by decide) (Nat.lt_of_lt_of_le (show (2 : Int).natAbs < 2 ^ 2 by decide) (le_two (by decide))), ?_⟩⟩)))⟩)))
          · rw [show (1 : Int) = ((1 : Nat) : Int) from rfl, cut_to, ← List.map_take, List.length_map, List.length_take]
            show _ + 1 ≤ 2 ^ 24
            omega
          · rw [show (1 : Int) = ((1 : Nat) : Int) from rfl, cut_to, ← List.map_take]
            show [_, _, _, _, Sl.d (PyData.list _), _, _] = [_, _, _, _, Sl.d (PyData.list (List.map _ (_ ++ [2]))), _, _]
            rw [List.map_append]
            rfl
          · have : (q.take 1 ++ [2]).length - 1 ≤ 1 := by rw [List.length_append, List.length_take]; show min 1 q.length + 1 - 1 ≤ 1; omega
            exact Nat.le_trans (Nat.mul_le_mul_left _ this) (by omega)
      rintro _ ⟨r, z2, z5, z6, rfl, gr, hd⟩
      have hd' : deg2 r p ≤ 64 := by rw [deg_comm]; exact hd
      refine .cons (.ite (JTw.jt (.or (.not (.val ?_)))))
      refine .call Pa (hr.mono (by decide)) (by rfl) (.cons (.callF Su (hr.mono (by decide)) (by rfl) (.cons (.var 3 rfl (.cons (.var 4 rfl (.nil ⟨((true, p), true, r), rfl, ⟨gp, gr, hd⟩, ?_⟩)))))))
      refine .cons (.var 3 rfl (.cons (.var 4 rfl (.cons (.bl (.nil ⟨(sumsP p r, (p, r), true), rfl, ⟨gp, gr, hd, M.sums p r gp gr hd⟩, fun d hd => ?_⟩))))))
      subst hd
      refine .mk (no (.or1 (.not (.val ?_))))
      refine .call Pa (hr.mono (by decide)) (by rfl) (.cons (.callF Pr (hr.mono (by decide)) (by rfl) (.cons (.var 4 rfl (.cons (.tupOf (by rfl) B.tuple (.var 3 rfl ⟨_, .inl rfl, .nil ⟨((true, r), false, p), rfl, ⟨gr, gp, hd'⟩, ?_⟩⟩))))))) 
      refine .cons (.var 4 rfl (.cons (.var 3 rfl (.cons (.bl (.nil ⟨(prodP r p, (r, p), false), rfl, ⟨gr, gp, hd', M.prods r p gr gp hd'⟩, fun d hd => ?_⟩))))))
      subst hd
      refine .mk (no (.nil ?_))
      refine .one (.ite (JTw.jt (.or (.not (.val ?_)))))
      refine .call Sa (hr.mono (by decide)) (by rfl) (.cons (.callF Su (hr.mono (by decide)) (by rfl) (.cons (.var 4 rfl (.cons (.var 3 rfl (.nil ⟨((true, r), true, p), rfl, ⟨gr, gp, hd'⟩, ?_⟩)))))))
      refine .cons (.callF Su (hr.mono (by decide)) (by rfl) (.cons (.var 3 rfl (.cons (.var 4 rfl (.nil ⟨((true, p), true, r), rfl, ⟨gp, gr, hd⟩, ?_⟩))))))
      refine .nil ⟨PD.TI (sumsP p r), by dsimp only; rw [M.symS p r gp gr hd], shp_TI _ (by rw [(M.sums p r gp gr hd).plain.len]; omega), fun d hd => ?_⟩
      subst hd
      refine .mk (no (.or1 (.not (.val ?_))))
      refine .call Sa (hr.mono (by decide)) (by rfl) (.cons (.callF Pr (hr.mono (by decide)) (by rfl) (.cons (.var 3 rfl (.cons (.var 4 rfl (.nil ⟨((true, p), true, r), rfl, ⟨gp, gr, hd⟩, ?_⟩)))))))
      refine .cons (.callF Pr (hr.mono (by decide)) (by rfl) (.cons (.var 4 rfl (.cons (.var 3 rfl (.nil ⟨((true, r), true, p), rfl, ⟨gr, gp, hd'⟩, ?_⟩))))))
      refine .nil ⟨PD.TI (prodP p r), by dsimp only; rw [M.symP p r gp gr hd], shp_TI _ (by rw [(M.prods p r gp gr hd).plain.len]; omega), fun d hd => ?_⟩
      subst hd
      exact .mk (no (.nil ⟨_, _, _, _, _, rfl⟩))
    rintro _ ⟨z2, z3, z4, z5, z6, rfl⟩
    refine .cons (.set 6 sc_law.nd (.callQ 1 T (hr.mono (by decide)) (by rfl) rfl (.cons (.int (.nil ⟨12, rfl, by decide, fun d hd => ?_⟩)))))
    obtain ⟨far, rfl, hf0, hf1⟩ := hd
    have any_ok : ∀ (n : Nat) (k : Int), n ≤ 64 → sizeOk k → n ≤ 64 ∧ sizeOk k := fun _ _ h1 h2 => ⟨h1, h2⟩
    refine .cons (.ite (.cmp (.var 6 rfl (.int (.gt (.mk (ways (fun h => .one (.ret (.bl rfl))) fun h => .nil ?_)))))))
    refine .cons (.ite (.cmp (.var 6 rfl (.int (.eqI (.mk (ways (fun h => .one (.ret ?_)) fun h => .nil ?_)))))))
    · refine .callQ 1 Mo (hr.mono (by decide)) (by rfl) rfl (.cons (.callQ 1 Y (hr.mono (by decide)) (by rfl) rfl (.cons (.int (.cons (.int (.nil ⟨(64, 3), rfl, ⟨by decide, by decide, by decide⟩, fun d hd => ?_⟩)))))))
      obtain ⟨ns, rfl, hl, h0, hb⟩ := hd
      dsimp only at hl
      have gn : Good ns := { ne := fun e => by rw [e] at hl; exact absurd hl (by decide), len := by omega, bd := hb.mono (by decide), last := h0 }
      exact .nil ⟨ns, rfl, ⟨gn, M.moved ns gn⟩, fun d hd => hd⟩
    refine .cons (.ite (.cmp (.var 6 rfl (.int (.eqI (.mk (ways (fun h => ?_) fun h => .nil ?_)))))))
    · refine .cons (.par 3 4 rfl sc_law.nd (by decide) (.cons (.bin (.sliceL (.callQ 1 Y (hr.mono (by decide)) (by rfl) rfl (.cons (.int (.cons (.int (.nil ⟨(8, 2), rfl, ⟨by decide, by decide, by decide⟩, fun d hd => ?_⟩))))))))))
      obtain ⟨p, rfl, hl, h0, hb⟩ := hd
      dsimp only at hl
      refine .int ⟨_, rfl, _, rfl, .lst (.cons (.int (.nil ⟨by show 1 ≤ 2 ^ 24; decide, .catL ?_ ?_⟩)))⟩
      · rw [show (8 : Int) = ((8 : Nat) : Int) from rfl, cut_to, ← List.map_take, List.length_map, List.length_take]
        show _ + 1 ≤ 2 ^ 24
        omega
      rw [show (8 : Int) = ((8 : Nat) : Int) from rfl, cut_to, ← List.map_take]
      refine .cons (.bin (.sliceL (.callQ 1 Y (hr.mono (by decide)) (by rfl) rfl (.cons (.int (.cons (.int (.nil ⟨(8, 2), rfl, ⟨by decide, by decide, by decide⟩, fun d hd => ?_⟩))))))))
      obtain ⟨q, rfl, hl2, h02, hb2⟩ := hd
      dsimp only at hl2
      refine .int ⟨_, rfl, _, rfl, .lst (.cons (.neg (.int ⟨1, rfl, .nil ⟨by show 1 ≤ 2 ^ 24; decide, .catL ?_ ?_⟩⟩)))⟩
      · rw [cut_to, ← List.map_take, List.length_map, List.length_take]
        show _ + 1 ≤ 2 ^ 24
        omega
      rw [cut_to, ← List.map_take]
      have e1 : (p.take 8).map PyData.int ++ [PyData.int 1] = (p.take 8 ++ [1]).map PyData.int := by rw [List.map_append]; rfl
      have e2 : (q.take 8).map PyData.int ++ [PyData.int (-1)] = (q.take 8 ++ [-1]).map PyData.int := by rw [List.map_append]; rfl
      rw [e1, e2]
      have gp : Good (p.take 8 ++ [1]) := good_snoc (hb.take 8) (by decide) (by rw [List.length_take]; omega) (by decide) (Nat.lt_of_lt_of_le (show (1 : Int).natAbs < 2 ^ 2 by decide) (le_two (by decide)))
      have gq : Good (q.take 8 ++ [-1]) := good_snoc (hb2.take 8) (by decide) (by rw [List.length_take]; omega) (by decide) (Nat.lt_of_lt_of_le (show (-1 : Int).natAbs < 2 ^ 2 by decide) (le_two (by decide)))
      have hd : deg2 (p.take 8 ++ [1]) (q.take 8 ++ [-1]) ≤ 64 := by
        unfold deg2
        rw [List.length_append, List.length_append, List.length_take, List.length_take, hl, hl2]
        decide
      refine .nil ⟨_, _, rfl, .one (.ret ?_)⟩
      refine .call Pa (hr.mono (by decide)) (by rfl) (.cons (.callF Pr (hr.mono (by decide)) (by rfl) (.cons (.var 3 rfl (.cons (.var 4 rfl (.nil ⟨((true, p.take 8 ++ [1]), true, q.take 8 ++ [-1]), rfl, ⟨gp, gq, hd⟩, ?_⟩)))))))
      exact .cons (.var 3 rfl (.cons (.var 4 rfl (.cons (.bl (.nil ⟨(prodP (p.take 8 ++ [1]) (q.take 8 ++ [-1]), (p.take 8 ++ [1], q.take 8 ++ [-1]), false), rfl, ⟨gp, gq, hd, M.prods _ _ gp gq hd⟩, fun d hd => hd⟩))))))
    refine .cons (.ite (.cmp (.var 6 rfl (.int (.eqI (.mk (ways (fun h => ?_) fun h => .nil ?_)))))))
    · refine .cons (.par 3 4 rfl sc_law.nd (by decide) (.cons (.callQ 1 Y (hr.mono (by decide)) (by rfl) rfl (.cons (.bin (.int (.callQ 1 T (hr.mono (by decide)) (by rfl) rfl (.cons (.int (.nil ⟨5, rfl, by decide, fun d hd => ?_⟩))))))))))
      obtain ⟨x, rfl, hx0, hx1⟩ := hd
      refine .add (.cons (.int (.nil ⟨((60 + x).toNat, 2), ?_, ⟨by dsimp only; omega, (show (0 : Int) < 2 by decide), (show (2 : Int) ≤ 1000000 by decide)⟩, fun d hd => ?_⟩)))
      · show [PyData.int _, _] = [PyData.int _, _]
        rw [Int.toNat_of_nonneg (by omega)]
      obtain ⟨p, rfl, hl, h0, hb⟩ := hd
      dsimp only at hl
      refine .cons (.callQ 1 Y (hr.mono (by decide)) (by rfl) rfl (.cons (.int (.cons (.int (.nil ⟨(1, 2), rfl, ⟨by decide, by decide, by decide⟩, fun d hd => ?_⟩))))))
      obtain ⟨q, rfl, hl2, h02, hb2⟩ := hd
      dsimp only at hl2
      have gq : Good q := { ne := fun e => by rw [e] at hl2; exact absurd hl2 (by decide), len := by omega, bd := hb2.mono (by decide), last := h02 }
      refine .nil ⟨_, _, rfl, .cons (.set 3 sc_law.nd (.bin (.sliceL (.var 3 rfl (.bin (.len (by rfl) B.len (.var 3 rfl ⟨_, .inl rfl, .int (.sub ⟨_, rfl, _, rfl, .lst (.cons (.int (.nil ⟨by show 1 ≤ 2 ^ 24; decide, .catL ?_ ?_⟩)))⟩)⟩)))))))⟩
      all_goals rw [show ((p.map PyData.int).length : Int) - 1 = ((p.length - 1 : Nat) : Int) by rw [List.length_map]; omega, cut_to, ← List.map_take]
      · rw [List.length_map, List.length_take]
        show _ + 1 ≤ 2 ^ 24
        omega
      have e1 : (p.take (p.length - 1)).map PyData.int ++ [PyData.int 1] = (p.take (p.length - 1) ++ [1]).map PyData.int := by rw [List.map_append]; rfl
      rw [e1]
      have gp : Good (p.take (p.length - 1) ++ [1]) := good_snoc (hb.take _) (by decide) (by rw [List.length_take]; omega) (by decide) (Nat.lt_of_lt_of_le (show (1 : Int).natAbs < 2 ^ 2 by decide) (le_two (by decide)))
      generalize p.take (p.length - 1) ++ [1] = r at gp
      have hd : deg2 q r ≤ 64 := by
        unfold deg2
        rw [hl2]
        have := gp.len
        omega
      refine .one (.ret (.call Pa (hr.mono (by decide)) (by rfl) (.cons (.callF Pr (hr.mono (by decide)) (by rfl) (.cons (.var 4 rfl (.cons (.var 3 rfl (.nil ⟨((true, q), true, r), rfl, ⟨gq, gp, hd⟩, ?_⟩)))))))))
      exact .cons (.var 4 rfl (.cons (.var 3 rfl (.cons (.bl (.nil ⟨(prodP q r, (q, r), false), rfl, ⟨gq, gp, hd, M.prods _ _ gq gp hd⟩, fun d hd => hd⟩))))))
    refine .cons (.par 3 4 rfl sc_law.nd (by decide) (.cons (.callQ 1 Y (hr.mono (by decide)) (by rfl) rfl (.cons (.int (.cons (.int (.nil ⟨(8, 3), rfl, ⟨by decide, by decide, by decide⟩, fun d hd => ?_⟩))))))))
    obtain ⟨p, rfl, hl, h0, hb⟩ := hd
    dsimp only at hl
    refine .cons (.callQ 1 Y (hr.mono (by decide)) (by rfl) rfl (.cons (.int (.cons (.int (.nil ⟨(8, 3), rfl, ⟨by decide, by decide, by decide⟩, fun d hd => ?_⟩))))))
    obtain ⟨q, rfl, hl2, h02, hb2⟩ := hd
    dsimp only at hl2
    have gp : Good p := { ne := fun e => by rw [e] at hl; exact absurd hl (by decide), len := by omega, bd := hb.mono (by decide), last := h0 }
    have gq : Good q := { ne := fun e => by rw [e] at hl2; exact absurd hl2 (by decide), len := by omega, bd := hb2.mono (by decide), last := h02 }
    have hd : deg2 p q ≤ 64 := by
      unfold deg2
      rw [hl, hl2]
      decide
    refine .nil ⟨_, _, rfl, .one (.ret (.call Pa (hr.mono (by decide)) (by rfl) (.cons (.callF Su (hr.mono (by decide)) (by rfl) (.cons (.var 3 rfl (.cons (.var 4 rfl (.nil ⟨((true, p), true, q), rfl, ⟨gp, gq, hd⟩, ?_⟩)))))))))⟩
    exact .cons (.var 3 rfl (.cons (.var 4 rfl (.cons (.bl (.nil ⟨(sumsP p q, (p, q), true), rfl, ⟨gp, gq, hd, M.sums _ _ gp gq hd⟩, fun d hd => hd⟩))))))
  · match i, h1 with
    | 0, h => cases h
    | 1, h => cases h
    | 2, h => cases h
    | 3, h => cases h
    | 4, h => cases h
    | 5, h => cases h
    | 6, h => cases h
    | i + 7, h => simp at h
  · subst k
    cases r
    exact q _
end
end K2
end

section
set_option Elab.async false
set_option linter.all false
set_option maxRecDepth 100000
set_option maxHeartbeats 4000000
/-! K2y: from the law's promise, over heaps without a seer, to the walk. -/
namespace PD
open PySem PySem.Spec PyProof.Rows L2
section
variable {P : Program} {w : World} {K : Frag} {mg mb : Str → Option Value} {k : Nat} {fa a : Addr} {fd : FuncData} {sp : Sp} {s₁ : Shared} {vs : List Value} {ns : List Int}
/-- the script's object -/
abbrev scr (vs : List Value) : Obj := { cls := .type "list", data := .seq vs.toArray }
theorem ns_ne {h : Heap} {b : Addr} {m : Str → Option Value} (n : h.Ns b m) (ha : h.get? a = some (scr vs)) : b ≠ a := by
  rintro rfl
  obtain ⟨o, es, ep, e, dd, _⟩ := n
  have := Option.some.inj (ha.symm.trans e)
  subst this
  cases dd
theorem only_at {H : Hp} {h : Heap} (hA : ∀ b, b ≠ a → H b = none) {b : Addr} {o : Obj} (n : b ≠ a) (e : h.get? b = some o) : (hidT h H).get? b = some o := hidT_get e (hA b n)
theorem ns_hid {H : Hp} {h : Heap} (hA : ∀ b, b ≠ a → H b = none) (ha : h.get? a = some (scr vs)) {b : Addr} {m : Str → Option Value} (n : h.Ns b m) : (hidT h H).Ns b m := by
  have hb := ns_ne n ha
  obtain ⟨o, es, ep, e, r⟩ := n
  exact ⟨o, es, ep, only_at hA hb e, r⟩
theorem seer_hid {H : Hp} {h : Heap} (hA : ∀ b, b ≠ a → H b = none) (ha : h.get? a = some (scr vs)) (n : h.NoSeer) : (hidT h H).NoSeer := by
  obtain ⟨⟨m1, x1, y1⟩, ⟨m2, x2, y2⟩, ⟨m3, x3, y3⟩, ⟨m4, bm, ob, x4, y4, z4, c4, d4⟩⟩ := n
  refine ⟨⟨m1, ns_hid hA ha x1, y1⟩, ⟨m2, ns_hid hA ha x2, y2⟩, ⟨m3, ns_hid hA ha x3, y3⟩, ⟨m4, bm, ob, ns_hid hA ha x4, y4, only_at hA ?_ z4, c4, d4⟩⟩
  rintro rfl
  have := Option.some.inj (ha.symm.trans z4)
  subst this
  have c5 : Value.type "list" = Value.type "module" := c4
  injection c5 with c6
  exact absurd c6 (by decide)
theorem call_of (KX : K.In s₁.heap) (g : s₁.heap.Ns mainGlobals mg) (bl : s₁.heap.Ns builtinsNs mb) (bb : ∀ x : Str, x ≠ "__name__" → mb x = bootBuiltins x) (nl : s₁.heap.NoLimit) (sr : s₁.heap.NoSeer) (gs : s₁.gens = #[])
    (ha : s₁.heap.get? a = some (scr vs)) (hi : IntsAre vs ns) (hl : ns.length ≤ 63) (hr : Room k callerA)
    (F : ∀ base : Heap, K.In base → base.Ns mainGlobals mg → base.NoSeer → FnOk P w K mg base CX0 k fa fd ["script"] sp) (hb : ∀ (s : Shared) (u : Value), BindsTo s fd ⟨[u], []⟩ [("script", u)])
    (hsp : ∀ H : Hp, (∀ H', Same H H' → SqL K H' a (ns.map V.int)) → sp [.ref a] H (fun v _ => v = .bl true) fun _ _ _ => False) :
    codeAny (model P w) callerA (.call (.ref fa) ⟨[.ref a], []⟩) (fun r s' => r = .ok (.ret (.bool true)) ∧ OldK s₁.heap s'.heap ∧ s'.os = s₁.os ∧ AllBare s'.gens) s₁ := by
  have rv := vals_ints hi
  have z24 : ns.length ≤ sizeLine := Nat.le_trans hl (by decide)
  have core : ∀ H : Hp, (∀ b, b ≠ a → H b = none) → (H a = none ∨ (K.lookup a = none ∧ ∃ o xs, H a = some (.frz o (.lst xs)))) → (∀ H', Same H H' → SqL K H' a (ns.map V.int)) → HOk P w H s₁.heap →
      codeAny (model P w) callerA (.call (.ref fa) ⟨[.ref a], []⟩) (fun r s' => r = .ok (.ret (.bool true)) ∧ OldK s₁.heap s'.heap ∧ s'.os = s₁.os ∧ AllBare s'.gens) s₁ := by
    intro H hA hH hS hok
    have kin : K.In (hidT s₁.heap H) := fun b o e => by
      have e1 := KX b o e
      refine hidT_get e1 ?_
      by_cases n : b = a
      · subst n
        rcases hH with q | ⟨q, _⟩
        · exact q
        · rw [q] at e; cases e
      · exact hA b n
    have gh := ns_hid hA ha g
    have nlh : (hidT s₁.heap H).NoLimit := by
      obtain ⟨mc, n1, n2⟩ := nl
      exact ⟨mc, ns_hid hA ha n1, n2⟩
    have env : Env0 P w K mg (hidT s₁.heap H) callerA [] s₁ H := {
      frames := rfl
      mod := ⟨kin, gh, ⟨mb, ns_hid hA ha bl, bb⟩, nlh⟩
      bs := fun b o e => of_hidT e
      bsz := Nat.le_of_eq (hidT_size _ _)
      funs := trivial
      frf := fun b z => by cases z
      hok := hok
      bare := .of_eq gs }
    have run := (F _ kin gh (seer_hid hA ha sr)).run callerA [] s₁ H ⟨[.ref a], []⟩ [.ref a] [.ref a] _ _ hr env (hb s₁ (.ref a)) (.cons rfl .nil) (hsp H hS)
    refine codeAny_mono run fun r s' h => ?_
    rcases r with e | fl
    · exact (id h : False).elim
    rcases fl with _ | _ | _ | u
    · exact (id h : False).elim
    · exact (id h : False).elim
    · exact (id h : False).elim
    obtain ⟨v, H', os, bare, un, hok', r', q⟩ := h
    have q' : v = .bl true := q
    subst q'
    have eu : u = Value.bool true := r'
    subst eu
    refine ⟨rfl, OldK.of_keep fun b o e => ?_, os, bare⟩
    by_cases n : H b = none
    · exact un.keep b o e n (fun z => by cases z) (by simp)
    · have eb : b = a := Classical.byContradiction fun z => n (hA b z)
      subst eb
      rcases hH with z | ⟨_, ob, xs, z⟩
      · exact absurd z n
      · have z2 := un.frzs b ob _ z
        have e1 := (hok b _ z).1
        have e2 := (hok' b _ z2).1
        rw [e] at e1
        cases e1
        exact e2
  rcases hk : K.lookup a with _ | o
  · refine core (fun b => if b = a then some (.frz (scr vs) (.lst (ns.map V.int))) else none) (fun b n => if_neg n) (.inr ⟨hk, _, _, if_pos rfl⟩) (fun H' sm => .inl (.inr ⟨scr vs, sm a _ (if_pos rfl)⟩)) fun b u z => ?_
    by_cases n : b = a
    · subst n
      have z' := (if_pos rfl).symm.trans z
      cases z'
      exact ⟨ha, by rw [List.length_map]; exact z24, vs, _, rv, ha⟩
    · have z' := (if_neg n).symm.trans z
      cases z'
  · have e := KX a o hk
    rw [ha] at e
    cases e
    refine core (fun _ => none) (fun _ _ => rfl) (.inl rfl) (fun H' _ => .inr ⟨_, vs.toArray, _, hk, rfl, rfl, rfl, ?_, by simpa using rv⟩) fun b u z => by cases z
    rw [List.size_toArray, hi.length]
    exact z24
end
/-- what k_head leaves, from the law's promise over heaps without a seer -/
theorem walk_mine {l : PySem.W.OpenLaw} {k : Nat} {q : Program} {loose : List Str} {XP : (Str → Option Value) → Heap → Prop} {YP : World → Heap → Prop} {d : DefRec} {K : Params → Frag} {sp : World → Sp}
    (hn : l.most = some 63) (hdf : d.params.defaults = []) (hr : Room k callerA) (hY : ∀ (w : World) (h : Heap), YP w h → (K w.params).In h) (hq : importsNone q = true)
    (F : ∀ (w : World) (mg : Str → Option Value) (fa : Addr) (h : Heap), (K w.params).In h → h.Ns mainGlobals mg → mg d.name = some (.ref fa) → ∃ fd : FuncData, (∀ (s : Shared) (u : Value), BindsTo s fd ⟨[u], []⟩ [("script", u)]) ∧
      ∀ base : Heap, (K w.params).In base → base.Ns mainGlobals mg → base.NoSeer → FnOk l.prog w (K w.params) mg base CX0 k fa fd ["script"] (sp w))
    (hsp : ∀ (w : World) (H : Hp) (a : Addr) (ns : List Int), ns.length ≤ 63 → (∀ H', Same H H' → SqL (K w.params) H' a (ns.map V.int)) → sp w [.ref a] H (fun v _ => v = .bl true) fun _ _ _ => False) :
    PySem.W.WalkO q loose XP YP l.row.toRowW d [] (fun f vs => PySem.call f vs) :=
  Att.attach_call hn hdf fun w s₀ s₁ mg mb fa o pm cd doc a vs ns G Y _ _ _ hmg hobj hints hlen hg => by
    have KX := hY w _ Y
    obtain ⟨fd, hb, hF⟩ := F w mg fa _ KX G.T.g hmg
    exact call_of KX G.T.g G.T.b G.T.builtins G.T.nolimit (G.T.seer hq) hg hobj hints hlen hr hF hb fun H hS => hsp w H a ns hlen hS
end PD
end

section
set_option Elab.async false
set_option linter.all false
set_option maxRecDepth 100000
set_option maxHeartbeats 4000000
/-! K2ma: mathematics, (C): both ways round. -/
namespace K2
open PD (choose choose_above choose_self choose_symm)
theorem prodL_comm (p q : List Int) (n : Nat) : prodL q p n = prodL p q n := by
  unfold prodL
  exact List.map_congr_left fun k _ => Int.mul_comm _ _
theorem sumsL_comm (p q : List Int) (n : Nat) : sumsL q p n = sumsL p q n := by
  unfold sumsL
  refine List.map_congr_left fun k _ => ?_
  rw [sm_rev]
  refine sm_congr fun j hj => ?_
  have e1 : k + 1 - 1 - j = k - j := by omega
  have e2 : k - (k - j) = j := by omega
  rw [e1, e2, choose_symm (show j ≤ k by omega)]
  generalize fst' q p (k - j) = x
  generalize fst' p q j = y
  rw [Int.mul_assoc, Int.mul_assoc, Int.mul_comm x y]
theorem symS (p q : List Int) : sumsP q p = sumsP p q := by
  unfold sumsP
  rw [deg_comm q p, sumsL_comm, Int.mul_comm (lead q)]
theorem symP (p q : List Int) : prodP q p = prodP p q := by
  unfold prodP
  rw [deg_comm q p, prodL_comm, Int.mul_comm (lead q)]
end K2
end

section
set_option Elab.async false
set_option linter.all false
set_option maxRecDepth 100000
set_option maxHeartbeats 4000000
/-! K2mb: mathematics, (A): the plain form of a row. -/
namespace K2
theorem cont_scale (g : Nat) : ∀ (l : List Int) (a : Nat), (l.map fun x => x * (g : Int)).foldl (fun g x => Nat.gcd g x.natAbs) (a * g) = l.foldl (fun g x => Nat.gcd g x.natAbs) a * g
  | [], a => rfl
  | x :: l, a => by
    rw [List.map_cons, List.foldl_cons, List.foldl_cons]
    have e : Nat.gcd (a * g) (x * (g : Int)).natAbs = Nat.gcd a x.natAbs * g := by
      rw [Int.natAbs_mul, Int.natAbs_natCast, Nat.gcd_mul_right]
    rw [e]
    exact cont_scale g l _
theorem cont_mul (l : List Int) (g : Nat) : cont (l.map fun x => x * (g : Int)) = cont l * g := by
  have := cont_scale g l 0
  rw [Nat.zero_mul] at this
  exact this
theorem cont_neg (l : List Int) : cont (l.map fun x => -x) = cont l := by
  unfold cont
  rw [List.foldl_map]
  simp
/-- t is ns without its content and with a lead above 0 -/
structure PlainIs (ns t : List Int) (c : Int) : Prop where
  c0 : c ≠ 0
  eq : ∀ i, co ns i = c * co t i
  len : t.length = ns.length
  pos : 0 < lead t
  one : cont t = 1
  le : ∀ b, Bd b ns → Bd b t
theorem small_is {ns : List Int} (h : lead ns ≠ 0) : small ns = ns.map fun x : Int => x / ((cont ns : Nat) : Int) := by
  unfold small
  split
  · rfl
  · rename_i h1
    have hne : ns ≠ [] := fun z => by rw [z] at h; exact h rfl
    have l0 : 0 < ns.length := List.length_pos_iff.mpr hne
    have c0 := (cont_le (x := lead ns) (co_mem (by omega)) h).1
    have e : cont ns = 1 := by omega
    rw [e]
    simp
theorem plain_is {ns : List Int} (h : lead ns ≠ 0) : ∃ c, PlainIs ns (plain ns) c := by
  have hne : ns ≠ [] := fun z => by rw [z] at h; exact h rfl
  have l0 : 0 < ns.length := List.length_pos_iff.mpr hne
  have c0 := (cont_le (x := lead ns) (co_mem (by omega)) h).1
  have hm : (small ns).map (fun x => x * ((cont ns : Nat) : Int)) = ns := by
    rw [small_is h, List.map_map]
    conv => rhs; rw [← List.map_id ns]
    exact List.map_congr_left fun x hx => Int.ediv_mul_cancel (cont_dvd hx)
  have hl : (small ns).length = ns.length := by rw [small_is h, List.length_map]
  have h1 : cont (small ns) = 1 := by
    have e := cont_mul (small ns) (cont ns)
    rw [hm] at e
    exact (Nat.eq_of_mul_eq_mul_right c0 (by rw [← e, Nat.one_mul]))
  have he : ∀ i, co ns i = ((cont ns : Nat) : Int) * co (small ns) i := fun i => by
    conv => lhs; rw [← hm]
    rw [co_mapI _ _ (by simp), Int.mul_comm]
  have hle : ∀ b, Bd b ns → Bd b (small ns) := fun b hb x hx => by
    rw [small_is h] at hx
    obtain ⟨y, hy, rfl⟩ := List.mem_map.mp hx
    exact Nat.lt_of_le_of_lt (natAbs_div_le y c0) (hb y hy)
  have hs : small ns ≠ [] := fun z => by rw [z] at hl; exact absurd hl (by simp; omega)
  have hlead : lead ns = ((cont ns : Nat) : Int) * lead (small ns) := by
    unfold lead
    rw [hl]
    exact he _
  by_cases hn : lead (small ns) < 0
  · have ep : plain ns = (small ns).map fun x => -x := by
      unfold plain
      rw [if_pos ⟨hs, hn⟩]
    refine ⟨-((cont ns : Nat) : Int), by omega, fun i => ?_, by rw [ep, List.length_map, hl], ?_, by rw [ep, cont_neg, h1], fun b hb x hx => ?_⟩
    · rw [ep, co_mapI _ _ (by simp), he i, Int.neg_mul_neg]
    · unfold lead at hn ⊢
      rw [ep, List.length_map, co_mapI _ _ (by simp)]
      omega
    · rw [ep] at hx
      obtain ⟨y, hy, rfl⟩ := List.mem_map.mp hx
      rw [Int.natAbs_neg]
      exact hle b hb y hy
  · have ep : plain ns = small ns := by
      unfold plain
      rw [if_neg fun z => hn z.2]
    refine ⟨((cont ns : Nat) : Int), by omega, fun i => by rw [ep, he i], by rw [ep, hl], ?_, by rw [ep, h1], fun b hb => by rw [ep]; exact hle b hb⟩
    rw [ep]
    have : lead (small ns) ≠ 0 := fun z => by rw [z, Int.mul_zero] at hlead; exact h hlead
    omega
end K2
end

section
set_option Elab.async false
set_option linter.all false
set_option maxRecDepth 100000
set_option maxHeartbeats 4000000
/-! K2mc: mathematics, (A): values of rows; a row of n + 1 numbers has at most n places where it vanishes. -/
namespace K2
def evL : List Int → Int → Int
  | [], _ => 0
  | a :: t, x => a + x * evL t x
/-- divided by (x - z) -/
def sd : List Int → Int → List Int
  | [], _ => []
  | [_], _ => []
  | _ :: b :: t, z => evL (b :: t) z :: sd (b :: t) z
theorem sd_len (z : Int) : ∀ p : List Int, (sd p z).length = p.length - 1
  | [] => rfl
  | [_] => rfl
  | _ :: b :: t => by
    show (sd (b :: t) z).length + 1 = _
    rw [sd_len z (b :: t)]
    rfl
theorem sd_ev (x z : Int) : ∀ p : List Int, evL p x - evL p z = (x - z) * evL (sd p z) x
  | [] => by simp [evL, sd]
  | [a] => by simp [evL, sd]
  | a :: b :: t => by
    have ih := sd_ev x z (b :: t)
    show a + x * evL (b :: t) x - (a + z * evL (b :: t) z) = (x - z) * (evL (b :: t) z + x * evL (sd (b :: t) z) x)
    grind
theorem lead_cons (a b : Int) (t : List Int) : lead (a :: b :: t) = lead (b :: t) := rfl
theorem sd_lead (z : Int) : ∀ (a b : Int) (t : List Int), lead (sd (a :: b :: t) z) = lead (a :: b :: t)
  | a, b, [] => by
    show evL [b] z = b
    simp [evL]
  | a, b, c :: t => by
    show lead (evL (b :: c :: t) z :: sd (b :: c :: t) z) = _
    have ih := sd_lead z b c t
    have hl := sd_len z (b :: c :: t)
    cases h : sd (b :: c :: t) z with
    | nil => rw [h] at hl; exact absurd hl (by simp)
    | cons u v =>
      rw [h] at ih
      rw [lead_cons, ih]
      rfl
/-- a row with a lead doesn't vanish at as many distinct places as it has numbers -/
theorem no_roots : ∀ (n : Nat) (p : List Int) (z : Nat → Int), p.length = n + 1 → lead p ≠ 0 → (∀ i j, i ≤ n → j ≤ n → i ≠ j → z i ≠ z j) → ∃ k, k ≤ n ∧ evL p (z k) ≠ 0
  | 0, p, z, hl, h0, _ => by
    obtain ⟨a, rfl⟩ : ∃ a, p = [a] := by
      match p, hl with
      | [a], _ => exact ⟨a, rfl⟩
    refine ⟨0, Nat.le_refl _, ?_⟩
    simpa [evL, lead, co] using h0
  | n + 1, p, z, hl, h0, hz => by
    by_cases h : evL p (z 0) = 0
    · obtain ⟨a, b, t, rfl⟩ : ∃ a b t, p = a :: b :: t := by
        match p, hl with
        | a :: b :: t, _ => exact ⟨a, b, t, rfl⟩
      obtain ⟨k, hk, hv⟩ := no_roots n (sd (a :: b :: t) (z 0)) (fun i => z (i + 1)) (by rw [sd_len, hl]; rfl) (by rw [sd_lead]; exact h0) fun i j hi hj hne => hz (i + 1) (j + 1) (by omega) (by omega) (by omega)
      refine ⟨k + 1, by omega, fun e => ?_⟩
      have := sd_ev (z (k + 1)) (z 0) (a :: b :: t)
      rw [e, h, Int.sub_zero] at this
      rcases Int.mul_eq_zero.mp this.symm with q | q
      · exact hz (k + 1) 0 (by omega) (by omega) (by omega) (by omega)
      · exact hv q
    · exact ⟨0, Nat.zero_le _, h⟩
end K2
end

section
set_option Elab.async false
set_option linter.all false
set_option maxRecDepth 100000
set_option maxHeartbeats 4000000
/-! K2md: mathematics, (A): values by sums; sums and products of rows. -/
namespace K2
theorem evL_sm (x : Int) : ∀ p : List Int, evL p x = sm p.length fun i => co p i * x ^ i
  | [] => rfl
  | a :: t => by
    show a + x * evL t x = sm (t.length + 1) fun i => co (a :: t) i * x ^ i
    rw [sm_succ, evL_sm x t, ← sm_mul]
    have e : co (a :: t) 0 * x ^ 0 = a := by rw [Int.pow_zero, Int.mul_one]; rfl
    rw [e]
    congr 1
    refine sm_congr fun i _ => ?_
    show x * (co t i * x ^ i) = co t i * x ^ (i + 1)
    rw [Int.pow_succ]
    grind
theorem evL_more (x : Int) (p : List Int) {n : Nat} (h : p.length ≤ n) : evL p x = sm n fun i => co p i * x ^ i := by
  rw [evL_sm]
  exact (sm_more h fun i hi _ => by rw [co_out hi, Int.zero_mul]).symm
theorem hom_scale (p : List Int) (g u v : Int) : ∀ k, hom p (g * u) (g * v) (k + 1) = g ^ k * hom p u v (k + 1)
  | 0 => by
    show 0 * (g * u) + co p (p.length - 1 - 0) * (g * v) ^ 0 = g ^ 0 * (0 * u + co p (p.length - 1 - 0) * v ^ 0)
    simp
  | k + 1 => by
    have ih := hom_scale p g u v k
    show hom p (g * u) (g * v) (k + 1) * (g * u) + co p (p.length - 1 - (k + 1)) * (g * v) ^ (k + 1) = g ^ (k + 1) * (hom p u v (k + 1) * u + co p (p.length - 1 - (k + 1)) * v ^ (k + 1))
    rw [ih, Int.mul_pow, Int.pow_succ g k]
    grind
theorem hom_sm (p : List Int) (u v : Int) : ∀ k, hom p u v k = sm k fun i => co p (p.length - 1 - i) * v ^ i * u ^ (k - 1 - i)
  | 0 => rfl
  | k + 1 => by
    show hom p u v k * u + co p (p.length - 1 - k) * v ^ k = sm k (fun i => co p (p.length - 1 - i) * v ^ i * u ^ (k + 1 - 1 - i)) + co p (p.length - 1 - k) * v ^ k * u ^ (k + 1 - 1 - k)
    have e : k + 1 - 1 - k = 0 := by omega
    rw [hom_sm p u v k, e, Int.pow_zero, Int.mul_one, ← sm_mulR]
    congr 1
    refine sm_congr fun i hi => ?_
    have e2 : k + 1 - 1 - i = (k - 1 - i) + 1 := by omega
    rw [e2, Int.pow_succ]
    grind
theorem hom_full (p : List Int) (u v : Int) : hom p u v p.length = sm p.length fun i => co p i * u ^ i * v ^ (p.length - 1 - i) := by
  rw [hom_sm, sm_rev]
  refine sm_congr fun i hi => ?_
  have e : p.length - 1 - (p.length - 1 - i) = i := by omega
  rw [e]
  grind
theorem evL_hom (p : List Int) (x : Int) : evL p x = hom p x 1 p.length := by
  rw [hom_full, evL_sm]
  exact sm_congr fun i _ => by rw [Int.one_pow, Int.mul_one]
end K2
end

section
set_option Elab.async false
set_option linter.all false
set_option maxRecDepth 100000
set_option maxHeartbeats 4000000
/-! K2me: mathematics, (A): values of sums and products of rows. -/
namespace K2
theorem stopAt_zero (ns : List Int) : ∀ k i, stopAt ns k ≤ i → i < k → co ns i = 0
  | 0, i, _, h => by omega
  | k + 1, i, h1, h2 => by
    unfold stopAt at h1
    split at h1
    · rename_i h
      by_cases e : i = k
      · subst e; exact h
      · exact stopAt_zero ns k i h1 (by omega)
    · omega
theorem co_trim (p : List Int) (i : Nat) : co (trim p) i = co p i := by
  unfold trim
  by_cases h : i < stopAt p p.length
  · simp only [co, List.getD, List.getElem?_take]
    rw [if_pos h]
  · rw [co_out (by rw [List.length_take]; omega)]
    by_cases h2 : i < p.length
    · exact (stopAt_zero p p.length i (by omega) h2).symm
    · exact (co_out (by omega)).symm
theorem co_padd (p q : List Int) (i : Nat) : co (padd p q) i = co p i + co q i := by
  unfold padd
  rw [co_trim, co_map]
  split
  · rfl
  · rw [co_out (p := p) (by omega), co_out (p := q) (by omega)]; rfl
theorem co_pmult (p : List Int) (z : Int) (i : Nat) : co (pmult p z) i = co p i * z := by
  unfold pmult
  rw [co_trim, co_mapI _ _ (by simp)]
theorem evL_padd (p q : List Int) (x : Int) : evL (padd p q) x = evL p x + evL q x := by
  rw [evL_more x (padd p q) (padd_len p q), evL_more x p (Nat.le_max_left p.length q.length), evL_more x q (Nat.le_max_right p.length q.length), ← sm_add]
  exact sm_congr fun i _ => by rw [co_padd, Int.add_mul]
theorem evL_pmult (p : List Int) (z x : Int) : evL (pmult p z) x = evL p x * z := by
  rw [evL_more x (pmult p z) (pmult_len p z), evL_sm x p, ← sm_mulR]
  exact sm_congr fun i _ => by rw [co_pmult]; grind
theorem evL_trim (p : List Int) (x : Int) : evL (trim p) x = evL p x := by
  rw [evL_more x (trim p) (trim_len p), evL_sm x p]
  exact sm_congr fun i _ => by rw [co_trim]
end K2
end

section
set_option Elab.async false
set_option linter.all false
set_option maxRecDepth 100000
set_option maxHeartbeats 4000000
/-! K2mf: mathematics, (A): values of products of rows. -/
namespace K2
theorem evL_pmul2 (p : List Int) (a b x : Int) : evL (pmul p [a, b]) x = evL p x * (a + b * x) := by
  have h : (pmul p [a, b]).length ≤ p.length + 1 := Nat.le_trans (pmul_len p [a, b]) (by show p.length + 2 - 1 ≤ _; omega)
  rw [evL_more x (pmul p [a, b]) h, evL_sm x p]
  have key : ∀ n k, k ≤ n → sm (n + 1) (fun i => acc p [a, b] k i * x ^ i) = sm k (fun i => co p i * x ^ i) * (a + b * x) := by
    intro n k
    induction k with
    | zero =>
      intro _
      rw [sm_zero (n + 1) fun i _ => by show (0 : Int) * _ = 0; rw [Int.zero_mul]]
      exact (Int.zero_mul _).symm
    | succ k ih =>
      intro hk
      have e : ∀ i, acc p [a, b] (k + 1) i * x ^ i = acc p [a, b] k i * x ^ i + (if k ≤ i then co p k * co [a, b] (i - k) else 0) * x ^ i := fun i => Int.add_mul _ _ _
      rw [sm_congr fun i _ => e i, sm_add, ih (by omega)]
      have s2 : sm (n + 1) (fun i => (if k ≤ i then co p k * co [a, b] (i - k) else 0) * x ^ i) = co p k * a * x ^ k + co p k * b * x ^ (k + 1) := by
        have e2 : ∀ i, (if k ≤ i then co p k * co [a, b] (i - k) else 0) * x ^ i = (if i = k then co p k * a * x ^ k else 0) + (if i = k + 1 then co p k * b * x ^ (k + 1) else 0) := fun i => by
          by_cases h1 : i = k
          · subst h1
            rw [if_pos (Nat.le_refl i), if_pos rfl, if_neg (by omega), Nat.sub_self, Int.add_zero]
            rfl
          · by_cases h2 : i = k + 1
            · subst h2
              rw [if_pos (by omega), if_neg h1, if_pos rfl, show k + 1 - k = 1 by omega, Int.zero_add]
              rfl
            · rw [if_neg h1, if_neg h2]
              by_cases h3 : k ≤ i
              · rw [if_pos h3, co_out (p := [a, b]) (by show 2 ≤ i - k; omega), Int.mul_zero, Int.zero_mul]; rfl
              · rw [if_neg h3, Int.zero_mul]; rfl
        rw [sm_congr fun i _ => e2 i, sm_add, sm_one (k := k) (by omega) fun i _ hne => if_neg hne, sm_one (k := k + 1) (by omega) fun i _ hne => if_neg hne, if_pos rfl, if_pos rfl]
      rw [s2]
      show _ = (sm k (fun i => co p i * x ^ i) + co p k * x ^ k) * (a + b * x)
      rw [Int.pow_succ]
      grind
  have := key p.length p.length (Nat.le_refl _)
  rw [← this]
  exact sm_congr fun i _ => by rw [co_pmul]
end K2
end

section
set_option Elab.async false
set_option linter.all false
set_option maxRecDepth 100000
set_option maxHeartbeats 4000000
/-! K2mg: mathematics, (A): the turned row. -/
namespace K2
theorem trim_ne {a b : Int} (h : b ≠ 0) : trim [a, b] = [a, b] := by
  unfold trim
  have : stopAt [a, b] 2 = 2 := by
    unfold stopAt
    rw [if_neg (show ¬ [a, b].getD 1 0 = 0 from h)]
  show List.take (stopAt [a, b] 2) [a, b] = _
  rw [this]
  rfl
theorem trim_ze {c : Int} (h : c ≠ 0) : trim [c, 0] = [c] := by
  unfold trim
  have : stopAt [c, 0] 2 = 1 := by
    unfold stopAt
    rw [if_pos (show [c, 0].getD 1 0 = 0 from rfl)]
    unfold stopAt
    rw [if_neg (show ¬ [c, 0].getD 0 0 = 0 from h)]
  show List.take (stopAt [c, 0] 2) [c, 0] = _
  rw [this]
  rfl
theorem pmul_one (u c : Int) : pmul [u] [c] = [u * c] := by
  unfold pmul
  rw [if_neg (by simp)]
  simp [acc, sm, co]
end K2
end

section
set_option Elab.async false
set_option linter.all false
set_option maxRecDepth 100000
set_option maxHeartbeats 4000000
/-! K2na: mathematics, (D): sequences of whole numbers under the Cauchy product, a commutative ring. -/
namespace K2
theorem sm_tri (F : Nat → Nat → Int) : ∀ n, sm (n + 1) (fun k => sm (k + 1) fun i => F i (k - i)) = sm (n + 1) fun i => sm (n - i + 1) (F i)
  | 0 => rfl
  | n + 1 => by
    show sm (n + 1) (fun k => sm (k + 1) fun i => F i (k - i)) + sm (n + 1 + 1) (fun i => F i (n + 1 - i)) = sm (n + 1) (fun i => sm (n + 1 - i + 1) (F i)) + sm (n + 1 - (n + 1) + 1) (F (n + 1))
    have e : sm (n + 1) (fun i => sm (n + 1 - i + 1) (F i)) = sm (n + 1) (fun i => sm (n - i + 1) (F i)) + sm (n + 1) (fun i => F i (n + 1 - i)) := by
      rw [← sm_add]
      refine sm_congr fun i hi => ?_
      rw [show n + 1 - i = n - i + 1 by omega]
      rfl
    rw [e, sm_tri F n, show n + 1 - (n + 1) = 0 by omega]
    show _ + (sm (n + 1) (fun i => F i (n + 1 - i)) + F (n + 1) (n + 1 - (n + 1))) = _ + (0 + F (n + 1) 0)
    rw [show n + 1 - (n + 1) = 0 by omega]
    omega
structure Sr where
  a : Nat → Int
namespace Sr
theorem ext {f g : Sr} (h : ∀ n, f.a n = g.a n) : f = g := by
  cases f; cases g
  congr
  exact funext h
def C (c : Int) : Sr := ⟨fun n => if n = 0 then c else 0⟩
def add (f g : Sr) : Sr := ⟨fun n => f.a n + g.a n⟩
def neg (f : Sr) : Sr := ⟨fun n => -f.a n⟩
def sub (f g : Sr) : Sr := ⟨fun n => f.a n - g.a n⟩
def mul (f g : Sr) : Sr := ⟨fun n => sm (n + 1) fun i => f.a i * g.a (n - i)⟩
def pow (f : Sr) : Nat → Sr
  | 0 => C 1
  | n + 1 => mul (pow f n) f
theorem mul_comm' (f g : Sr) : mul f g = mul g f := ext fun n => by
  show sm (n + 1) _ = sm (n + 1) _
  rw [sm_rev]
  refine sm_congr fun i hi => ?_
  rw [show n + 1 - 1 - i = n - i by omega, show n - (n - i) = i by omega, Int.mul_comm]
theorem mul_assoc' (f g h : Sr) : mul (mul f g) h = mul f (mul g h) := ext fun n => by
  show sm (n + 1) (fun k => sm (k + 1) (fun i => f.a i * g.a (k - i)) * h.a (n - k)) = sm (n + 1) (fun i => f.a i * sm (n - i + 1) (fun j => g.a j * h.a (n - i - j)))
  have e := sm_tri (fun i j => f.a i * (g.a j * h.a (n - i - j))) n
  rw [sm_congr (f := fun i => f.a i * sm (n - i + 1) (fun j => g.a j * h.a (n - i - j))) (g := fun i => sm (n - i + 1) fun j => f.a i * (g.a j * h.a (n - i - j))) fun i _ => (sm_mul _ _ _).symm]
  refine Eq.trans (sm_congr fun k hk => ?_) e
  rw [← sm_mulR]
  refine sm_congr fun i hi => ?_
  rw [show n - i - (k - i) = n - k by omega, Int.mul_assoc]
theorem C_mul' (c : Int) (f : Sr) : mul (C c) f = ⟨fun n => c * f.a n⟩ := ext fun n => by
  show sm (n + 1) (fun i => (if i = 0 then c else 0) * f.a (n - i)) = c * f.a n
  rw [sm_one (k := 0) (by omega) fun i _ h => by rw [if_neg h, Int.zero_mul]]
  rfl
theorem left_distrib' (f g h : Sr) : mul f (add g h) = add (mul f g) (mul f h) := ext fun n => by
  show sm (n + 1) (fun i => f.a i * (g.a (n - i) + h.a (n - i))) = sm (n + 1) (fun i => f.a i * g.a (n - i)) + sm (n + 1) (fun i => f.a i * h.a (n - i))
  rw [← sm_add]
  exact sm_congr fun i _ => Int.mul_add _ _ _
theorem zero_mul' (f : Sr) : mul (C 0) f = C 0 := by
  rw [C_mul']
  exact ext fun n => by
    show 0 * f.a n = if n = 0 then 0 else 0
    rw [Int.zero_mul]
    split <;> rfl
instance ring : Lean.Grind.CommRing Sr where
  add := add
  mul := mul
  neg := neg
  sub := sub
  natCast := ⟨fun n => C n⟩
  ofNat := fun n => ⟨C n⟩
  nsmul := ⟨fun n f => mul (C n) f⟩
  npow := ⟨pow⟩
  intCast := ⟨C⟩
  zsmul := ⟨fun i f => mul (C i) f⟩
  add_zero f := ext fun n => by
    show f.a n + (if n = 0 then ((0 : Nat) : Int) else 0) = f.a n
    split <;> exact Int.add_zero _
  add_comm f g := ext fun n => Int.add_comm _ _
  add_assoc f g h := ext fun n => Int.add_assoc _ _ _
  mul_assoc := mul_assoc'
  mul_comm := mul_comm'
  mul_one f := by
    show mul f (C 1) = f
    rw [mul_comm', C_mul']
    exact ext fun n => Int.one_mul _
  one_mul f := by
    show mul (C 1) f = f
    rw [C_mul']
    exact ext fun n => Int.one_mul _
  left_distrib := left_distrib'
  right_distrib f g h := by
    show mul (add f g) h = add (mul f h) (mul g h)
    rw [mul_comm', left_distrib', mul_comm' h f, mul_comm' h g]
  zero_mul f := zero_mul' f
  mul_zero f := (mul_comm' f (C 0)).trans (zero_mul' f)
  pow_zero f := rfl
  pow_succ f n := rfl
  ofNat_succ n := ext fun k => by
    show (if k = 0 then ((n + 1 : Nat) : Int) else 0) = (if k = 0 then ((n : Nat) : Int) else 0) + (if k = 0 then ((1 : Nat) : Int) else 0)
    split
    · exact Int.natCast_add n 1
    · rfl
  neg_add_cancel f := ext fun n => by
    show -f.a n + f.a n = if n = 0 then ((0 : Nat) : Int) else 0
    rw [Int.add_left_neg]
    split <;> rfl
  sub_eq_add_neg f g := ext fun n => Int.sub_eq_add_neg
  neg_zsmul i f := by
    show mul (C (-i)) f = neg (mul (C i) f)
    rw [C_mul', C_mul']
    exact ext fun n => Int.neg_mul _ _
  intCast_neg i := ext fun n => by
    show (if n = 0 then -i else 0) = -(if n = 0 then i else 0)
    split <;> rfl
theorem a_add (f g : Sr) (n : Nat) : (f + g).a n = f.a n + g.a n := rfl
theorem a_sub (f g : Sr) (n : Nat) : (f - g).a n = f.a n - g.a n := rfl
theorem a_neg (f : Sr) (n : Nat) : (-f).a n = -f.a n := rfl
theorem a_mul (f g : Sr) (n : Nat) : (f * g).a n = sm (n + 1) fun i => f.a i * g.a (n - i) := rfl
theorem a_C (c : Int) (f : Sr) (n : Nat) : (C c * f).a n = c * f.a n := congrFun (congrArg Sr.a (C_mul' c f)) n
theorem one_eq : (1 : Sr) = C 1 := rfl
theorem C_add (c d : Int) : C (c + d) = C c + C d := ext fun n => by
  show (if n = 0 then c + d else 0) = (if n = 0 then c else 0) + (if n = 0 then d else 0)
  split <;> rfl
theorem C_mul (c d : Int) : C (c * d) = C c * C d := ext fun n => by
  rw [a_C]
  show (if n = 0 then c * d else 0) = c * (if n = 0 then d else 0)
  split
  · rfl
  · exact (Int.mul_zero c).symm
theorem C_neg (c : Int) : C (-c) = -C c := ext fun n => by
  show (if n = 0 then -c else 0) = -(if n = 0 then c else 0)
  split <;> rfl
/-- x to the d -/
def X (d : Nat) : Sr := ⟨fun n => if n = d then 1 else 0⟩
theorem a_X (d : Nat) (f : Sr) (n : Nat) : (X d * f).a n = if d ≤ n then f.a (n - d) else 0 := by
  show sm (n + 1) (fun i => (if i = d then 1 else 0) * f.a (n - i)) = _
  by_cases h : d ≤ n
  · rw [if_pos h, sm_one (k := d) (by omega) fun i _ e => by rw [if_neg e, Int.zero_mul], if_pos rfl, Int.one_mul]
  · rw [if_neg h]
    exact sm_zero _ fun i hi => by rw [if_neg (by omega), Int.zero_mul]
example (f g h : Sr) : (f + g) * (f - g) * h = h * f ^ 2 - g * h * g := by grind
/-- the derivation x d/dx -/
def th (f : Sr) : Sr := ⟨fun n => (n : Int) * f.a n⟩
theorem th_mul (f g : Sr) : th (f * g) = th f * g + f * th g := ext fun n => by
  rw [a_add, a_mul, a_mul, ← sm_add]
  show (n : Int) * sm (n + 1) _ = _
  rw [← sm_mul]
  refine sm_congr fun i hi => ?_
  show (n : Int) * (f.a i * g.a (n - i)) = (i : Int) * f.a i * g.a (n - i) + f.a i * (((n - i : Nat) : Int) * g.a (n - i))
  have : (n : Int) = (i : Int) + ((n - i : Nat) : Int) := by omega
  generalize ((n - i : Nat) : Int) = w at *
  rw [this]
  grind
theorem th_C (c : Int) : th (C c) = C 0 := ext fun n => by
  show (n : Int) * (if n = 0 then c else 0) = if n = 0 then 0 else 0
  split
  · rename_i h
    subst h
    exact Int.zero_mul c
  · exact Int.mul_zero _
end Sr
end K2
end

section
set_option Elab.async false
set_option linter.all false
set_option maxRecDepth 100000
set_option maxHeartbeats 4000000
/-! K2nb: mathematics, (D): primes; Newton sums of whole series and their congruences. -/
namespace K2
def Pr (p : Nat) : Prop := 2 ≤ p ∧ ∀ d, d ∣ p → d = 1 ∨ d = p
theorem Pr.cop {p n : Nat} (h : Pr p) (k : ¬ p ∣ n) : Nat.Coprime p n := by
  rcases h.2 (Nat.gcd p n) (Nat.gcd_dvd_left _ _) with e | e
  · exact e
  · exact absurd (e ▸ Nat.gcd_dvd_right p n) k
theorem some_Pr : ∀ n, 2 ≤ n → ∃ p, Pr p ∧ p ∣ n := by
  intro n
  induction n using Nat.strongRecOn with
  | ind n ih =>
    intro h
    by_cases c : ∀ d, d ∣ n → d = 1 ∨ d = n
    · exact ⟨n, ⟨h, c⟩, Nat.dvd_refl n⟩
    · obtain ⟨d, hd⟩ := Classical.not_forall.mp c
      have hd1 : d ∣ n := Classical.byContradiction fun z => hd fun q => absurd q z
      have hd2 : d ≠ 1 := fun z => hd fun _ => .inl z
      have hd3 : d ≠ n := fun z => hd fun _ => .inr z
      have hle := Nat.le_of_dvd (by omega) hd1
      have h0 : 0 < d := Nat.pos_of_dvd_of_pos hd1 (by omega)
      obtain ⟨p, hp, hpd⟩ := ih d (by omega) (by omega)
      exact ⟨p, hp, Nat.dvd_trans hpd hd1⟩
theorem strip {p : Nat} (hp : 2 ≤ p) : ∀ n, 0 < n → ∃ r m, n = p ^ r * m ∧ ¬ p ∣ m ∧ 0 < m := by
  intro n
  induction n using Nat.strongRecOn with
  | ind n ih =>
    intro h
    by_cases c : p ∣ n
    · obtain ⟨k, rfl⟩ := c
      have hk : 0 < k := Nat.pos_of_ne_zero fun z => by subst z; simp at h
      have hlt : k < p * k := by
        have := Nat.mul_le_mul_right k hp
        omega
      obtain ⟨r, m, e, hm, h0⟩ := ih k hlt hk
      exact ⟨r + 1, m, by rw [e, Nat.pow_succ, Nat.mul_comm (p ^ r) p, Nat.mul_assoc], hm, h0⟩
    · exact ⟨0, n, by simp, c, h⟩
theorem all_pp {X : Nat} : ∀ n, 0 < n → (∀ p r, Pr p → p ^ r ∣ n → p ^ r ∣ X) → n ∣ X := by
  intro n
  induction n using Nat.strongRecOn with
  | ind n ih =>
    intro h0 h
    by_cases h1 : n = 1
    · subst h1; exact Nat.one_dvd _
    · obtain ⟨p, hp, hpn⟩ := some_Pr n (by omega)
      obtain ⟨r, m, e, hm, hm0⟩ := strip hp.1 n h0
      have hr : r ≠ 0 := fun z => by
        subst z
        rw [Nat.pow_zero, Nat.one_mul] at e
        exact hm (e ▸ hpn)
      have h2 : 2 ≤ p ^ r := Nat.le_trans hp.1 (Nat.le_of_dvd (Nat.pow_pos (by have := hp.1; omega)) (Nat.dvd_trans ⟨1, by rw [Nat.pow_one, Nat.mul_one]⟩ (Nat.pow_dvd_pow p (show 1 ≤ r by omega))))
      have hlt : m < n := by
        have := Nat.mul_le_mul_right m h2
        rw [← e] at this
        omega
      have a1 : p ^ r ∣ X := h p r hp (e ▸ Nat.dvd_mul_right _ _)
      have a2 : m ∣ X := ih m hlt hm0 fun q s hq hs => h q s hq (Nat.dvd_trans hs (e ▸ Nat.dvd_mul_left _ _))
      rw [e]
      exact Nat.Coprime.mul_dvd_of_dvd_of_dvd (Nat.Coprime.pow_left r (hp.cop hm)) a1 a2
namespace Sr
def G (d : Nat) : Sr := ⟨fun n => if d ∣ n then 1 else 0⟩
def D (d : Nat) : Sr := ⟨fun n => if n = 0 then 0 else if d ∣ n then (d : Int) else 0⟩
theorem D_eq (d : Nat) : D d = C d * (G d - 1) := ext fun n => by
  rw [a_C, a_sub]
  show (if n = 0 then 0 else if d ∣ n then (d : Int) else 0) = (d : Int) * ((if d ∣ n then 1 else 0) - (if n = 0 then 1 else 0))
  by_cases h : n = 0
  · subst h
    rw [if_pos rfl, if_pos rfl, if_pos (Nat.dvd_zero d)]
    simp
  · rw [if_neg h, if_neg h]
    split <;> simp
theorem one_X_G {d : Nat} (h : 0 < d) : (1 - X d) * G d = 1 := by
  have e : (1 - X d) * G d = G d - X d * G d := by grind
  rw [e]
  refine ext fun n => ?_
  rw [a_sub, a_X]
  show (if d ∣ n then (1 : Int) else 0) - (if d ≤ n then (if d ∣ n - d then (1 : Int) else 0) else 0) = if n = 0 then 1 else 0
  by_cases h0 : n = 0
  · subst h0
    rw [if_pos (Nat.dvd_zero d), if_neg (by omega), if_pos rfl]
    rfl
  · rw [if_neg h0]
    by_cases h1 : d ≤ n
    · rw [if_pos h1]
      by_cases h2 : d ∣ n
      · rw [if_pos h2, if_pos (Nat.dvd_sub h2 (Nat.dvd_refl d))]
        rfl
      · rw [if_neg h2, if_neg fun z => h2 ?_]
        · rfl
        · have := Nat.dvd_add z (Nat.dvd_refl d)
          rwa [Nat.sub_add_cancel h1] at this
    · rw [if_neg h1, if_neg fun z => h1 (Nat.le_of_dvd (by omega) z)]
      rfl
theorem th_X (d : Nat) : th (X d) = C d * X d := ext fun n => by
  rw [a_C]
  show (n : Int) * (if n = d then 1 else 0) = (d : Int) * (if n = d then 1 else 0)
  split
  · rename_i h
    rw [h]
  · rw [Int.mul_zero, Int.mul_zero]
theorem th_sub (f g : Sr) : th (f - g) = th f - th g := ext fun n => Int.mul_sub _ _ _
structure NR (f s : Sr) : Prop where
  one : f.a 0 = 1
  zero : s.a 0 = 0
  eq : th f = -(f * s)
theorem NR.mul {f s g t : Sr} (h : NR f s) (k : NR g t) : NR (f * g) (s + t) where
  one := by
    rw [a_mul]
    show 0 + f.a 0 * g.a 0 = 1
    rw [h.one, k.one]
    rfl
  zero := by
    rw [a_add, h.zero, k.zero]
    rfl
  eq := by
    have h1 := h.eq
    have h2 := k.eq
    rw [th_mul, h1, h2]
    grind
theorem NR.X {d : Nat} (h : 0 < d) : NR (1 - X d) (D d) where
  one := by
    rw [a_sub]
    show (1 : Int) - (if 0 = d then 1 else 0) = 1
    rw [if_neg (by omega)]
    rfl
  zero := rfl
  eq := by
    rw [th_sub, one_eq, th_C, th_X, D_eq]
    have := one_X_G h
    have z : C 0 = (0 : Sr) := rfl
    rw [← one_eq, z]
    grind
theorem NR.G {d : Nat} (h : 0 < d) : NR (G d) (-D d) where
  one := by
    show (if d ∣ 0 then (1 : Int) else 0) = 1
    rw [if_pos (Nat.dvd_zero d)]
  zero := rfl
  eq := by
    have e := one_X_G h
    have x := (NR.X h).eq
    have t := congrArg th e
    have z : th (1 : Sr) = 0 := th_C 1
    rw [th_mul, x, z] at t
    generalize th (Sr.G d) = y at *
    generalize D d = w at *
    grind
theorem NR.none : NR 1 0 where
  one := rfl
  zero := rfl
  eq := by
    rw [one_eq, th_C]
    have z : C 0 = (0 : Sr) := rfl
    rw [z]
    grind
theorem NR.nat {f s : Sr} (h : NR f s) : ∀ n : Nat, ∃ u, NR u (C n * s)
  | 0 => ⟨1, by
    have z : C ((0 : Nat) : Int) * s = 0 := by
      have : C ((0 : Nat) : Int) = (0 : Sr) := rfl
      rw [this]
      grind
    rw [z]
    exact .none⟩
  | n + 1 => by
    obtain ⟨u, hu⟩ := NR.nat h n
    refine ⟨u * f, ?_⟩
    have e : C ((n + 1 : Nat) : Int) * s = C ((n : Nat) : Int) * s + s := by
      rw [Int.natCast_add, C_add]
      have : C ((1 : Nat) : Int) = (1 : Sr) := rfl
      rw [this]
      grind
    rw [e]
    exact hu.mul h
theorem NR.int {d : Nat} (h : 0 < d) (b : Int) : ∃ u, NR u (C b * D d) := by
  by_cases hb : 0 ≤ b
  · obtain ⟨n, rfl⟩ := Int.eq_ofNat_of_zero_le hb
    exact (NR.X h).nat n
  · obtain ⟨n, hn⟩ := Int.eq_ofNat_of_zero_le (show 0 ≤ -b by omega)
    obtain ⟨u, hu⟩ := (NR.G h).nat n
    refine ⟨u, ?_⟩
    have e : C b * D d = C (n : Int) * -D d := by
      have : b = -(n : Int) := by omega
      rw [this, C_neg]
      grind
    rw [e]
    exact hu
/-- Newton's rule in numbers -/
theorem NR.at_ {f s : Sr} (h : NR f s) (n : Nat) : (n : Int) * f.a n = -sm (n + 1) fun i => f.a i * s.a (n - i) := congrFun (congrArg Sr.a h.eq) n
theorem NR.first {f s : Sr} (h : NR f s) {N : Nat} (hz : ∀ k, 0 < k → k ≤ N → s.a k = 0) : s.a (N + 1) = -((N + 1 : Nat) : Int) * f.a (N + 1) := by
  have e := h.at_ (N + 1)
  rw [sm_one (k := 0) (by omega) fun i hi h0 => ?_] at e
  · rw [h.one, Nat.sub_zero] at e
    rw [Int.neg_mul, e]
    omega
  · by_cases h1 : i = N + 1
    · subst h1
      rw [Nat.sub_self, h.zero, Int.mul_zero]
    · rw [hz _ (by omega) (by omega), Int.mul_zero]
/-! ### congruences -/
def GC (s : Sr) : Prop := ∀ p r m, Pr p → p ^ r ∣ m → ((p ^ (r + 1) : Nat) : Int) ∣ s.a (p * m) - s.a m
theorem GC.add {s t : Sr} (h : GC s) (k : GC t) : GC (s + t) := fun p r m hp hm => by
  rw [a_add, a_add]
  have e : s.a (p * m) + t.a (p * m) - (s.a m + t.a m) = (s.a (p * m) - s.a m) + (t.a (p * m) - t.a m) := by omega
  rw [e]
  exact Int.dvd_add (h p r m hp hm) (k p r m hp hm)
theorem GC.mulC {s : Sr} (h : GC s) (c : Int) : GC (C c * s) := fun p r m hp hm => by
  rw [a_C, a_C, ← Int.mul_sub]
  exact Int.dvd_mul_of_dvd_right (h p r m hp hm)
theorem GC.zero : GC 0 := fun p r m _ _ => by
  have e : ∀ n, (0 : Sr).a n = 0 := fun n => by
    show (if n = 0 then ((0 : Nat) : Int) else 0) = 0
    split <;> rfl
  rw [e, e]
  exact ⟨0, by simp⟩
theorem GC.D {d : Nat} (h : 0 < d) : GC (D d) := fun p r m hp hm => by
  have hp2 := hp.1
  by_cases h0 : m = 0
  · subst h0
    rw [Nat.mul_zero, Int.sub_self]
    exact Int.dvd_zero _
  have h1 : p * m ≠ 0 := Nat.mul_ne_zero (by omega) h0
  show _ ∣ (if p * m = 0 then 0 else if d ∣ p * m then (d : Int) else 0) - (if m = 0 then 0 else if d ∣ m then (d : Int) else 0)
  rw [if_neg h0, if_neg h1]
  by_cases c : d ∣ m
  · rw [if_pos c, if_pos (Nat.dvd_mul_left_of_dvd c p), Int.sub_self]
    exact Int.dvd_zero _
  · rw [if_neg c, Int.sub_zero]
    by_cases c2 : d ∣ p * m
    · rw [if_pos c2]
      refine Int.natCast_dvd_natCast.mpr ?_
      obtain ⟨d', m', hc, ed, em⟩ := Nat.exists_coprime d m
      have hg : 0 < Nat.gcd d m := Nat.gcd_pos_of_pos_left m h
      generalize Nat.gcd d m = g at *
      have q : d' ∣ p * m' := by
        rw [ed, em, ← Nat.mul_assoc] at c2
        exact Nat.dvd_of_mul_dvd_mul_right hg c2
      rcases hp.2 d' (hc.dvd_of_dvd_mul_right q) with e | e
      · subst e
        rw [Nat.one_mul] at ed
        subst ed
        exact absurd (em ▸ Nat.dvd_mul_left _ _) c
      · subst e
        rw [em] at hm
        have : d' ^ r ∣ g := (Nat.Coprime.pow_left r hc).dvd_of_dvd_mul_left hm
        rw [ed, Nat.pow_succ, Nat.mul_comm]
        exact Nat.mul_dvd_mul_left d' this
    · rw [if_neg c2]
      exact Int.dvd_zero _
/-- whole series have congruent Newton sums -/
theorem NR.peel {f s : Sr} (h : NR f s) : ∀ N, ∃ g t w : Sr, NR g t ∧ (∀ k, 0 < k → k ≤ N → t.a k = 0) ∧ GC w ∧ s = t + w
  | 0 => ⟨f, s, 0, h, fun k _ _ => by omega, .zero, by grind⟩
  | N + 1 => by
    obtain ⟨g, t, w, hg, ht, hw, e⟩ := NR.peel h N
    have e1 := hg.first ht
    obtain ⟨u, hu⟩ := NR.int (Nat.succ_pos N) (g.a (N + 1))
    refine ⟨g * u, t + C (g.a (N + 1)) * Sr.D (N + 1), w + C (-(g.a (N + 1))) * Sr.D (N + 1), hg.mul hu, fun k h0 hk => ?_, hw.add ((GC.D (Nat.succ_pos N)).mulC _), ?_⟩
    · rw [a_add, a_C]
      show _ + _ * (if k = 0 then 0 else if N + 1 ∣ k then ((N + 1 : Nat) : Int) else 0) = 0
      rw [if_neg (by omega)]
      by_cases c : k = N + 1
      · subst c
        rw [if_pos (Nat.dvd_refl _), e1]
        grind
      · rw [ht k h0 (by omega), if_neg fun z => c (Nat.le_antisymm hk (Nat.le_of_dvd h0 z)), Int.mul_zero]
        rfl
    · rw [e, C_neg]
      grind
theorem NR.gc {f s : Sr} (h : NR f s) : GC s := fun p r m hp hm => by
  by_cases h0 : m = 0
  · subst h0
    rw [Nat.mul_zero, Int.sub_self]
    exact Int.dvd_zero _
  obtain ⟨g, t, w, _, ht, hw, e⟩ := h.peel (p * m)
  have hp2 := hp.1
  have hle : m ≤ p * m := Nat.le_mul_of_pos_left m (by omega)
  rw [e, a_add, a_add, ht (p * m) (by omega) (Nat.le_refl _), ht m (by omega) hle]
  have := hw p r m hp hm
  simpa using this
/-- congruent sums are the Newton sums of a whole series, as far as is wanted -/
theorem GC.whole {s : Sr} (h : GC s) : ∀ N, ∃ f t w : Sr, NR f t ∧ (∀ k, 0 < k → k ≤ N → w.a k = 0) ∧ GC w ∧ s = t + w
  | 0 => ⟨1, 0, s, .none, fun k _ _ => by omega, h, by grind⟩
  | N + 1 => by
    obtain ⟨f, t, w, hf, hz, hw, e⟩ := GC.whole h N
    have hd : ((N + 1 : Nat) : Int) ∣ w.a (N + 1) := by
      refine Int.ofNat_dvd_left.mpr (all_pp (N + 1) (Nat.succ_pos N) fun p r hp hr => ?_)
      match r, hr with
      | 0, _ => rw [Nat.pow_zero]; exact Nat.one_dvd _
      | r + 1, ⟨k, hk⟩ =>
        have e2 : N + 1 = p * (p ^ r * k) := by rw [hk, Nat.pow_succ, Nat.mul_comm (p ^ r) p, Nat.mul_assoc]
        have hp2 := hp.1
        have k0 : 0 < p ^ r * k := Nat.pos_of_ne_zero fun z => by rw [z, Nat.mul_zero] at e2; omega
        have klt : p ^ r * k < N + 1 := by
          have := Nat.mul_le_mul_right (p ^ r * k) hp2
          omega
        have q := hw p r (p ^ r * k) hp (Nat.dvd_mul_right _ _)
        rw [hz (p ^ r * k) k0 (by omega), Int.sub_zero, ← e2] at q
        exact Int.ofNat_dvd_left.mp q
    obtain ⟨b, hb⟩ := hd
    obtain ⟨u, hu⟩ := NR.int (Nat.succ_pos N) b
    refine ⟨f * u, t + C b * Sr.D (N + 1), w + C (-b) * Sr.D (N + 1), hf.mul hu, fun k h0 hk => ?_, hw.add ((GC.D (Nat.succ_pos N)).mulC _), ?_⟩
    · rw [a_add, a_C]
      show _ + _ * (if k = 0 then 0 else if N + 1 ∣ k then ((N + 1 : Nat) : Int) else 0) = 0
      rw [if_neg (by omega)]
      by_cases c : k = N + 1
      · subst c
        rw [if_pos (Nat.dvd_refl _), hb]
        grind
      · rw [hz k h0 (by omega), if_neg fun z => c (Nat.le_antisymm hk (Nat.le_of_dvd h0 z)), Int.mul_zero]
        rfl
    · rw [e, C_neg]
      grind
end Sr
end K2
end

section
set_option Elab.async false
set_option linter.all false
set_option maxRecDepth 100000
set_option maxHeartbeats 4000000
/-! K2nc: mathematics, (D): binomial numbers modulo prime powers; the binomial convolution. -/
namespace K2
open PD (choose choose_above choose_self choose_symm)
theorem choose_zero (n : Nat) : choose n 0 = 1 := by cases n <;> rfl
theorem choose_absorb : ∀ m j : Nat, (j + 1) * choose (m + 1) (j + 1) = (m + 1) * choose m j
  | 0, 0 => rfl
  | 0, j + 1 => by
    rw [choose_above (show 0 + 1 < j + 1 + 1 by omega), choose_above (show 0 < j + 1 by omega)]
    simp
  | m + 1, 0 => by
    have ih := choose_absorb m 0
    show (0 + 1) * (choose (m + 1) 0 + choose (m + 1) (0 + 1)) = (m + 1 + 1) * choose (m + 1) 0
    rw [choose_zero] at *
    omega
  | m + 1, i + 1 => by
    have h1 := choose_absorb m (i + 1)
    have h2 := choose_absorb m i
    show (i + 1 + 1) * (choose (m + 1) (i + 1) + choose (m + 1) (i + 1 + 1)) = (m + 1 + 1) * choose (m + 1) (i + 1)
    have h3 : choose (m + 1) (i + 1) = choose m i + choose m (i + 1) := rfl
    rw [Nat.mul_add, h1, Nat.add_mul (i + 1) 1, h2, h3]
    rw [Nat.add_mul (m + 1) 1, Nat.mul_add (m + 1)]
    omega
namespace Sr
theorem pow_s (f : Sr) (n : Nat) : f ^ (n + 1) = f ^ n * f := rfl
theorem pow_z (f : Sr) : f ^ 0 = 1 := rfl
theorem pow_m (f : Sr) (a : Nat) : ∀ b, f ^ (a * b) = (f ^ a) ^ b
  | 0 => rfl
  | b + 1 => by
    rw [Nat.mul_succ, Lean.Grind.Semiring.pow_add, pow_m f a b, pow_s]
theorem a_bin {d : Nat} (h : 0 < d) : ∀ m n, ((1 + X d) ^ m).a n = if d ∣ n then ((choose m (n / d) : Nat) : Int) else 0
  | 0, n => by
    rw [pow_z]
    show (if n = 0 then (1 : Int) else 0) = _
    by_cases h0 : n = 0
    · subst h0
      rw [if_pos rfl, if_pos (Nat.dvd_zero d), Nat.zero_div]
      rfl
    · rw [if_neg h0]
      by_cases c : d ∣ n
      · rw [if_pos c, choose_above (Nat.div_pos (Nat.le_of_dvd (by omega) c) h)]
        rfl
      · rw [if_neg c]
  | m + 1, n => by
    have e : (1 + X d) ^ (m + 1) = (1 + X d) ^ m + X d * (1 + X d) ^ m := by rw [pow_s]; grind
    rw [e, a_add, a_X, a_bin h m n]
    by_cases c : d ∣ n
    · obtain ⟨k, rfl⟩ := c
      rw [if_pos (Nat.dvd_mul_right d k), if_pos (Nat.dvd_mul_right d k), Nat.mul_div_cancel_left k h]
      cases k with
      | zero =>
        rw [Nat.mul_zero, if_neg (by omega), choose_zero, choose_zero]
        rfl
      | succ k =>
        have : d * (k + 1) - d = d * k := by rw [Nat.mul_succ]; omega
        rw [if_pos (Nat.le_mul_of_pos_right d (Nat.succ_pos k)), this, a_bin h m, if_pos (Nat.dvd_mul_right d k), Nat.mul_div_cancel_left k h]
        show _ = ((choose m k + choose m (k + 1) : Nat) : Int)
        omega
    · rw [if_neg c, if_neg c]
      by_cases c2 : d ≤ n
      · rw [if_pos c2, a_bin h m, if_neg fun z => c ?_]
        · rfl
        · have := Nat.dvd_add z (Nat.dvd_refl d)
          rwa [Nat.sub_add_cancel c2] at this
      · rw [if_neg c2]
        rfl
def Cg (c : Int) (A B : Sr) : Prop := ∃ Q, A = B + C c * Q
theorem Cg.of {c : Int} {A B : Sr} (h : ∀ n, c ∣ A.a n - B.a n) : Cg c A B := by
  refine ⟨⟨fun n => (A.a n - B.a n) / c⟩, ext fun n => ?_⟩
  rw [a_add, a_C]
  show A.a n = B.a n + c * ((A.a n - B.a n) / c)
  rw [Int.mul_ediv_cancel' (h n)]
  omega
theorem Cg.to {c : Int} {A B : Sr} (h : Cg c A B) (n : Nat) : c ∣ A.a n - B.a n := by
  obtain ⟨Q, rfl⟩ := h
  rw [a_add, a_C]
  exact ⟨Q.a n, by omega⟩
theorem pow_near (B Q : Sr) (c : Int) : ∀ n : Nat, ∃ R, (B + C c * Q) ^ (n + 1) = B ^ (n + 1) + C ((n + 1 : Nat) : Int) * (C c * Q * B ^ n) + C c * C c * R
  | 0 => ⟨0, by
    rw [pow_s, pow_s, pow_z, pow_z]
    have : C ((0 + 1 : Nat) : Int) = (1 : Sr) := rfl
    rw [this]
    grind⟩
  | n + 1 => by
    obtain ⟨R, h⟩ := pow_near B Q c n
    refine ⟨C ((n + 1 : Nat) : Int) * Q * Q * B ^ n + R * (B + C c * Q), ?_⟩
    rw [pow_s, h, pow_s B (n + 1), pow_s B n]
    have : C ((n + 1 + 1 : Nat) : Int) = C ((n + 1 : Nat) : Int) + 1 := by
      rw [Int.natCast_add (n + 1) 1, C_add]
      rfl
    rw [this]
    generalize C ((n + 1 : Nat) : Int) = N
    generalize B ^ n = z
    grind
theorem Cg.pow {c : Int} {A B : Sr} (h : Cg c A B) : ∀ n : Nat, Cg c (A ^ n) (B ^ n)
  | 0 => ⟨0, by rw [pow_z, pow_z]; grind⟩
  | n + 1 => by
    obtain ⟨Q, rfl⟩ := h
    obtain ⟨R, e⟩ := pow_near B Q c n
    exact ⟨C ((n + 1 : Nat) : Int) * Q * B ^ n + C c * R, by rw [e]; grind⟩
theorem Cg.lift {p s : Nat} (hp : 0 < p) {A B : Sr} (h : Cg ((p ^ (s + 1) : Nat) : Int) A B) : Cg ((p ^ (s + 2) : Nat) : Int) (A ^ p) (B ^ p) := by
  obtain ⟨Q, rfl⟩ := h
  obtain ⟨n, rfl⟩ : ∃ n, p = n + 1 := ⟨p - 1, by omega⟩
  obtain ⟨R, e⟩ := pow_near B Q (((n + 1) ^ (s + 1) : Nat) : Int) n
  refine ⟨Q * B ^ n + C (((n + 1) ^ s : Nat) : Int) * R, ?_⟩
  rw [e]
  have e1 : C (((n + 1) ^ (s + 2) : Nat) : Int) = C ((n + 1 : Nat) : Int) * C (((n + 1) ^ (s + 1) : Nat) : Int) := by
    rw [← C_mul, ← Int.natCast_mul, Nat.pow_succ (n + 1) (s + 1), Nat.mul_comm]
  have e2 : C (((n + 1) ^ (s + 1) : Nat) : Int) = C ((n + 1 : Nat) : Int) * C (((n + 1) ^ s : Nat) : Int) := by
    rw [← C_mul, ← Int.natCast_mul, Nat.pow_succ, Nat.mul_comm]
  rw [e1]
  generalize B ^ n = z
  generalize B ^ (n + 1) = y
  rw [e2]
  generalize C (((n + 1) ^ s : Nat) : Int) = w
  generalize C ((n + 1 : Nat) : Int) = N
  grind
theorem Cg.base {p : Nat} (hp : Pr p) : Cg (p : Int) ((1 + X 1) ^ p) (1 + X p) := .of fun n => by
  have hp2 := hp.1
  rw [a_bin Nat.one_pos, if_pos (Nat.one_dvd n), Nat.div_one, a_add]
  show (p : Int) ∣ _ - ((if n = 0 then ((1 : Nat) : Int) else 0) + (if n = p then 1 else 0))
  by_cases h0 : n = 0
  · subst h0
    rw [if_pos rfl, if_neg (by omega), choose_zero]
    exact Int.dvd_zero _
  · rw [if_neg h0]
    by_cases h1 : n = p
    · subst h1
      rw [if_pos rfl, choose_self]
      exact Int.dvd_zero _
    · rw [if_neg h1, Int.add_zero, Int.sub_zero]
      refine Int.natCast_dvd_natCast.mpr ?_
      by_cases h2 : p < n
      · rw [choose_above h2]
        exact Nat.dvd_zero _
      · obtain ⟨j, rfl⟩ : ∃ j, n = j + 1 := ⟨n - 1, by omega⟩
        obtain ⟨q, rfl⟩ : ∃ q, p = q + 1 := ⟨p - 1, by omega⟩
        have e := choose_absorb q j
        have c : ¬ q + 1 ∣ j + 1 := fun z => by have := Nat.le_of_dvd (by omega) z; omega
        exact (hp.cop c).dvd_of_dvd_mul_left (e ▸ Nat.dvd_mul_right _ _)
theorem Cg.high {p : Nat} (hp : Pr p) : ∀ r, Cg ((p ^ (r + 1) : Nat) : Int) ((1 + X 1) ^ p ^ (r + 1)) ((1 + X p) ^ p ^ r)
  | 0 => by
    have h := Cg.base hp
    rw [Nat.zero_add, Nat.pow_one, Nat.pow_zero]
    have : (1 + X p) ^ 1 = 1 + X p := by rw [pow_s, pow_z]; grind
    rw [this]
    exact h
  | r + 1 => by
    have h := (Cg.high hp r).lift (by have := hp.1; omega)
    rw [← pow_m, ← pow_m, ← Nat.pow_succ, ← Nat.pow_succ] at h
    exact h
theorem choose_cong {p r m : Nat} (hp : Pr p) (hm : p ^ r ∣ m) (i : Nat) : ((p ^ (r + 1) : Nat) : Int) ∣ ((choose (p * m) i : Nat) : Int) - (if p ∣ i then ((choose m (i / p) : Nat) : Int) else 0) := by
  obtain ⟨k, rfl⟩ := hm
  have h := ((Cg.high hp r).pow k).to i
  rw [← pow_m, ← pow_m, a_bin Nat.one_pos, if_pos (Nat.one_dvd i), Nat.div_one, a_bin (by have := hp.1; omega)] at h
  have e : p * (p ^ r * k) = p ^ (r + 1) * k := by rw [Nat.pow_succ, Nat.mul_comm (p ^ r) p, Nat.mul_assoc]
  rw [e]
  exact h
end Sr
/-! ### sums modulo -/
theorem sm_dvd {c : Int} {n : Nat} {f g : Nat → Int} (h : ∀ i, i < n → c ∣ f i - g i) : c ∣ sm n f - sm n g := by
  induction n with
  | zero => exact ⟨0, by simp [sm]⟩
  | succ n ih =>
    show c ∣ sm n f + f n - (sm n g + g n)
    have e : sm n f + f n - (sm n g + g n) = (sm n f - sm n g) + (f n - g n) := by omega
    rw [e]
    exact Int.dvd_add (ih fun i hi => h i (by omega)) (h n (by omega))
theorem sm_split (a : Nat) (f : Nat → Int) : ∀ b, sm (a + b) f = sm a f + sm b fun i => f (a + i)
  | 0 => (Int.add_zero _).symm
  | b + 1 => by
    show sm (a + b) f + f (a + b) = sm a f + (sm b (fun i => f (a + i)) + f (a + b))
    rw [sm_split a f b]
    omega
theorem sm_skip {p : Nat} (hp : 0 < p) (f : Nat → Int) (z : ∀ i, ¬ p ∣ i → f i = 0) : ∀ m, sm (p * m + 1) f = sm (m + 1) fun j => f (p * j)
  | 0 => by
    rw [Nat.mul_zero]
    show 0 + f 0 = 0 + f (p * 0)
    rw [Nat.mul_zero]
  | m + 1 => by
    have e : p * (m + 1) + 1 = (p * m + 1) + p := by rw [Nat.mul_succ]; omega
    rw [e, sm_split, sm_skip hp f z m]
    show _ = sm (m + 1) (fun j => f (p * j)) + f (p * (m + 1))
    congr 1
    have none_ : ∀ i, i < p → i ≠ p - 1 → f (p * m + 1 + i) = 0 := fun i hi hne => z _ fun h => by
      obtain ⟨q, hq⟩ := h
      have h1 : p * m < p * q := by omega
      have h2 : p * q < p * (m + 1) := by rw [Nat.mul_succ]; omega
      have h3 := Nat.lt_of_mul_lt_mul_left h1
      have h4 := Nat.lt_of_mul_lt_mul_left h2
      omega
    rw [sm_one (k := p - 1) (by omega) none_]
    congr 1
    rw [Nat.mul_succ]
    omega
namespace Sr
theorem GC.key {s : Sr} (h : GC s) {p r m j : Nat} (hp : Pr p) (hm : p ^ r ∣ m) (hj : j ≤ m) : ((p ^ (r + 1) : Nat) : Int) ∣ ((choose m j : Nat) : Int) * (s.a (p * j) - s.a j) := by
  by_cases h0 : j = 0
  · subst h0
    rw [Nat.mul_zero, Int.sub_self, Int.mul_zero]
    exact Int.dvd_zero _
  obtain ⟨v, j', e, hn, _⟩ := strip hp.1 j (by omega)
  by_cases hv : r ≤ v
  · exact Int.dvd_mul_of_dvd_right (h p r j hp (e ▸ Nat.dvd_mul_right_of_dvd (Nat.pow_dvd_pow p hv) j'))
  · have a1 := h p v j hp (e ▸ Nat.dvd_mul_right _ _)
    have a2 : p ^ (r - v) ∣ choose m j := by
      obtain ⟨i, ei⟩ : ∃ i, j = i + 1 := ⟨j - 1, by omega⟩
      obtain ⟨q, eq⟩ : ∃ q, m = q + 1 := ⟨m - 1, by omega⟩
      have ab := choose_absorb q i
      rw [← ei, ← eq] at ab
      have d1 : p ^ r ∣ j * choose m j := ab ▸ Nat.dvd_mul_right_of_dvd hm _
      have er : p ^ r = p ^ v * p ^ (r - v) := by rw [← Nat.pow_add]; congr 1; omega
      rw [e, er, Nat.mul_assoc, ← e] at d1
      have d2 := Nat.dvd_of_mul_dvd_mul_left (Nat.pow_pos (by have := hp.1; omega)) d1
      exact (Nat.Coprime.pow_left (r - v) (hp.cop hn)).dvd_of_dvd_mul_left d2
    have er : p ^ (r + 1) = p ^ (r - v) * p ^ (v + 1) := by rw [← Nat.pow_add]; congr 1; omega
    rw [er, Int.natCast_mul]
    exact Int.mul_dvd_mul (Int.natCast_dvd_natCast.mpr a2) a1
def conv (s t : Sr) : Sr := ⟨fun k => sm (k + 1) fun j => ((choose k j : Nat) : Int) * s.a j * t.a (k - j)⟩
theorem GC.conv {s t : Sr} (h : GC s) (k : GC t) : GC (conv s t) := fun p r m hp hm => by
  have hp2 := hp.1
  show _ ∣ sm (p * m + 1) (fun i => ((choose (p * m) i : Nat) : Int) * s.a i * t.a (p * m - i)) - sm (m + 1) (fun j => ((choose m j : Nat) : Int) * s.a j * t.a (m - j))
  have s1 : ((p ^ (r + 1) : Nat) : Int) ∣ sm (p * m + 1) (fun i => ((choose (p * m) i : Nat) : Int) * s.a i * t.a (p * m - i)) - sm (p * m + 1) (fun i => (if p ∣ i then ((choose m (i / p) : Nat) : Int) else 0) * s.a i * t.a (p * m - i)) := sm_dvd fun i _ => by
    have c := choose_cong hp hm i
    rw [← Int.sub_mul, ← Int.sub_mul]
    exact Int.dvd_mul_of_dvd_left (Int.dvd_mul_of_dvd_left c)
  have s2 : sm (p * m + 1) (fun i => (if p ∣ i then ((choose m (i / p) : Nat) : Int) else 0) * s.a i * t.a (p * m - i)) = sm (m + 1) fun j => ((choose m j : Nat) : Int) * s.a (p * j) * t.a (p * (m - j)) := by
    rw [sm_skip (by omega) _ fun i hi => by rw [if_neg hi, Int.zero_mul, Int.zero_mul]]
    refine sm_congr fun j hj => ?_
    rw [if_pos (Nat.dvd_mul_right p j), Nat.mul_div_cancel_left j (by omega), ← Nat.mul_sub]
  have s3 : ((p ^ (r + 1) : Nat) : Int) ∣ sm (m + 1) (fun j => ((choose m j : Nat) : Int) * s.a (p * j) * t.a (p * (m - j))) - sm (m + 1) (fun j => ((choose m j : Nat) : Int) * s.a j * t.a (m - j)) := sm_dvd fun j hj => by
    have a1 := h.key (j := j) hp hm (by omega)
    have a2 := k.key (j := m - j) hp hm (by omega)
    rw [choose_symm (show j ≤ m by omega)] at a2
    generalize ((choose m j : Nat) : Int) = c at *
    have e : c * s.a (p * j) * t.a (p * (m - j)) - c * s.a j * t.a (m - j) = c * (s.a (p * j) - s.a j) * t.a (p * (m - j)) + c * (t.a (p * (m - j)) - t.a (m - j)) * s.a j := by grind
    rw [e]
    exact Int.dvd_add (Int.dvd_mul_of_dvd_left a1) (Int.dvd_mul_of_dvd_left a2)
  rw [s2] at s1
  have := Int.dvd_add s1 s3
  have e : ∀ x y z : Int, x - y + (y - z) = x - z := fun x y z => by omega
  rw [e] at this
  exact this
def had (s t : Sr) : Sr := ⟨fun k => s.a k * t.a k⟩
theorem GC.had {s t : Sr} (h : GC s) (k : GC t) : GC (had s t) := fun p r m hp hm => by
  show _ ∣ s.a (p * m) * t.a (p * m) - s.a m * t.a m
  have a1 := h p r m hp hm
  have a2 := k p r m hp hm
  have e : s.a (p * m) * t.a (p * m) - s.a m * t.a m = (s.a (p * m) - s.a m) * t.a (p * m) + (t.a (p * m) - t.a m) * s.a m := by grind
  rw [e]
  exact Int.dvd_add (Int.dvd_mul_of_dvd_left a1) (Int.dvd_mul_of_dvd_left a2)
end Sr
end K2
end

section
set_option Elab.async false
set_option linter.all false
set_option maxRecDepth 100000
set_option maxHeartbeats 4000000
/-! K2nd: mathematics, (B) and (D): Newton sums of rows; every floor is exact. -/
namespace K2
open PD (choose choose_above choose_self choose_symm)
namespace Sr
def rowS (w : List Int) : Sr := ⟨fun i => if i ≤ w.length - 1 then co w (w.length - 1 - i) else 0⟩
def psS (w : List Int) : Sr := ⟨fun k => if k = 0 then 0 else psum w k⟩
theorem NR.psum {w : List Int} (h : co w (w.length - 1) = 1) : NR (rowS w) (psS w) where
  one := by
    show (if 0 ≤ w.length - 1 then co w (w.length - 1 - 0) else 0) = 1
    rw [if_pos (Nat.zero_le _), Nat.sub_zero, h]
  zero := rfl
  eq := ext fun n => by
    rw [a_neg, a_mul]
    show (n : Int) * (if n ≤ w.length - 1 then co w (w.length - 1 - n) else 0) = -sm (n + 1) fun i => (if i ≤ w.length - 1 then co w (w.length - 1 - i) else 0) * (if n - i = 0 then 0 else K2.psum w (n - i))
    cases n with
    | zero =>
      show 0 * _ = -(0 + _ * 0)
      simp
    | succ n =>
      rw [sm_succ]
      show _ = -(_ + (sm n (fun i => (if i + 1 ≤ w.length - 1 then co w (w.length - 1 - (i + 1)) else 0) * (if n + 1 - (i + 1) = 0 then 0 else K2.psum w (n + 1 - (i + 1)))) + (if n + 1 ≤ w.length - 1 then co w (w.length - 1 - (n + 1)) else 0) * (if n + 1 - (n + 1) = 0 then 0 else K2.psum w (n + 1 - (n + 1)))))
      have e1 : (if 0 ≤ w.length - 1 then co w (w.length - 1 - 0) else 0) = 1 := by rw [if_pos (Nat.zero_le _), Nat.sub_zero, h]
      have e2 : n + 1 - (n + 1) = 0 := by omega
      have e3 : (if n + 1 - 0 = 0 then 0 else K2.psum w (n + 1 - 0)) = K2.psum w (n + 1) := by rw [if_neg (by omega), Nat.sub_zero]
      have e4 : sm n (fun i => (if i + 1 ≤ w.length - 1 then co w (w.length - 1 - (i + 1)) else 0) * (if n + 1 - (i + 1) = 0 then 0 else K2.psum w (n + 1 - (i + 1)))) = sm (min n (w.length - 1)) fun j => co w (w.length - 1 - (j + 1)) * K2.psum w (n + 1 - (j + 1)) := by
        rw [sm_more (n := min n (w.length - 1)) (Nat.min_le_left _ _) fun i h1 h2 => by rw [if_neg (by omega), Int.zero_mul]]
        exact sm_congr fun i hi => by rw [if_pos (by omega), if_neg (by omega)]
      have e5 := psum_pos w (show n + 1 ≠ 0 by omega)
      rw [show n + 1 - 1 = n by omega] at e5
      rw [e1, e2, e3, e4, if_pos rfl, Int.mul_zero]
      generalize (sm (min n (w.length - 1)) fun j => co w (w.length - 1 - (j + 1)) * K2.psum w (n + 1 - (j + 1))) = z at *
      have e6 : ((n + 1 : Nat) : Int) * (if n + 1 ≤ w.length - 1 then co w (w.length - 1 - (n + 1)) else 0) = if n + 1 ≤ w.length - 1 then ((n + 1 : Nat) : Int) * co w (w.length - 1 - (n + 1)) else 0 := by
        split
        · rfl
        · exact Int.mul_zero _
      rw [e6]
      generalize (if n + 1 ≤ w.length - 1 then ((n + 1 : Nat) : Int) * co w (w.length - 1 - (n + 1)) else 0) = y at *
      omega
def up (s : Sr) (c : Int) : Sr := ⟨fun k => s.a k * c ^ k⟩
theorem NR.up {f s : Sr} (h : NR f s) (c : Int) : NR (up f c) (up s c) where
  one := by
    show f.a 0 * c ^ 0 = 1
    rw [h.one, Int.pow_zero]
    rfl
  zero := by
    show s.a 0 * c ^ 0 = 0
    rw [h.zero, Int.zero_mul]
  eq := ext fun n => by
    have e := h.at_ n
    rw [a_neg, a_mul]
    show (n : Int) * (f.a n * c ^ n) = -sm (n + 1) fun i => f.a i * c ^ i * (s.a (n - i) * c ^ (n - i))
    rw [← Int.mul_assoc, e, Int.neg_mul, ← sm_mulR]
    congr 1
    refine sm_congr fun i hi => ?_
    have : c ^ n = c ^ i * c ^ (n - i) := by rw [← Int.pow_add]; congr 1; omega
    rw [this]
    grind
theorem GC.congr {s t : Sr} (h : GC s) (e : ∀ k, 0 < k → t.a k = s.a k) : GC t := fun p r m hp hm => by
  by_cases h0 : m = 0
  · subst h0
    rw [Nat.mul_zero, Int.sub_self]
    exact Int.dvd_zero _
  · have := hp.1
    rw [e _ (Nat.mul_pos (by omega) (by omega)), e m (by omega)]
    exact h p r m hp hm
/-- every floor is exact -/
theorem GC.exact {s : Sr} (h : GC s) {L : List Int} {n : Nat} (hL : ∀ k, 0 < k → k ≤ n → co L k = s.a k) : ∀ k, 0 < k → k ≤ n → (k : Int) * esum L k = -sm k fun j => esum L (k - (j + 1)) * co L (j + 1) := by
  obtain ⟨f, t, w, hf, hw, _, e⟩ := h.whole n
  have hs : ∀ k, 0 < k → k ≤ n → co L k = t.a k := fun k h0 hk => by rw [hL k h0 hk, e, a_add, hw k h0 hk, Int.add_zero]
  have hn : ∀ k, 0 < k → k ≤ n → (k : Int) * f.a k = -sm k fun j => f.a (k - (j + 1)) * co L (j + 1) := fun k h0 hk => by
    rw [hf.at_ k]
    show -(sm k (fun i => f.a i * t.a (k - i)) + f.a k * t.a (k - k)) = _
    rw [Nat.sub_self, hf.zero, Int.mul_zero, Int.add_zero, sm_rev]
    congr 1
    refine sm_congr fun j hj => ?_
    rw [hs (j + 1) (by omega) (by omega), show k - 1 - j = k - (j + 1) by omega, show k - (k - (j + 1)) = j + 1 by omega]
  have he : ∀ k, k ≤ n → esum L k = f.a k := by
    intro k
    induction k using Nat.strongRecOn with
    | ind k ih =>
      intro hk
      by_cases h0 : k = 0
      · subst h0
        rw [esum_zero, hf.one]
      · rw [esum_pos L h0]
        have : (sm k fun j => esum L (k - (j + 1)) * co L (j + 1)) = sm k fun j => f.a (k - (j + 1)) * co L (j + 1) := sm_congr fun j hj => by rw [ih _ (by omega) (by omega)]
        rw [this, ← hn k (by omega) hk]
        exact Int.mul_ediv_cancel_left _ (by omega)
  intro k h0 hk
  rw [he k hk, hn k h0 hk]
  congr 1
  exact sm_congr fun j hj => by rw [he _ (by omega)]
end Sr
open Sr in
theorem gc_fst (p q : List Int) (hp : p ≠ []) : GC ⟨fun k => fst' p q k⟩ := by
  have h1 : co (mon p) ((mon p).length - 1) = 1 := by
    rw [mon_len hp]
    exact co_mon_last p
  refine ((NR.psum h1).up (lead q)).gc.congr fun k hk => ?_
  show psum (mon p) k * lead q ^ k = (if k = 0 then 0 else psum (mon p) k) * lead q ^ k
  rw [if_neg (by omega)]
open Sr in
theorem gc_mon (p : List Int) (hp : p ≠ []) : GC ⟨fun k => psum (mon p) k⟩ := by
  have h1 : co (mon p) ((mon p).length - 1) = 1 := by
    rw [mon_len hp]
    exact co_mon_last p
  refine (NR.psum h1).gc.congr fun k hk => ?_
  show psum (mon p) k = (if k = 0 then 0 else psum (mon p) k)
  rw [if_neg (by omega)]
/-- the floors on L are exact as far as n -/
def Exact (L : List Int) (n : Nat) : Prop := ∀ k, 0 < k → k ≤ n → (k : Int) * esum L k = -sm k fun j => esum L (k - (j + 1)) * co L (j + 1)
theorem exact_sums {p q : List Int} (hp : p ≠ []) (hq : q ≠ []) (n : Nat) : Exact (sumsL p q n) n :=
  ((gc_fst p q hp).conv (gc_fst q p hq)).exact fun k _ hk => co_sumsL hk
theorem exact_prod {p q : List Int} (hp : p ≠ []) (hq : q ≠ []) (n : Nat) : Exact (prodL p q n) n :=
  ((gc_mon p hp).had (gc_mon q hq)).exact fun k _ hk => co_prodL hk
/-- the sums of powers of the row that was found are those it was found from -/
theorem psum_back {L E : List Int} {n : Nat} (h : Exact L n) (hl : E.length = n + 1) (hE : ∀ j, j ≤ n → co E (n - j) = esum L j) : ∀ k, 0 < k → k ≤ n → psum E k = co L k := by
  intro k
  induction k using Nat.strongRecOn with
  | ind k ih =>
    intro h0 hk
    have en : E.length - 1 = n := by omega
    have x := h k h0 hk
    obtain ⟨m, rfl⟩ : ∃ m, k = m + 1 := ⟨k - 1, by omega⟩
    rw [psum_pos E (by omega), en, if_pos hk, hE _ hk, show min (m + 1 - 1) n = m by omega]
    have x2 : (sm (m + 1) fun j => esum L (m + 1 - (j + 1)) * co L (j + 1)) = (sm m fun j => esum L (m + 1 - (j + 1)) * co L (j + 1)) + co L (m + 1) := by
      show _ + esum L (m + 1 - (m + 1)) * co L (m + 1) = _
      rw [Nat.sub_self, esum_zero, Int.one_mul]
    have x3 : (sm m fun j => co E (n - (j + 1)) * psum E (m + 1 - (j + 1))) = sm m fun j => esum L (m + 1 - (j + 1)) * co L (j + 1) := by
      rw [sm_rev]
      refine sm_congr fun j hj => ?_
      rw [hE _ (by omega), ih (m + 1 - (m - 1 - j + 1)) (by omega) (by omega) (by omega)]
      rw [show m - 1 - j + 1 = m - j by omega, show m + 1 - (j + 1) = m - j by omega, show m + 1 - (m - j) = j + 1 by omega]
    rw [x3]
    rw [x2] at x
    omega
theorem psum_hom {w v : List Int} {c F : Int} (hl : w.length = v.length) (h : ∀ j, 0 < j → j ≤ w.length - 1 → c ^ j * co w (w.length - 1 - j) = F ^ j * co v (v.length - 1 - j)) : ∀ k, 0 < k → c ^ k * psum w k = F ^ k * psum v k := by
  intro k
  induction k using Nat.strongRecOn with
  | ind k ih =>
    intro h0
    rw [psum_pos w (by omega), psum_pos v (by omega), Int.mul_sub, Int.mul_sub, Int.mul_neg, Int.mul_neg, ← sm_mul, ← sm_mul, ← hl]
    congr 1
    · congr 1
      by_cases c1 : k ≤ w.length - 1
      · rw [if_pos c1, if_pos c1]
        have := h k h0 c1
        rw [← hl] at this
        grind
      · rw [if_neg c1, if_neg c1, Int.mul_zero, Int.mul_zero]
    · refine sm_congr fun j hj => ?_
      have h1 := h (j + 1) (by omega) (by omega)
      have h2 := ih (k - (j + 1)) (by omega) (by omega)
      rw [← hl] at h1
      have e1 : ∀ z : Int, z ^ k = z ^ (j + 1) * z ^ (k - (j + 1)) := fun z => by rw [← Int.pow_add]; congr 1; omega
      rw [e1 c, e1 F]
      grind
end K2
end

section
set_option Elab.async false
set_option linter.all false
set_option maxRecDepth 100000
set_option maxHeartbeats 4000000
set_option exponentiation.threshold 200000
/-! K2ne: mathematics, (B): the law on pairs. -/
namespace K2
open PD (choose choose_above choose_self choose_symm)
theorem co_imap (ns : List Int) (f : Nat → Int → Int) (i : Nat) : co (PD.imap ns f) i = if i < ns.length then f i (co ns i) else 0 := co_map _ _ _
/-- a scaled row, up to a factor -/
theorem scale_is {E : List Int} {n d : Int} (h : lead E ≠ 0) (hd : d ≠ 0) : ∃ c, PlainIs (PD.imap E fun at_ x => x * d ^ at_ * n ^ (E.length - 1 - at_)) (scale E n d) c := by
  have hne : E ≠ [] := fun z => by rw [z] at h; exact h rfl
  have l0 : 0 < E.length := List.length_pos_iff.mpr hne
  refine plain_is ?_
  unfold lead
  rw [PD.imap_len, co_imap, if_pos (by omega), Nat.sub_self, Int.pow_zero, Int.mul_one]
  exact Int.mul_ne_zero h (Int.pow_ne_zero hd)
theorem alg1 {c x e d a b f : Int} (h1 : c * x = e * d) (h2 : a * b = f) : a * c * (x * b) = d * f * e := by grind
theorem alg2 {a b f d P Q : Int} (h1 : a * b = f * d) (h2 : a * P = f * Q) : a * (P * d) = a * (Q * b) := by grind
theorem pair_ok {L p q : List Int} {s : Bool} (gp : Good p) (gq : Good q) (hm : deg2 p q ≤ 64) (ex : Exact L (deg2 p q)) (bd : ∀ k, 0 < k → k ≤ deg2 p q → (co L k).natAbs ≤ 2 ^ (840 * k)) (due : ∀ k, 0 < k → k ≤ deg2 p q → dueOf s p q k = co L k) (due0 : dueOf s p q 0 = (deg2 p q : Nat)) : PairOk (scale (eql L (deg2 p q + 1)).reverse 1 (lead p * lead q)) p q s := by
  have hD : lead p * lead q ≠ 0 := Int.mul_ne_zero gp.last gq.last
  have bD : (lead p * lead q).natAbs < 2 ^ (400 + 400) := lt_mul (gp.bd.co _) (gq.bd.co _)
  generalize hDe : lead p * lead q = D at *
  generalize hmd : deg2 p q = m at *
  have le : (eql L (m + 1)).reverse.length = m + 1 := by rw [List.length_reverse, eql, bl_len]
  have hE : ∀ j, j ≤ m → co (eql L (m + 1)).reverse (m - j) = esum L j := fun j hj => by
    have l2 : (eql L (m + 1)).length = m + 1 := by rw [eql, bl_len]
    have := co_rev (ns := eql L (m + 1)) (m := m - j) (by rw [l2]; omega)
    rw [l2, show m + 1 - 1 - (m - j) = j by omega, co_eql (by omega)] at this
    exact this
  have hb : Bd 54000 (eql L (m + 1)).reverse := eql_bd bd hm
  generalize (eql L (m + 1)).reverse = E at *
  have hl1 : lead E = 1 := by
    unfold lead
    rw [le]
    exact hE 0 (Nat.zero_le _)
  obtain ⟨c, pi⟩ := scale_is (E := E) (n := 1) (d := D) (by rw [hl1]; decide) hD
  generalize scale E 1 D = t at *
  have ct : ∀ i, i ≤ m → c * co t i = co E i * D ^ i := fun i hi => by
    rw [← pi.eq i, co_imap, if_pos (by omega), Int.one_pow, Int.mul_one]
  have tl : t.length = m + 1 := by rw [pi.len, PD.imap_len, le]
  have tne : t ≠ [] := fun z => by rw [z] at tl; exact absurd tl (by simp)
  have clead : c * lead t = D ^ m := by
    unfold lead
    have := hE 0 (Nat.zero_le _)
    rw [Nat.sub_zero] at this
    rw [tl, show m + 1 - 1 = m from rfl, ct _ (Nat.le_refl m), this, esum_zero, Int.one_mul]
  refine ⟨⟨by rw [hmd]; exact tl, pi.le _ ?_, pi.pos, pi.one⟩, fun h0 k hk => ?_⟩
  · refine Bd.map_range fun i hi => ?_
    show (co E i * D ^ i * 1 ^ (E.length - 1 - i)).natAbs < _
    rw [Int.one_pow, Int.mul_one]
    have h2 := pow_bd (Nat.le_of_lt bD) i
    have h1 := hb.co i
    rw [Int.natAbs_mul]
    refine Nat.lt_of_lt_of_le (Nat.mul_lt_mul_of_lt_of_le h1 h2 (Nat.two_pow_pos _)) ?_
    rw [← Nat.pow_add]
    refine le_two ?_
    have : (400 + 400) * i ≤ (400 + 400) * 64 := Nat.mul_le_mul_left _ (by omega)
    omega
  · rw [hmd] at h0 hk
    by_cases hk0 : k = 0
    · subst hk0
      rw [due0, psum_zero, mon_len tne, tl, Int.pow_zero, Int.pow_zero]
      rfl
    · have em : (mon t).length - 1 = m := by rw [mon_len tne, tl]; rfl
      have hom := psum_hom (w := mon t) (v := E) (c := c) (F := D ^ (m - 1)) (by rw [mon_len tne, tl, le]) (fun j j0 hj => by
        rw [em] at hj ⊢
        rw [le, show m + 1 - 1 - j = m - j from rfl, co_mon (by omega), tl, show m + 1 - 2 - (m - j) = j - 1 by omega]
        have e1 := ct (m - j) (by omega)
        have e2 : (c * lead t) ^ (j - 1) = D ^ (m * (j - 1)) := by rw [clead, ← Int.pow_mul]
        rw [Int.mul_pow] at e2
        have e3 : c ^ j = c ^ (j - 1) * c := by rw [← Int.pow_succ]; congr 1; omega
        have e4 : (D ^ (m - 1)) ^ j = D ^ (m - j) * D ^ (m * (j - 1)) := by
          rw [← Int.pow_mul, ← Int.pow_add]
          congr 1
          obtain ⟨j', rfl⟩ : ∃ j', j = j' + 1 := ⟨j - 1, by omega⟩
          obtain ⟨m', rfl⟩ : ∃ m', m = m' + 1 := ⟨m - 1, by omega⟩
          simp only [Nat.add_sub_cancel, Nat.mul_add, Nat.add_mul, Nat.mul_one, Nat.one_mul]
          omega
        rw [e3, e4]
        exact alg1 e1 e2) k (by omega)
      rw [psum_back ex le hE k (by omega) hk, ← due k (by omega) hk] at hom
      have e5 : (c * lead t) ^ k = (D ^ (m - 1)) ^ k * D ^ k := by
        rw [clead, ← Int.mul_pow, ← Int.pow_succ]
        congr 2
        omega
      rw [Int.mul_pow] at e5
      have hc : c ^ k ≠ 0 := Int.pow_ne_zero pi.c0
      rw [hDe]
      refine Int.eq_of_mul_eq_mul_left hc ?_
      exact alg2 e5 hom
theorem pair_sums (p q : List Int) (gp : Good p) (gq : Good q) (hm : deg2 p q ≤ 64) : PairOk (sumsP p q) p q true := by
  refine pair_ok gp gq hm (exact_sums gp.ne gq.ne _) (fun k h0 hk => sums_bd gp.bd gq.bd gp.ne gq.ne gp.len gq.len hm h0 hk) (fun k h0 hk => ?_) ?_
  · rw [co_sumsL hk, sm_rev]
    show (sm (k + 1) fun j => (choose k j : Nat) * psum (mon p) (k - j) * psum (mon q) j * lead q ^ (k - j) * lead p ^ j) = _
    refine sm_congr fun j hj => ?_
    rw [show k + 1 - 1 - j = k - j by omega, show k - (k - j) = j by omega, choose_symm (show j ≤ k by omega)]
    unfold fst'
    grind
  · show (0 + ((choose 0 0 : Nat) : Int) * psum (mon p) (0 - 0) * psum (mon q) 0 * lead q ^ (0 - 0) * lead p ^ 0) = _
    rw [Nat.sub_zero, psum_zero, psum_zero, mon_len gp.ne, mon_len gq.ne, Int.pow_zero, Int.pow_zero, Int.natCast_mul]
    show 0 + ((1 : Nat) : Int) * _ * _ * 1 * 1 = _
    grind
theorem pair_prod (p q : List Int) (gp : Good p) (gq : Good q) (hm : deg2 p q ≤ 64) : PairOk (prodP p q) p q false := by
  refine pair_ok gp gq hm (exact_prod gp.ne gq.ne _) (fun k h0 hk => prods_bd gp.bd gq.bd gp.ne gq.ne gp.len gq.len hm h0 hk) (fun k h0 hk => ?_) ?_
  · rw [co_prodL hk]
    rfl
  · show psum (mon p) 0 * psum (mon q) 0 = _
    rw [psum_zero, psum_zero, mon_len gp.ne, mon_len gq.ne, Int.natCast_mul]
end K2
end

section
set_option Elab.async false
set_option linter.all false
set_option maxRecDepth 100000
set_option maxHeartbeats 4000000
set_option exponentiation.threshold 1100000
/-! K2mh: mathematics, (A): what the three moves share. -/
namespace K2
theorem evL_pmul (p q : List Int) (x : Int) : evL (pmul p q) x = evL p x * evL q x := by
  have hl : (pmul p q).length ≤ p.length + q.length := Nat.le_trans (pmul_len p q) (Nat.sub_le _ _)
  rw [evL_more x (pmul p q) hl, evL_sm x p, ← sm_mulR]
  have e : ∀ k, co (pmul p q) k * x ^ k = sm p.length fun i => (if i ≤ k then co p i * co q (k - i) else 0) * x ^ k := fun k => by
    rw [co_pmul]
    exact (sm_mulR _ _ _).symm
  rw [sm_congr fun k _ => e k, sm_swap]
  refine sm_congr fun i hi => ?_
  have h2 : p.length + q.length = i + (p.length + q.length - i) := by omega
  rw [h2, sm_split, sm_zero i fun k hk => by rw [if_neg (by omega), Int.zero_mul], Int.zero_add, evL_more x q (show q.length ≤ p.length + q.length - i by omega), ← sm_mul]
  refine sm_congr fun k _ => ?_
  rw [if_pos (Nat.le_add_right i k), Nat.add_sub_cancel_left, Int.pow_add]
  generalize x ^ i = a
  generalize x ^ k = b
  generalize co p i = c
  generalize co q k = d
  grind
theorem trim_full {l : List Int} (h : lead l ≠ 0) : trim l = l := by
  have hne : l ≠ [] := fun z => by rw [z] at h; exact h rfl
  have l0 : 0 < l.length := List.length_pos_iff.mpr hne
  unfold trim
  have : stopAt l l.length = l.length := by
    obtain ⟨n, hn⟩ : ∃ n, l.length = n + 1 := ⟨l.length - 1, by omega⟩
    have h2 : l.getD n 0 ≠ 0 := by
      unfold lead at h
      rw [hn] at h
      exact h
    rw [hn]
    unfold stopAt
    rw [if_neg h2]
  rw [this, List.take_length]
/-- a row that is no longer than n + 1 and has a number there -/
theorem len_of {l : List Int} {n : Nat} (h : l.length ≤ n + 1) (h0 : co l n ≠ 0) : l.length = n + 1 ∧ lead l = co l n := by
  have : n < l.length := Nat.lt_of_not_le fun z => h0 (co_out z)
  have e : l.length = n + 1 := by omega
  refine ⟨e, ?_⟩
  unfold lead
  rw [e]
  rfl
theorem at2_map {zs : List (Int × Int)} {f : Int × Int → Int × Int} {k : Nat} (h : k < zs.length) : at2 (zs.map f) k = f (at2 zs k) := by
  simp [at2, List.getD, h]
theorem at2_out {zs : List (Int × Int)} {k : Nat} (h : zs.length ≤ k) : at2 zs k = (0, 0) := by
  simp [at2, List.getD, h]
theorem at2_mem {zs : List (Int × Int)} {k : Nat} (h : k < zs.length) : at2 zs k ∈ zs := by
  have : at2 zs k = zs[k] := by simp [at2, List.getD, h]
  rw [this]
  exact List.getElem_mem h
structure Fit (f : Int × Int → Int × Int) (z : Int × Int) : Prop where
  a : (f z).1.natAbs < 2 ^ 1000000
  b : (f z).2.natAbs < 2 ^ 1000000
  c : (f z).2 ≠ 0
theorem alike_of {zs : List (Int × Int)} {f g : Int × Int → Int × Int} (hl : zs.length ≤ 65) (hf : ∀ z ∈ zs, Fit f z) (hg : ∀ z ∈ zs, Fit g z) (some_ : ∃ z ∈ zs, (g z).1 ≠ 0) {u v : Int} (hu : u ≠ 0) (hv : v ≠ 0) (eq : ∀ z ∈ zs, (f z).1 * u * (g z).2 = (g z).1 * v * (f z).2) : Alike (zs.map f) (zs.map g) where
  len := by rw [List.length_map, List.length_map]
  le := by rw [List.length_map]; exact hl
  bx k := by
    by_cases h : k < zs.length
    · rw [at2_map h]
      exact ⟨(hf _ (at2_mem h)).a, (hf _ (at2_mem h)).b⟩
    · rw [at2_out (by rw [List.length_map]; omega)]
      exact ⟨Nat.two_pow_pos _, Nat.two_pow_pos _⟩
  bY k := by
    by_cases h : k < zs.length
    · rw [at2_map h]
      exact ⟨(hg _ (at2_mem h)).a, (hg _ (at2_mem h)).b⟩
    · rw [at2_out (by rw [List.length_map]; omega)]
      exact ⟨Nat.two_pow_pos _, Nat.two_pow_pos _⟩
  some_ := by
    obtain ⟨z, hz, h0⟩ := some_
    obtain ⟨k, hk, rfl⟩ := List.getElem_of_mem hz
    refine ⟨k, by rw [List.length_map]; exact hk, ?_⟩
    have : at2 zs k = zs[k] := by simp [at2, List.getD, hk]
    rw [at2_map hk, this]
    exact h0
  den k hk := by
    rw [List.length_map] at hk
    rw [at2_map hk, at2_map hk]
    exact ⟨(hf _ (at2_mem hk)).c, (hg _ (at2_mem hk)).c⟩
  eq := ⟨u, v, hu, hv, fun k hk => by
    rw [List.length_map] at hk
    rw [at2_map hk, at2_map hk]
    exact eq _ (at2_mem hk)⟩
theorem plc_len (n : Nat) : (plc n).length = n + 1 := by simp [plc]
theorem pts_len (n : Nat) : (pts n).length = n + 1 := by simp [pts]
theorem rough_fit {t : List Int} {n : Nat} {x : Int × Int} (ht : t.length = n + 1) (hn : n ≤ 64) (hb : Bd 20000 t) (h1 : x.1.natAbs < 2 ^ 100) (h2 : x.2.natAbs < 2 ^ 100) (h0 : x.2 ≠ 0) : (rough t x).1.natAbs < 2 ^ 1000000 ∧ (rough t x).2.natAbs < 2 ^ 1000000 ∧ (rough t x).2 ≠ 0 := by
  refine ⟨?_, ?_, Int.pow_ne_zero h0⟩
  · have := hom_bd hb h1 h2 t.length
    exact lt_two this (by omega)
  · have := pow_bd (Nat.le_of_lt h2) (t.length - 1)
    exact lt_two this (by omega)
/-- values at whole places -/
theorem value_one (t : List Int) (z : Int) : value t (z, 1) = evL t z := (evL_hom t z).symm
/-- values in lowest terms -/
theorem value_low {t : List Int} {n : Nat} (ht : t.length = n + 1) (u v : Int) (hv : 0 < v) : ∃ g : Int, g ≠ 0 ∧ g ^ n * value t (low u v) = hom t u v (n + 1) ∧ g * (low u v).2 = v := by
  have hg : 0 < Nat.gcd u.natAbs v.natAbs := Nat.gcd_pos_of_pos_right _ (by omega)
  have e1 : ((Nat.gcd u.natAbs v.natAbs : Nat) : Int) * (low u v).1 = u := Int.mul_ediv_cancel' (Int.ofNat_dvd_left.mpr (Nat.gcd_dvd_left _ _))
  have e2 : ((Nat.gcd u.natAbs v.natAbs : Nat) : Int) * (low u v).2 = v := Int.mul_ediv_cancel' (Int.ofNat_dvd_left.mpr (Nat.gcd_dvd_right _ _))
  generalize low u v = x at *
  refine ⟨((Nat.gcd u.natAbs v.natAbs : Nat) : Int), by omega, ?_, e2⟩
  unfold value
  rw [ht, ← hom_scale, e1, e2]
theorem PlainIs.ev {ns t : List Int} {c : Int} (h : PlainIs ns t c) (x : Int) : evL ns x = c * evL t x := by
  rw [evL_sm, evL_sm, h.len, ← sm_mul]
  exact sm_congr fun i _ => by rw [h.eq i, Int.mul_assoc]
theorem PlainIs.hom {ns t : List Int} {c : Int} (h : PlainIs ns t c) (u v : Int) (k : Nat) : hom ns u v k = c * hom t u v k := by
  rw [hom_sm, hom_sm, h.len, ← sm_mul]
  exact sm_congr fun i _ => by rw [h.eq, Int.mul_assoc, Int.mul_assoc, Int.mul_assoc]
end K2
end

section
set_option Elab.async false
set_option linter.all false
set_option maxRecDepth 100000
set_option maxHeartbeats 4000000
set_option exponentiation.threshold 1100000
/-! K2mi: mathematics, (A): shifted and scaled rows. -/
namespace K2
structure TI (p : List Int) (a b c : Int) (k : Nat) : Prop where
  l1 : (tst p a b c 0 k).1.length = k
  h0 : lead (tst p a b c 0 k).1 ≠ 0
  s2 : (tst p a b c 0 k).2 = [c ^ k]
theorem co_pair (x : Int) {i : Nat} (h : i ≠ 0) : co [x] i = 0 := co_out (by show 1 ≤ i; omega)
theorem tst_ti {p : List Int} {a b c : Int} (hp : lead p ≠ 0) (hb : b ≠ 0) (hc : c ≠ 0) : ∀ k, k + 1 ≤ p.length → TI p a b c (k + 1)
  | 0, hk => by
    have hx : p.reverse.getD 0 0 = lead p := by
      rw [co_rev (by omega)]
      rfl
    have e : tst p a b c 0 1 = (padd (pmul [] (trim [a, b])) (pmult [1] (lead p)), pmul [1] (trim [c, 0])) := by
      rw [tst_succ (k := 0) hk, hx]
      rfl
    have e1 : padd (pmul [] (trim [a, b])) (pmult [1] (lead p)) = [lead p] := by
      have h1 : pmul [] (trim [a, b]) = [] := by unfold pmul; rw [if_pos (.inl rfl)]
      have h2 : pmult [1] (lead p) = [lead p] := by
        unfold pmult
        rw [trim_full]
        · show [1 * lead p] = _
          rw [Int.one_mul]
        · show 1 * lead p ≠ 0
          rw [Int.one_mul]
          exact hp
      rw [h1, h2]
      unfold padd
      have h3 : ((List.range (max ([] : List Int).length [lead p].length)).map fun i => co [] i + co [lead p] i) = [lead p] := by
        show [co [] 0 + co [lead p] 0] = [lead p]
        show [0 + lead p] = [lead p]
        rw [Int.zero_add]
      rw [h3]
      exact trim_full hp
    rw [e1, trim_ze hc, pmul_one, Int.one_mul] at e
    refine ⟨by rw [e]; rfl, by rw [e]; exact hp, by rw [e, Int.pow_succ, Int.pow_zero, Int.one_mul]⟩
  | k + 1, hk => by
    have ih := tst_ti (a := a) (b := b) (c := c) hp hb hc k (by omega)
    have e := tst_succ (p := p) (a := a) (b := b) (c := c) (e := 0) (k := k + 1) hk
    generalize p.reverse.getD (k + 1) 0 = x at e
    unfold tstep at e
    rw [trim_ne hb, trim_ze hc, ih.s2, pmul_one] at e
    have hne : (tst p a b c 0 (k + 1)).1 ≠ [] := fun z => by have := ih.l1; rw [z] at this; exact absurd this (by simp)
    have l1 : (pmul (tst p a b c 0 (k + 1)).1 [a, b]).length = k + 2 := by
      rw [pmul_length hne (by simp), ih.l1]
      rfl
    have l2 : (pmult [c ^ (k + 1)] x).length ≤ 1 := pmult_len _ _
    have ll : co (pmul (tst p a b c 0 (k + 1)).1 [a, b]) (k + 1) = lead (tst p a b c 0 (k + 1)).1 * b := by
      have := lead_pmul hne (show [a, b] ≠ [] by simp)
      unfold lead at this ⊢
      rw [l1] at this
      exact this
    have h0 : co (padd (pmul (tst p a b c 0 (k + 1)).1 [a, b]) (pmult [c ^ (k + 1)] x)) (k + 1) ≠ 0 := by
      rw [co_padd, ll, co_out (p := pmult [c ^ (k + 1)] x) (by omega), Int.add_zero]
      exact Int.mul_ne_zero ih.h0 hb
    have hl : (padd (pmul (tst p a b c 0 (k + 1)).1 [a, b]) (pmult [c ^ (k + 1)] x)).length ≤ k + 1 + 1 := Nat.le_trans (padd_len _ _) (by rw [l1]; omega)
    have q := len_of hl h0
    refine ⟨by rw [e]; exact q.1, by rw [e]; dsimp only; rw [q.2]; exact h0, by rw [e]; dsimp only; rw [← Int.pow_succ]⟩
theorem tst_ev {p : List Int} {a b c : Int} (hp : lead p ≠ 0) (hb : b ≠ 0) (hc : c ≠ 0) (z : Int) : ∀ k, k ≤ p.length → evL (tst p a b c 0 k).1 z = hom p (a + b * z) c k
  | 0, _ => rfl
  | k + 1, hk => by
    have e := tst_succ (p := p) (a := a) (b := b) (c := c) (e := 0) (k := k) hk
    have ih := tst_ev (a := a) (b := b) (c := c) hp hb hc z k (by omega)
    have s2 : (tst p a b c 0 k).2 = [c ^ k] := by
      cases k with
      | zero =>
        show [1] = [c ^ 0]
        rw [Int.pow_zero]
      | succ k => exact (tst_ti hp hb hc k (by omega)).s2
    rw [e]
    unfold tstep
    dsimp only
    rw [evL_padd, evL_pmult, trim_ne hb, evL_pmul2, ih, s2, co_rev hk]
    show hom p (a + b * z) c k * (a + b * z) + (c ^ k + z * 0) * co p (p.length - 1 - k) = hom p (a + b * z) c k * (a + b * z) + co p (p.length - 1 - k) * c ^ k
    rw [Int.mul_zero, Int.add_zero, Int.mul_comm (c ^ k)]
theorem plc_some {t : List Int} {n : Nat} (ht : t.length = n + 1) (h0 : lead t ≠ 0) : ∃ z ∈ plc n, evL t z.1 ≠ 0 := by
  obtain ⟨k, hk, h⟩ := no_roots n t (fun k => (k : Int) - ((n / 2 : Nat) : Int)) ht h0 fun i j _ _ hne => by omega
  exact ⟨_, List.mem_map.mpr ⟨k, List.mem_range.mpr (by omega), rfl⟩, h⟩
theorem alg3 {c e G V W y T : Int} (h1 : c * e = G * y) (h2 : G * V = T) : e * c * V = y * T * 1 := by grind
theorem one_lt (n : Nat) (h : n ≠ 0) : (1 : Int).natAbs < 2 ^ n := Nat.one_lt_two_pow h
theorem sh_ok {ns : List Int} (hg : Good ns) {x : Int × Int} (hx : 0 < x.2) (h1 : x.1.natAbs < 2 ^ 60) (h2 : x.2.natAbs < 2 ^ 60) : PlainOk (shiftp ns x.1 x.2) (ns.length - 1) 20000 ∧ Alike ((plc (ns.length - 1)).map (rough (shiftp ns x.1 x.2))) ((plc (ns.length - 1)).map fun z => rough ns (fsum z (-x.1, x.2))) := by
  obtain ⟨t0, t1⟩ := x
  dsimp only at hx h1 h2 ⊢
  have l0 : 0 < ns.length := List.length_pos_iff.mpr hg.ne
  have l65 := hg.len
  obtain ⟨n, hn⟩ : ∃ n, ns.length = n + 1 := ⟨ns.length - 1, by omega⟩
  have hn64 : n ≤ 64 := by omega
  rw [show ns.length - 1 = n by omega]
  have T := tst_ti (p := ns) (a := -t0) (b := t1) (c := t1) hg.last (by omega) (by omega) n (by omega)
  have V := fun z => tst_ev (p := ns) (a := -t0) (b := t1) (c := t1) hg.last (by omega) (by omega) z ns.length (Nat.le_refl _)
  have s100 : ∀ y : Int, y.natAbs < 2 ^ 60 → y.natAbs < 2 ^ 100 := fun y h => Nat.lt_of_lt_of_le h (le_two (by decide))
  have TB := tst_tb (p := ns) (a := -t0) (b := t1) (c := t1) (e := 0) hg.bd l65 (by rw [Int.natAbs_neg]; exact s100 _ h1) (s100 _ h2) (s100 _ h2) (Nat.two_pow_pos _) ns.length (Nat.le_refl _)
  rw [hn] at V TB
  have et : (tst ns (-t0) t1 t1 0 (n + 1)).1 = turn ns (-t0) t1 t1 0 := by unfold turn; rw [hn]
  have TL := T.l1
  have TH := T.h0
  have TB1 := TB.b1
  rw [et] at TL TH TB1
  simp only [et] at V
  obtain ⟨c, pi⟩ := plain_is TH
  change PlainIs _ (shiftp ns t0 t1) c at pi
  generalize shiftp ns t0 t1 = S at *
  have SL : S.length = n + 1 := by rw [pi.len, TL]
  have SB : Bd 20000 S := pi.le _ (TB1.mono (by omega))
  refine ⟨⟨SL, SB, pi.pos, pi.one⟩, ?_⟩
  have key : ∀ z ∈ plc n, ∃ g : Int, g ≠ 0 ∧ c * value S z = g ^ n * value ns (fsum z (-t0, t1)) ∧ g ^ n * (fsum z (-t0, t1)).2 ^ n = t1 ^ n := fun z hz => by
    obtain ⟨z1, z2⟩ := plc_mem hn64 hz
    obtain ⟨y, w⟩ := z
    dsimp only at z1 z2
    subst z1
    obtain ⟨g, g0, e1, e2⟩ := value_low hn (y * t1 + -t0 * 1) (1 * t1) (by omega)
    refine ⟨g, g0, ?_, ?_⟩
    · rw [value_one, ← pi.ev, V y]
      show _ = g ^ n * value ns (low (y * t1 + -t0 * 1) (1 * t1))
      rw [e1, Int.one_mul, Int.mul_one, Int.add_comm (-t0), Int.mul_comm t1 y]
    · show g ^ n * (low (y * t1 + -t0 * 1) (1 * t1)).2 ^ n = _
      rw [← Int.mul_pow, e2, Int.one_mul]
  have len0 : ∀ z ∈ plc n, (fsum z (-t0, t1)).1.natAbs < 2 ^ 100 ∧ (fsum z (-t0, t1)).2.natAbs < 2 ^ 100 ∧ 0 < (fsum z (-t0, t1)).2 := fun z hz => by
    obtain ⟨z1, z2⟩ := plc_mem hn64 hz
    exact fsum_bd z1 z2 hx (by rw [Int.natAbs_neg]; exact h1) h2
  refine alike_of (u := c) (v := t1 ^ n) (by rw [plc_len]; omega) (fun z hz => ?_) (fun z hz => ?_) ?_ pi.c0 (Int.pow_ne_zero (by omega)) fun z hz => ?_
  · obtain ⟨z1, z2⟩ := plc_mem hn64 hz
    have q := rough_fit (x := z) SL hn64 SB (Nat.lt_of_lt_of_le z2 (le_two (by decide))) (by rw [z1]; exact one_lt 100 (by decide)) (by rw [z1]; decide)
    exact ⟨q.1, q.2.1, q.2.2⟩
  · have b := len0 z hz
    have q := rough_fit (x := fsum z (-t0, t1)) hn hn64 (hg.bd.mono (by decide)) b.1 b.2.1 (by have := b.2.2; omega)
    exact ⟨q.1, q.2.1, q.2.2⟩
  · obtain ⟨z, hz, h⟩ := plc_some TL TH
    refine ⟨z, hz, fun e => ?_⟩
    obtain ⟨g, g0, e1, _⟩ := key z hz
    have e : value ns (fsum z (-t0, t1)) = 0 := e
    rw [e, Int.mul_zero] at e1
    rw [pi.ev] at h
    obtain ⟨z1, _⟩ := plc_mem hn64 hz
    obtain ⟨y, w⟩ := z
    dsimp only at z1
    subst z1
    rw [value_one] at e1
    exact h e1
  · obtain ⟨g, g0, e1, e2⟩ := key z hz
    obtain ⟨z1, _⟩ := plc_mem hn64 hz
    show value S z * c * (fsum z (-t0, t1)).2 ^ (ns.length - 1) = value ns (fsum z (-t0, t1)) * t1 ^ n * z.2 ^ (S.length - 1)
    rw [z1, Int.one_pow, hn, Nat.add_sub_cancel]
    exact alg3 (W := 0) e1 e2
end K2
end

section
set_option Elab.async false
set_option linter.all false
set_option maxRecDepth 100000
set_option maxHeartbeats 4000000
set_option exponentiation.threshold 1100000
/-! K2mj: mathematics, (A): scaled rows. -/
namespace K2
theorem alg4 {c g e V W d N : Int} (h1 : c * (g * e) = N * d * W) (h2 : g * V = d) : g * (e * c * 1) = g * (W * N * V) := by grind
theorem sc_ok {ns : List Int} (hg : Good ns) {x : Int × Int} (hx : 0 < x.2) (hx0 : x.1 ≠ 0) (h1 : x.1.natAbs < 2 ^ 60) (h2 : x.2.natAbs < 2 ^ 60) : PlainOk (scale ns x.1 x.2) (ns.length - 1) 20000 ∧ Alike ((plc (ns.length - 1)).map fun z => rough (scale ns x.1 x.2) (fmul z x)) ((plc (ns.length - 1)).map (rough ns)) := by
  obtain ⟨u, d⟩ := x
  dsimp only at hx hx0 h1 h2 ⊢
  have l0 : 0 < ns.length := List.length_pos_iff.mpr hg.ne
  have l65 := hg.len
  obtain ⟨n, hn⟩ : ∃ n, ns.length = n + 1 := ⟨ns.length - 1, by omega⟩
  have hn64 : n ≤ 64 := by omega
  rw [show ns.length - 1 = n by omega]
  obtain ⟨c, pi⟩ := scale_is (E := ns) (n := u) (d := d) hg.last (by omega)
  generalize scale ns u d = S at *
  have SL : S.length = n + 1 := by rw [pi.len, PD.imap_len, hn]
  have SB : Bd 20000 S := pi.le _ (Bd.map_range fun i hi => by
    show (co ns i * d ^ i * u ^ (ns.length - 1 - i)).natAbs < _
    have b1 := pow_bd (Nat.le_of_lt h2) i
    have b2 := pow_bd (Nat.le_of_lt h1) (ns.length - 1 - i)
    have b3 := mul_bd (mul_bd (Nat.le_of_lt (hg.bd.co i)) b1) b2
    exact lt_two b3 (by have : CB = 400 := rfl; omega))
  refine ⟨⟨SL, SB, pi.pos, pi.one⟩, ?_⟩
  have key : ∀ z ∈ plc n, ∃ g : Int, g ≠ 0 ∧ c * (g ^ n * value S (fmul z (u, d))) = u ^ n * d ^ n * value ns z ∧ g ^ n * (fmul z (u, d)).2 ^ n = d ^ n := fun z hz => by
    obtain ⟨z1, z2⟩ := plc_mem hn64 hz
    obtain ⟨y, w⟩ := z
    dsimp only at z1 z2
    subst z1
    obtain ⟨g, g0, e1, e2⟩ := value_low SL (y * u) (1 * d) (by omega)
    refine ⟨g, g0, ?_, ?_⟩
    · show c * (g ^ n * value S (low (y * u) (1 * d))) = _
      have il : (PD.imap ns fun at_ x => x * d ^ at_ * u ^ (ns.length - 1 - at_)).length = n + 1 := by rw [PD.imap_len, hn]
      have hv := hom_full (PD.imap ns fun at_ x => x * d ^ at_ * u ^ (ns.length - 1 - at_)) (y * u) (1 * d)
      rw [il] at hv
      rw [e1, ← pi.hom, hv, value_one, evL_sm, ← sm_mul, hn]
      refine sm_congr fun i hi => ?_
      rw [co_imap, if_pos (by omega), Int.one_mul, show n + 1 - 1 - i = n - i by omega, Int.mul_pow]
      have a1 : u ^ n = u ^ i * u ^ (n - i) := by rw [← Int.pow_add]; congr 1; omega
      have a2 : d ^ n = d ^ i * d ^ (n - i) := by rw [← Int.pow_add]; congr 1; omega
      rw [a1, a2]
      ac_rfl
    · show g ^ n * (low (y * u) (1 * d)).2 ^ n = _
      rw [← Int.mul_pow, e2, Int.one_mul]
  have len0 : ∀ z ∈ plc n, (fmul z (u, d)).1.natAbs < 2 ^ 100 ∧ (fmul z (u, d)).2.natAbs < 2 ^ 100 ∧ 0 < (fmul z (u, d)).2 := fun z hz => by
    obtain ⟨z1, z2⟩ := plc_mem hn64 hz
    exact fmul_bd z1 z2 hx h1 h2
  refine alike_of (u := c) (v := u ^ n) (by rw [plc_len]; omega) (fun z hz => ?_) (fun z hz => ?_) ?_ pi.c0 (Int.pow_ne_zero hx0) fun z hz => ?_
  · have b := len0 z hz
    have q := rough_fit (x := fmul z (u, d)) SL hn64 SB b.1 b.2.1 (by have := b.2.2; omega)
    exact ⟨q.1, q.2.1, q.2.2⟩
  · obtain ⟨z1, z2⟩ := plc_mem hn64 hz
    have q := rough_fit (x := z) hn hn64 (hg.bd.mono (by decide)) (Nat.lt_of_lt_of_le z2 (le_two (by decide))) (by rw [z1]; exact one_lt 100 (by decide)) (by rw [z1]; decide)
    exact ⟨q.1, q.2.1, q.2.2⟩
  · obtain ⟨z, hz, h⟩ := plc_some hn hg.last
    refine ⟨z, hz, fun e => h ?_⟩
    have e : value ns z = 0 := e
    obtain ⟨z1, _⟩ := plc_mem hn64 hz
    obtain ⟨y, w⟩ := z
    dsimp only at z1
    subst z1
    rw [value_one] at e
    exact e
  · obtain ⟨g, g0, e1, e2⟩ := key z hz
    obtain ⟨z1, _⟩ := plc_mem hn64 hz
    show value S (fmul z (u, d)) * c * z.2 ^ (ns.length - 1) = value ns z * u ^ n * (fmul z (u, d)).2 ^ (S.length - 1)
    rw [z1, Int.one_pow, SL, Nat.add_sub_cancel]
    exact Int.eq_of_mul_eq_mul_left (Int.pow_ne_zero g0) (alg4 e1 e2)
end K2
end

section
set_option Elab.async false
set_option linter.all false
set_option maxRecDepth 100000
set_option maxHeartbeats 4000000
set_option exponentiation.threshold 1100000
/-! K2mk: mathematics, (A): squared roots; all the mathematics. -/
namespace K2
theorem co_ev (p : List Int) (s i : Nat) (hs : s ≤ 1) : co (ev p s) i = co p (s + 2 * i) := by
  unfold ev
  rw [co_map]
  split
  · rfl
  · exact (co_out (by omega)).symm
theorem ev_split (p : List Int) (x : Int) : evL p x = evL (ev p 0) (x * x) + x * evL (ev p 1) (x * x) := by
  have key : ∀ m, sm (2 * m) (fun i => co p i * x ^ i) = sm m (fun i => co (ev p 0) i * (x * x) ^ i) + x * sm m (fun i => co (ev p 1) i * (x * x) ^ i) := by
    intro m
    induction m with
    | zero => simp [sm]
    | succ m ih =>
      rw [show 2 * (m + 1) = 2 * m + 1 + 1 by omega]
      show sm (2 * m) (fun i => co p i * x ^ i) + co p (2 * m) * x ^ (2 * m) + co p (2 * m + 1) * x ^ (2 * m + 1) = sm m (fun i => co (ev p 0) i * (x * x) ^ i) + co (ev p 0) m * (x * x) ^ m + x * (sm m (fun i => co (ev p 1) i * (x * x) ^ i) + co (ev p 1) m * (x * x) ^ m)
      rw [ih, co_ev p 0 m (by omega), co_ev p 1 m (by omega), show 0 + 2 * m = 2 * m by omega, show 1 + 2 * m = 2 * m + 1 by omega, Int.pow_succ]
      have e : x ^ (2 * m) = (x * x) ^ m := by
        rw [Int.pow_mul]
        congr 1
        rw [Int.pow_succ, Int.pow_succ, Int.pow_zero, Int.one_mul]
      rw [e]
      generalize (x * x) ^ m = a
      generalize co p (2 * m) = b
      generalize co p (2 * m + 1) = d
      generalize sm m (fun i => co (ev p 0) i * (x * x) ^ i) = s
      generalize sm m (fun i => co (ev p 1) i * (x * x) ^ i) = r
      grind
  rw [evL_more x p (show p.length ≤ 2 * p.length by omega), key, ← evL_more (x * x) (ev p 0) (by rw [ev_len]; omega), ← evL_more (x * x) (ev p 1) (by rw [ev_len]; omega)]
def sqT (p : List Int) : List Int := padd (pmul (trim (ev p 0)) (trim (ev p 0))) (pmult (0 :: pmul (trim (ev p 1)) (trim (ev p 1))) (-1))
theorem sqT_ev (p : List Int) (x : Int) : evL (sqT p) (x * x) = evL p x * evL p (-x) := by
  unfold sqT
  rw [evL_padd, evL_pmult, evL_pmul, evL_trim]
  show _ + (0 + x * x * evL (pmul (trim (ev p 1)) (trim (ev p 1))) (x * x)) * -1 = _
  rw [evL_pmul, evL_trim, ev_split p x, ev_split p (-x), Int.neg_mul_neg]
  generalize evL (ev p 0) (x * x) = a
  generalize evL (ev p 1) (x * x) = b
  grind
theorem sqT_len {p : List Int} {n : Nat} (hp : p.length = n + 1) (h0 : lead p ≠ 0) : (sqT p).length = n + 1 ∧ lead (sqT p) ≠ 0 := by
  have l0 := ev_len p 0
  have l1 := ev_len p 1
  have t0 := trim_len (ev p 0)
  have t1 := trim_len (ev p 1)
  have m0 := pmul_len (trim (ev p 0)) (trim (ev p 0))
  have m1 := pmul_len (trim (ev p 1)) (trim (ev p 1))
  have hc : co p n ≠ 0 := by
    unfold lead at h0
    rw [hp] at h0
    exact h0
  have two : ∀ s, s ≤ 1 → ∀ m, n = s + 2 * m → (pmul (trim (ev p s)) (trim (ev p s))).length = 2 * m + 1 ∧ co (pmul (trim (ev p s)) (trim (ev p s))) (2 * m) ≠ 0 := fun s hs m hm => by
    have el : (ev p s).length = m + 1 := by rw [ev_len, hp]; omega
    have ec : lead (ev p s) = co p n := by
      unfold lead
      rw [el, co_ev p s _ hs, show s + 2 * (m + 1 - 1) = n by omega]
    have ne : ev p s ≠ [] := fun z => by rw [z] at el; exact absurd el (by simp)
    rw [trim_full (by rw [ec]; exact hc)]
    have q := pmul_length ne ne
    have r := lead_pmul ne ne
    refine ⟨by rw [q, el]; omega, ?_⟩
    unfold lead at r
    rw [q, el, show m + 1 + (m + 1) - 1 - 1 = 2 * m by omega] at r
    rw [r]
    have e2 : co (ev p s) (m + 1 - 1) = co p n := by
      have := ec
      unfold lead at this
      rw [el] at this
      exact this
    rw [e2]
    exact Int.mul_ne_zero hc hc
  have hlen : (sqT p).length ≤ n + 1 := by
    unfold sqT
    refine Nat.le_trans (padd_len _ _) (Nat.max_le.mpr ⟨by omega, Nat.le_trans (pmult_len _ _) ?_⟩)
    show (pmul _ _).length + 1 ≤ n + 1
    by_cases hn : n = 0
    · have h1 : (trim (ev p 1)).length = 0 := by omega
      have : trim (ev p 1) = [] := List.length_eq_zero_iff.mp h1
      rw [this]
      unfold pmul
      rw [if_pos (.inl rfl)]
      show 0 + 1 ≤ n + 1
      omega
    · omega
  have hco : co (sqT p) n ≠ 0 := by
    unfold sqT
    rw [co_padd, co_pmult]
    rcases Nat.mod_two_eq_zero_or_one n with e | e
    · obtain ⟨m, hm⟩ : ∃ m, n = 0 + 2 * m := ⟨n / 2, by omega⟩
      have q := (two 0 (by omega) m hm).2
      have z : co (0 :: pmul (trim (ev p 1)) (trim (ev p 1))) n = 0 := by
        by_cases hn : n = 0
        · rw [hn]
          rfl
        · refine co_out ?_
          show (pmul _ _).length + 1 ≤ n
          omega
      rw [z, Int.zero_mul, Int.add_zero, show n = 2 * m by omega]
      exact q
    · obtain ⟨m, hm⟩ : ∃ m, n = 1 + 2 * m := ⟨n / 2, by omega⟩
      have q := (two 1 (by omega) m hm).2
      have z : co (0 :: pmul (trim (ev p 1)) (trim (ev p 1))) n = co (pmul (trim (ev p 1)) (trim (ev p 1))) (2 * m) := by
        rw [show n = 2 * m + 1 by omega]
        rfl
      rw [z, co_out (p := pmul (trim (ev p 0)) (trim (ev p 0))) (by omega)]
      omega
  have q := len_of hlen hco
  exact ⟨q.1, by rw [q.2]; exact hco⟩
theorem sq_ok {ns : List Int} (hg : Good ns) : PlainOk (sqr ns) (ns.length - 1) 20000 ∧ Alike ((pts (ns.length - 1)).map fun z => rough (sqr ns) (z.1 * z.1, 1)) ((pts (ns.length - 1)).map fun z => (value ns z * value ns (-z.1, 1), 1)) := by
  have l0 : 0 < ns.length := List.length_pos_iff.mpr hg.ne
  have l65 := hg.len
  obtain ⟨n, hn⟩ : ∃ n, ns.length = n + 1 := ⟨ns.length - 1, by omega⟩
  have hn64 : n ≤ 64 := by omega
  rw [show ns.length - 1 = n by omega]
  obtain ⟨TL, TH⟩ := sqT_len hn hg.last
  obtain ⟨c, pi⟩ := plain_is TH
  change PlainIs _ (sqr ns) c at pi
  have b400 : Bd 400 ns := hg.bd
  have TB : Bd 20000 (sqT ns) := by
    unfold sqT
    have e0 := (ev_bd b400 0).trim
    have e1 := (ev_bd b400 1).trim
    have t0 := trim_len (ev ns 0)
    have t1 := trim_len (ev ns 1)
    have l0 := ev_len ns 0
    have l1 := ev_len ns 1
    have B0 := Bd.pmul e0 e0 (by omega)
    have B1 := Bd.pmul e1 e1 (by omega)
    have B2 : Bd (400 + 400 + 8) (0 :: pmul (trim (ev ns 1)) (trim (ev ns 1))) := fun x hx => by
      rcases List.mem_cons.mp hx with rfl | hx
      · exact Nat.two_pow_pos _
      · exact B1 x hx
    exact (B0.padd (B2.pmult (z := -1) (b := 1) (by decide))).mono (by decide)
  generalize sqr ns = S at *
  have SL : S.length = n + 1 := by rw [pi.len, TL]
  have SB : Bd 20000 S := pi.le _ TB
  refine ⟨⟨SL, SB, pi.pos, pi.one⟩, ?_⟩
  have val : ∀ z ∈ pts n, value ns z * value ns (-z.1, 1) = evL (sqT ns) (z.1 * z.1) := fun z hz => by
    obtain ⟨z1, _⟩ := pts_mem hn64 hz
    obtain ⟨y, w⟩ := z
    dsimp only at z1
    subst z1
    rw [value_one, value_one, sqT_ev]
  have len0 : ∀ z ∈ pts n, (value ns z * value ns (-z.1, 1)).natAbs < 2 ^ 1000000 := fun z hz => by
    obtain ⟨z1, z2⟩ := pts_mem hn64 hz
    have v1 := hom_bd b400 z2 (show z.2.natAbs < 2 ^ 7 by rw [z1]; decide) ns.length
    have v2 := hom_bd b400 (show (-z.1).natAbs < 2 ^ 7 by rw [Int.natAbs_neg]; exact z2) (show (1 : Int).natAbs < 2 ^ 7 by decide) ns.length
    exact lt_two (mul_bd v1 v2) (by omega)
  refine alike_of (u := c) (v := 1) (by rw [pts_len]; omega) (fun z hz => ?_) (fun z hz => ⟨len0 z hz, one_lt _ (by decide), Int.one_ne_zero⟩) ?_ pi.c0 (by decide) fun z hz => ?_
  · obtain ⟨z1, z2⟩ := pts_mem hn64 hz
    have q := rough_fit (x := (z.1 * z.1, 1)) SL hn64 SB (Nat.lt_of_lt_of_le (lt_mul z2 z2) (le_two (by decide))) (one_lt 100 (by decide)) Int.one_ne_zero
    exact ⟨q.1, q.2.1, q.2.2⟩
  · obtain ⟨k, hk, h⟩ := no_roots n (sqT ns) (fun k => (k : Int) * (k : Int)) TL TH fun i j _ _ hne e => by
      have e2 : ((i * i : Nat) : Int) = ((j * j : Nat) : Int) := by rw [Int.natCast_mul, Int.natCast_mul]; exact e
      have e3 : i * i = j * j := Int.ofNat.inj e2
      rcases Nat.lt_or_gt_of_ne hne with q | q
      · exact absurd e3 (Nat.ne_of_lt (Nat.mul_self_lt_mul_self q))
      · exact absurd e3.symm (Nat.ne_of_lt (Nat.mul_self_lt_mul_self q))
    have hm : ((k : Int), (1 : Int)) ∈ pts n := List.mem_map.mpr ⟨k, List.mem_range.mpr (by omega), rfl⟩
    refine ⟨_, hm, ?_⟩
    rw [val _ hm]
    exact h
  · show value S (z.1 * z.1, 1) * c * 1 = value ns z * value ns (-z.1, 1) * 1 * 1 ^ (S.length - 1)
    rw [val z hz, value_one, pi.ev, Int.one_pow, Int.mul_one, Int.mul_one, Int.mul_one, Int.mul_comm]
theorem maths : Maths where
  moved ns h := ⟨fun x a b c => sh_ok h a b c, fun x a b c d => sc_ok h a b c d, sq_ok h⟩
  sums p q a b c := pair_sums p q a b c
  prods p q a b c := pair_prod p q a b c
  symS p q _ _ _ := symS p q
  symP p q _ _ _ := symP p q
end K2
end

section
set_option Elab.async false
set_option linter.all false
set_option maxRecDepth 100000
set_option maxHeartbeats 4000000
/-! K2z: all defs together (printed by gen_z.py). -/
namespace K2
open PySem PySem.Spec PyProof.Rows L2 PD
def Has (K : PD.Frag) (x : Str) (st : Stmt) : Prop := ∃ f fd, PySem.W.nsIn K mainGlobals x = some (some (.ref f)) ∧ Fun K x x st f fd
theorem has_mk {K : PD.Frag} {x : Str} {st : Stmt} {f : Addr} {oc : Value} {od an : Option Addr} {osl : Array (Option Value)} {kV doc pm cdv ct : Value} (a : PySem.W.nsIn K mainGlobals x = some (some (.ref f)))
    (l : K.lookup f = some ⟨oc, od, .func (PySem.W.fnOf x x (defArgs st) (defBody st) (defScope st) .none kV doc pm an cdv ct), osl⟩) (c : PySem.W.codeIn K cdv x = true) (k : PySem.W.keepIn K (.ref f) = true) : Has K x st := ⟨f, _, a, fun_mk l c k⟩
theorem fnd {P : Program} {w : World} {K : PD.Frag} {mg : Str → Option Value} {base : Heap} {x : Str} {st : Stmt} {ps : List Str} {sp : Sp} {k : Nat} (X : K.In base) (G : base.Ns mainGlobals mg) (H : Has K x st) (b : ∀ f fd, Fun K x x st f fd → Binds K fd ps []) (ok : ∀ f fd, Fun K x x st f fd → FnOk P w K mg base CX0 k f fd ps sp) : FnD P w K mg base k x sp := by
  obtain ⟨f, fd, a, F⟩ := H
  exact ⟨f, fd, ps, ok f fd F, PySem.W.mg_of X G a, F.kp, b f fd F⟩
structure All (K : PD.Frag) : Prop where
  h_is_number : Has K "is_number" s_is_number
  h_power : Has K "power" s_power
  h_trimmed : Has K "trimmed" s_trimmed
  h_content : Has K "content" s_content
  h_small : Has K "small" s_small
  h_plain_of : Has K "plain_of" s_plain_of
  h_added : Has K "added" s_added
  h_multiple : Has K "multiple" s_multiple
  h_multiplied : Has K "multiplied" s_multiplied
  h_monic : Has K "monic" s_monic
  h_sums_of_powers : Has K "sums_of_powers" s_sums_of_powers
  h_of_sums : Has K "of_sums" s_of_sums
  h_scaled_of : Has K "scaled_of" s_scaled_of
  h_turned_of : Has K "turned_of" s_turned_of
  h_squared_of : Has K "squared_of" s_squared_of
  h_is_polynomial : Has K "is_polynomial" s_is_polynomial
  h_checked : Has K "checked" s_checked
  h_shifted : Has K "shifted" s_shifted
  h_scaled : Has K "scaled" s_scaled
  h_squared : Has K "squared" s_squared
  h_whole_pair : Has K "whole_pair" s_whole_pair
  h_sums_of : Has K "sums_of" s_sums_of
  h_products_of : Has K "products_of" s_products_of
  h_law_pool : Has K "_law_pool" s_law_pool
  h_law_take : Has K "_law_take" s_law_take
  h_law_pick : Has K "_law_pick" s_law_pick
  h_law_is_integer : Has K "_law_is_integer" s_law_is_integer
  h_law_same : Has K "_law_same" s_law_same
  h_law_below : Has K "_law_below" s_law_below
  h_law_divisor : Has K "_law_divisor" s_law_divisor
  h_law_lowest : Has K "_law_lowest" s_law_lowest
  h_law_sum : Has K "_law_sum" s_law_sum
  h_law_times : Has K "_law_times" s_law_times
  h_law_power : Has K "_law_power" s_law_power
  h_law_power_sums : Has K "_law_power_sums" s_law_power_sums
  h_law_value : Has K "_law_value" s_law_value
  h_law_product : Has K "_law_product" s_law_product
  h_law_whole_root : Has K "_law_whole_root" s_law_whole_root
  h_law_content : Has K "_law_content" s_law_content
  h_law_plain : Has K "_law_plain" s_law_plain
  h_law_factor : Has K "_law_factor" s_law_factor
  h_law_factors : Has K "_law_factors" s_law_factors
  h_law_product_of : Has K "_law_product_of" s_law_product_of
  h_law_grown : Has K "_law_grown" s_law_grown
  h_law_fraction : Has K "_law_fraction" s_law_fraction
  h_law_rough : Has K "_law_rough" s_law_rough
  h_law_is_plain : Has K "_law_is_plain" s_law_is_plain
  h_law_alike : Has K "_law_alike" s_law_alike
  h_law_whole_sums : Has K "_law_whole_sums" s_law_whole_sums
  h_law_any : Has K "_law_any" s_law_any
  h_law_one : Has K "_law_one" s_law_one
  h_law_moved_so : Has K "_law_moved_so" s_law_moved_so
  h_law_pairs_so : Has K "_law_pairs_so" s_law_pairs_so
  h_law_always : Has K "_law_always" s_law_always
  h_law : Has K "law" s_law
  n_len : PySem.W.nsIn K mainGlobals "len" = some none
  n_range : PySem.W.nsIn K mainGlobals "range" = some none
  n_list : PySem.W.nsIn K mainGlobals "list" = some none
  n_tuple : PySem.W.nsIn K mainGlobals "tuple" = some none
  n_rev : PySem.W.nsIn K mainGlobals "reversed" = some none
  n_enum : PySem.W.nsIn K mainGlobals "enumerate" = some none
  n_max : PySem.W.nsIn K mainGlobals "max" = some none
  n_min : PySem.W.nsIn K mainGlobals "min" = some none
  n_abs : PySem.W.nsIn K mainGlobals "abs" = some none
  n_int : PySem.W.nsIn K mainGlobals "int" = some none
  n_bool : PySem.W.nsIn K mainGlobals "bool" = some none
  n_sum : PySem.W.nsIn K mainGlobals "sum" = some none
  n_all : PySem.W.nsIn K mainGlobals "all" = some none
  n_isi : PySem.W.nsIn K mainGlobals "isinstance" = some none
  n_str : PySem.W.nsIn K mainGlobals "str" = some none
  n_gcd : PySem.W.nsIn K mainGlobals "gcd" = some (some (.builtin "math.gcd"))
  n_comb : PySem.W.nsIn K mainGlobals "comb" = some (some (.builtin "math.comb"))
  n_md : ∃ t, PySem.W.nsIn K mainGlobals "MOST_DEGREE" = some (some (.int 64 t))
theorem b_is_number {K : PD.Frag} (f : Addr) (fd : FuncData) (F : Fun K "is_number" "is_number" s_is_number f fd) : Binds K fd P_is_number [] := F.binds fun _ _ _ _ _ _ us hl => match us, hl with | [_], _ => rfl
theorem b_power {K : PD.Frag} (f : Addr) (fd : FuncData) (F : Fun K "power" "power" s_power f fd) : Binds K fd P_power [] := F.binds fun _ _ _ _ _ _ us hl => match us, hl with | [_, _], _ => rfl
theorem b_trimmed {K : PD.Frag} (f : Addr) (fd : FuncData) (F : Fun K "trimmed" "trimmed" s_trimmed f fd) : Binds K fd P_trimmed [] := F.binds fun _ _ _ _ _ _ us hl => match us, hl with | [_], _ => rfl
theorem b_content {K : PD.Frag} (f : Addr) (fd : FuncData) (F : Fun K "content" "content" s_content f fd) : Binds K fd P_content [] := F.binds fun _ _ _ _ _ _ us hl => match us, hl with | [_], _ => rfl
theorem b_small {K : PD.Frag} (f : Addr) (fd : FuncData) (F : Fun K "small" "small" s_small f fd) : Binds K fd P_small [] := F.binds fun _ _ _ _ _ _ us hl => match us, hl with | [_], _ => rfl
theorem b_plain_of {K : PD.Frag} (f : Addr) (fd : FuncData) (F : Fun K "plain_of" "plain_of" s_plain_of f fd) : Binds K fd P_plain_of [] := F.binds fun _ _ _ _ _ _ us hl => match us, hl with | [_], _ => rfl
theorem b_added {K : PD.Frag} (f : Addr) (fd : FuncData) (F : Fun K "added" "added" s_added f fd) : Binds K fd P_added [] := F.binds fun _ _ _ _ _ _ us hl => match us, hl with | [_, _], _ => rfl
theorem b_multiple {K : PD.Frag} (f : Addr) (fd : FuncData) (F : Fun K "multiple" "multiple" s_multiple f fd) : Binds K fd P_multiple [] := F.binds fun _ _ _ _ _ _ us hl => match us, hl with | [_, _], _ => rfl
theorem b_multiplied {K : PD.Frag} (f : Addr) (fd : FuncData) (F : Fun K "multiplied" "multiplied" s_multiplied f fd) : Binds K fd P_multiplied [] := F.binds fun _ _ _ _ _ _ us hl => match us, hl with | [_, _], _ => rfl
theorem b_monic {K : PD.Frag} (f : Addr) (fd : FuncData) (F : Fun K "monic" "monic" s_monic f fd) : Binds K fd P_monic [] := F.binds fun _ _ _ _ _ _ us hl => match us, hl with | [_], _ => rfl
theorem b_sums_of_powers {K : PD.Frag} (f : Addr) (fd : FuncData) (F : Fun K "sums_of_powers" "sums_of_powers" s_sums_of_powers f fd) : Binds K fd P_sums_of_powers [] := F.binds fun _ _ _ _ _ _ us hl => match us, hl with | [_, _], _ => rfl
theorem b_of_sums {K : PD.Frag} (f : Addr) (fd : FuncData) (F : Fun K "of_sums" "of_sums" s_of_sums f fd) : Binds K fd P_of_sums [] := F.binds fun _ _ _ _ _ _ us hl => match us, hl with | [_], _ => rfl
theorem b_scaled_of {K : PD.Frag} (f : Addr) (fd : FuncData) (F : Fun K "scaled_of" "scaled_of" s_scaled_of f fd) : Binds K fd P_scaled_of [] := F.binds fun _ _ _ _ _ _ us hl => match us, hl with | [_, _, _], _ => rfl
theorem b_turned_of {K : PD.Frag} (f : Addr) (fd : FuncData) (F : Fun K "turned_of" "turned_of" s_turned_of f fd) : Binds K fd P_turned_of [] := F.binds fun _ _ _ _ _ _ us hl => match us, hl with | [_, _, _, _, _], _ => rfl
theorem b_squared_of {K : PD.Frag} (f : Addr) (fd : FuncData) (F : Fun K "squared_of" "squared_of" s_squared_of f fd) : Binds K fd P_squared_of [] := F.binds fun _ _ _ _ _ _ us hl => match us, hl with | [_], _ => rfl
theorem b_is_polynomial {K : PD.Frag} (f : Addr) (fd : FuncData) (F : Fun K "is_polynomial" "is_polynomial" s_is_polynomial f fd) : Binds K fd P_is_polynomial [] := F.binds fun _ _ _ _ _ _ us hl => match us, hl with | [_], _ => rfl
theorem b_checked {K : PD.Frag} (f : Addr) (fd : FuncData) (F : Fun K "checked" "checked" s_checked f fd) : Binds K fd P_checked [] := F.binds fun _ _ _ _ _ _ us hl => match us, hl with | [_, _, _], _ => rfl
theorem b_shifted {K : PD.Frag} (f : Addr) (fd : FuncData) (F : Fun K "shifted" "shifted" s_shifted f fd) : Binds K fd P_shifted [] := F.binds fun _ _ _ _ _ _ us hl => match us, hl with | [_, _], _ => rfl
theorem b_scaled {K : PD.Frag} (f : Addr) (fd : FuncData) (F : Fun K "scaled" "scaled" s_scaled f fd) : Binds K fd P_scaled [] := F.binds fun _ _ _ _ _ _ us hl => match us, hl with | [_, _], _ => rfl
theorem b_squared {K : PD.Frag} (f : Addr) (fd : FuncData) (F : Fun K "squared" "squared" s_squared f fd) : Binds K fd P_squared [] := F.binds fun _ _ _ _ _ _ us hl => match us, hl with | [_], _ => rfl
theorem b_whole_pair {K : PD.Frag} (f : Addr) (fd : FuncData) (F : Fun K "whole_pair" "whole_pair" s_whole_pair f fd) : Binds K fd P_whole_pair [] := F.binds fun _ _ _ _ _ _ us hl => match us, hl with | [_, _], _ => rfl
theorem b_sums_of {K : PD.Frag} (f : Addr) (fd : FuncData) (F : Fun K "sums_of" "sums_of" s_sums_of f fd) : Binds K fd P_sums_of [] := F.binds fun _ _ _ _ _ _ us hl => match us, hl with | [_, _], _ => rfl
theorem b_products_of {K : PD.Frag} (f : Addr) (fd : FuncData) (F : Fun K "products_of" "products_of" s_products_of f fd) : Binds K fd P_products_of [] := F.binds fun _ _ _ _ _ _ us hl => match us, hl with | [_, _], _ => rfl
theorem b_law_pool {K : PD.Frag} (f : Addr) (fd : FuncData) (F : Fun K "_law_pool" "_law_pool" s_law_pool f fd) : Binds K fd P_law_pool [] := F.binds fun _ _ _ _ _ _ us hl => match us, hl with | [_], _ => rfl
theorem b_law_take {K : PD.Frag} (f : Addr) (fd : FuncData) (F : Fun K "_law_take" "_law_take" s_law_take f fd) : Binds K fd P_law_take [] := F.binds fun _ _ _ _ _ _ us hl => match us, hl with | [_, _], _ => rfl
theorem b_law_pick {K : PD.Frag} (f : Addr) (fd : FuncData) (F : Fun K "_law_pick" "_law_pick" s_law_pick f fd) : Binds K fd P_law_pick [] := F.binds fun _ _ _ _ _ _ us hl => match us, hl with | [_, _], _ => rfl
theorem b_law_is_integer {K : PD.Frag} (f : Addr) (fd : FuncData) (F : Fun K "_law_is_integer" "_law_is_integer" s_law_is_integer f fd) : Binds K fd P_law_is_integer [] := F.binds fun _ _ _ _ _ _ us hl => match us, hl with | [_], _ => rfl
theorem b_law_same {K : PD.Frag} (f : Addr) (fd : FuncData) (F : Fun K "_law_same" "_law_same" s_law_same f fd) : Binds K fd P_law_same [] := F.binds fun _ _ _ _ _ _ us hl => match us, hl with | [_, _], _ => rfl
theorem b_law_below {K : PD.Frag} (f : Addr) (fd : FuncData) (F : Fun K "_law_below" "_law_below" s_law_below f fd) : Binds K fd P_law_below [] := F.binds fun _ _ _ _ _ _ us hl => match us, hl with | [_, _], _ => rfl
theorem b_law_divisor {K : PD.Frag} (f : Addr) (fd : FuncData) (F : Fun K "_law_divisor" "_law_divisor" s_law_divisor f fd) : Binds K fd P_law_divisor [] := F.binds fun _ _ _ _ _ _ us hl => match us, hl with | [_, _], _ => rfl
theorem b_law_lowest {K : PD.Frag} (f : Addr) (fd : FuncData) (F : Fun K "_law_lowest" "_law_lowest" s_law_lowest f fd) : Binds K fd P_law_lowest [] := F.binds fun _ _ _ _ _ _ us hl => match us, hl with | [_, _], _ => rfl
theorem b_law_sum {K : PD.Frag} (f : Addr) (fd : FuncData) (F : Fun K "_law_sum" "_law_sum" s_law_sum f fd) : Binds K fd P_law_sum [] := F.binds fun _ _ _ _ _ _ us hl => match us, hl with | [_, _], _ => rfl
theorem b_law_times {K : PD.Frag} (f : Addr) (fd : FuncData) (F : Fun K "_law_times" "_law_times" s_law_times f fd) : Binds K fd P_law_times [] := F.binds fun _ _ _ _ _ _ us hl => match us, hl with | [_, _], _ => rfl
theorem b_law_power {K : PD.Frag} (f : Addr) (fd : FuncData) (F : Fun K "_law_power" "_law_power" s_law_power f fd) : Binds K fd P_law_power [] := F.binds fun _ _ _ _ _ _ us hl => match us, hl with | [_, _], _ => rfl
theorem b_law_power_sums {K : PD.Frag} (f : Addr) (fd : FuncData) (F : Fun K "_law_power_sums" "_law_power_sums" s_law_power_sums f fd) : Binds K fd P_law_power_sums [] := F.binds fun _ _ _ _ _ _ us hl => match us, hl with | [_, _], _ => rfl
theorem b_law_value {K : PD.Frag} (f : Addr) (fd : FuncData) (F : Fun K "_law_value" "_law_value" s_law_value f fd) : Binds K fd P_law_value [] := F.binds fun _ _ _ _ _ _ us hl => match us, hl with | [_, _], _ => rfl
theorem b_law_product {K : PD.Frag} (f : Addr) (fd : FuncData) (F : Fun K "_law_product" "_law_product" s_law_product f fd) : Binds K fd P_law_product [] := F.binds fun _ _ _ _ _ _ us hl => match us, hl with | [_, _], _ => rfl
theorem b_law_whole_root {K : PD.Frag} (f : Addr) (fd : FuncData) (F : Fun K "_law_whole_root" "_law_whole_root" s_law_whole_root f fd) : Binds K fd P_law_whole_root [] := F.binds fun _ _ _ _ _ _ us hl => match us, hl with | [_], _ => rfl
theorem b_law_content {K : PD.Frag} (f : Addr) (fd : FuncData) (F : Fun K "_law_content" "_law_content" s_law_content f fd) : Binds K fd P_law_content [] := F.binds fun _ _ _ _ _ _ us hl => match us, hl with | [_], _ => rfl
theorem b_law_plain {K : PD.Frag} (f : Addr) (fd : FuncData) (F : Fun K "_law_plain" "_law_plain" s_law_plain f fd) : Binds K fd P_law_plain [] := F.binds fun _ _ _ _ _ _ us hl => match us, hl with | [_], _ => rfl
theorem b_law_factor {K : PD.Frag} (f : Addr) (fd : FuncData) (F : Fun K "_law_factor" "_law_factor" s_law_factor f fd) : Binds K fd P_law_factor [] := F.binds fun _ _ _ _ _ _ us hl => match us, hl with | [_, _], _ => rfl
theorem b_law_factors {K : PD.Frag} (f : Addr) (fd : FuncData) (F : Fun K "_law_factors" "_law_factors" s_law_factors f fd) : Binds K fd P_law_factors [] := F.binds fun _ _ _ _ _ _ us hl => match us, hl with | [_, _, _], _ => rfl
theorem b_law_product_of {K : PD.Frag} (f : Addr) (fd : FuncData) (F : Fun K "_law_product_of" "_law_product_of" s_law_product_of f fd) : Binds K fd P_law_product_of [] := F.binds fun _ _ _ _ _ _ us hl => match us, hl with | [_, _], _ => rfl
theorem b_law_grown {K : PD.Frag} (f : Addr) (fd : FuncData) (F : Fun K "_law_grown" "_law_grown" s_law_grown f fd) : Binds K fd P_law_grown [] := F.binds fun _ _ _ _ _ _ us hl => match us, hl with | [_, _], _ => rfl
theorem b_law_fraction {K : PD.Frag} (f : Addr) (fd : FuncData) (F : Fun K "_law_fraction" "_law_fraction" s_law_fraction f fd) : Binds K fd P_law_fraction [] := F.binds fun _ _ _ _ _ _ us hl => match us, hl with | [_], _ => rfl
theorem b_law_rough {K : PD.Frag} (f : Addr) (fd : FuncData) (F : Fun K "_law_rough" "_law_rough" s_law_rough f fd) : Binds K fd P_law_rough [] := F.binds fun _ _ _ _ _ _ us hl => match us, hl with | [_, _], _ => rfl
theorem b_law_is_plain {K : PD.Frag} (f : Addr) (fd : FuncData) (F : Fun K "_law_is_plain" "_law_is_plain" s_law_is_plain f fd) : Binds K fd P_law_is_plain [] := F.binds fun _ _ _ _ _ _ us hl => match us, hl with | [_, _], _ => rfl
theorem b_law_alike {K : PD.Frag} (f : Addr) (fd : FuncData) (F : Fun K "_law_alike" "_law_alike" s_law_alike f fd) : Binds K fd P_law_alike [] := F.binds fun _ _ _ _ _ _ us hl => match us, hl with | [_, _], _ => rfl
theorem b_law_whole_sums {K : PD.Frag} (f : Addr) (fd : FuncData) (F : Fun K "_law_whole_sums" "_law_whole_sums" s_law_whole_sums f fd) : Binds K fd P_law_whole_sums [] := F.binds fun _ _ _ _ _ _ us hl => match us, hl with | [_, _], _ => rfl
theorem b_law_any {K : PD.Frag} (f : Addr) (fd : FuncData) (F : Fun K "_law_any" "_law_any" s_law_any f fd) : Binds K fd P_law_any [] := F.binds fun _ _ _ _ _ _ us hl => match us, hl with | [_, _, _], _ => rfl
theorem b_law_one {K : PD.Frag} (f : Addr) (fd : FuncData) (F : Fun K "_law_one" "_law_one" s_law_one f fd) : Binds K fd P_law_one [] := F.binds fun _ _ _ _ _ _ us hl => match us, hl with | [_], _ => rfl
theorem b_law_moved_so {K : PD.Frag} (f : Addr) (fd : FuncData) (F : Fun K "_law_moved_so" "_law_moved_so" s_law_moved_so f fd) : Binds K fd P_law_moved_so [] := F.binds fun _ _ _ _ _ _ us hl => match us, hl with | [_, _], _ => rfl
theorem b_law_pairs_so {K : PD.Frag} (f : Addr) (fd : FuncData) (F : Fun K "_law_pairs_so" "_law_pairs_so" s_law_pairs_so f fd) : Binds K fd P_law_pairs_so [] := F.binds fun _ _ _ _ _ _ us hl => match us, hl with | [_, _, _, _], _ => rfl
theorem b_law_always {K : PD.Frag} (f : Addr) (fd : FuncData) (F : Fun K "_law_always" "_law_always" s_law_always f fd) : Binds K fd P_law_always [] := F.binds fun _ _ _ _ _ _ us hl => match us, hl with | [], _ => rfl
theorem b_law {K : PD.Frag} (f : Addr) (fd : FuncData) (F : Fun K "law" "law" s_law f fd) : Binds K fd P_law [] := F.binds fun _ _ _ _ _ _ us hl => match us, hl with | [_], _ => rfl
theorem law_of {P : Program} {w : World} {K : PD.Frag} {mg : Str → Option Value} {base : Heap} {fa : Addr} (M : Maths) (N : All K) (X : K.In base) (G : base.Ns mainGlobals mg) (sr : base.NoSeer) (ht : P.given.tree = none) :
    ∀ f fd, Fun K "law" "law" s_law f fd → FnOk P w K mg base CX0 40 f fd P_law (spLaw K) := by
  have no : ∀ {x : Str}, PySem.W.nsIn K mainGlobals x = some none → mg x = none := fun e => PySem.W.mg_none_of X G e
  have B : Bi mg := ⟨no N.n_len, no N.n_range, no N.n_list, no N.n_tuple, no N.n_rev, no N.n_enum, no N.n_max, no N.n_min, no N.n_abs, no N.n_int, no N.n_bool, no N.n_sum, no N.n_all, no N.n_isi⟩
  have ms : mg "str" = none := no N.n_str
  have gg : mg "gcd" = some (.builtin "math.gcd") := PySem.W.mg_of X G N.n_gcd
  have gc : mg "comb" = some (.builtin "math.comb") := PySem.W.mg_of X G N.n_comb
  obtain ⟨t, gt⟩ := N.n_md
  have gm : mg "MOST_DEGREE" = some (.int 64 t) := PySem.W.mg_of X G gt
  have c_is_number : FnD P w K mg base 33 "is_number" p_is_number := fnd X G N.h_is_number b_is_number fun f fd F => ok_is_number F B
  have c_power : FnD P w K mg base 33 "power" p_power := fnd X G N.h_power b_power fun f fd F => ok_power F sr ht
  have c_trimmed : FnD P w K mg base 33 "trimmed" p_trimmed := fnd X G N.h_trimmed b_trimmed fun f fd F => ok_trimmed F B
  have c_content : FnD P w K mg base 33 "content" p_content := fnd X G N.h_content b_content fun f fd F => ok_content F B gg
  have c_small : FnD P w K mg base 34 "small" p_small := fnd X G N.h_small b_small fun f fd F => ok_small c_content sr ht B F
  have c_plain_of : FnD P w K mg base 35 "plain_of" p_plain := fnd X G N.h_plain_of b_plain_of fun f fd F => ok_plain_of c_small B F
  have c_added : FnD P w K mg base 34 "added" p_added := fnd X G N.h_added b_added fun f fd F => ok_added c_trimmed B F
  have c_multiple : FnD P w K mg base 34 "multiple" p_multiple := fnd X G N.h_multiple b_multiple fun f fd F => ok_multiple c_trimmed F
  have c_multiplied : FnD P w K mg base 33 "multiplied" p_multiplied := fnd X G N.h_multiplied b_multiplied fun f fd F => ok_multiplied B F
  have c_monic : FnD P w K mg base 34 "monic" p_monic := fnd X G N.h_monic b_monic fun f fd F => ok_monic c_power B F
  have c_sums_of_powers : FnD P w K mg base 33 "sums_of_powers" p_sums_of_powers := fnd X G N.h_sums_of_powers b_sums_of_powers fun f fd F => ok_sums_of_powers B F
  have c_of_sums : FnD P w K mg base 33 "of_sums" p_of_sums := fnd X G N.h_of_sums b_of_sums fun f fd F => ok_of_sums sr ht B F
  have c_scaled_of : FnD P w K mg base 36 "scaled_of" p_scaled_of := fnd X G N.h_scaled_of b_scaled_of fun f fd F => ok_scaled_of c_power c_plain_of B F
  have c_turned_of : FnD P w K mg base 35 "turned_of" p_turned_of := fnd X G N.h_turned_of b_turned_of fun f fd F => ok_turned_of c_added c_multiple c_multiplied c_trimmed B F
  have c_squared_of : FnD P w K mg base 36 "squared_of" p_squared_of := fnd X G N.h_squared_of b_squared_of fun f fd F => ok_squared_of c_added c_multiple c_multiplied c_trimmed c_plain_of B F
  have c_is_polynomial : FnD P w K mg base 34 "is_polynomial" p_is_polynomial := fnd X G N.h_is_polynomial b_is_polynomial fun f fd F => ok_is_polynomial c_is_number B gm F
  have c_checked : FnD P w K mg base 35 "checked" p_checked := fnd X G N.h_checked b_checked fun f fd F => ok_checked c_is_polynomial B F
  have c_shifted : FnD P w K mg base 36 "shifted" p_shifted := fnd X G N.h_shifted b_shifted fun f fd F => ok_shifted c_checked c_turned_of c_plain_of F
  have c_scaled : FnD P w K mg base 37 "scaled" p_scaled := fnd X G N.h_scaled b_scaled fun f fd F => ok_scaled c_checked c_scaled_of F
  have c_squared : FnD P w K mg base 37 "squared" p_squared := fnd X G N.h_squared b_squared fun f fd F => ok_squared c_checked c_squared_of F
  have c_whole_pair : FnD P w K mg base 35 "whole_pair" p_whole_pair := fnd X G N.h_whole_pair b_whole_pair fun f fd F => ok_whole_pair c_monic B F
  have c_sums_of : FnD P w K mg base 37 "sums_of" p_sums_of := fnd X G N.h_sums_of b_sums_of fun f fd F => ok_sums_of c_checked c_whole_pair c_sums_of_powers c_of_sums c_scaled_of c_power B gc F
  have c_products_of : FnD P w K mg base 37 "products_of" p_products_of := fnd X G N.h_products_of b_products_of fun f fd F => ok_products_of c_checked c_whole_pair c_sums_of_powers c_of_sums c_scaled_of B F
  have c_law_pool : FnD P w K mg base 33 "_law_pool" (spPool K) := fnd X G N.h_law_pool b_law_pool fun f fd F => ok_pool F
  have c_law_takeD : FnD P w K mg base 33 "_law_take" p_takeD := fnd X G N.h_law_take b_law_take fun f fd F => ok_takeD sr ht B F
  have c_law_takeT : FnD P w K mg base 34 "_law_take" p_takeT := fnd X G N.h_law_take b_law_take fun f fd F => ok_takeT c_law_takeD sr ht B F
  have c_take := take_Q c_law_takeT
  have c_law_pick : FnD P w K mg base 35 "_law_pick" p_pick := fnd X G N.h_law_pick b_law_pick fun f fd F => ok_pick c_take B F
  have c_law_is_integer : FnD P w K mg base 33 "_law_is_integer" p_is_integer := fnd X G N.h_law_is_integer b_law_is_integer fun f fd F => ok_is_integer B F
  have c_law_same0 : FnD P w K mg base 34 "_law_same" (p_same 0) := fnd X G N.h_law_same b_law_same fun f fd F => ok_same0 c_law_is_integer B ms F
  have c_law_same1 : FnD P w K mg base 35 "_law_same" (p_same 1) := fnd X G N.h_law_same b_law_same fun f fd F => ok_sameS (n := 0) c_law_same0 B F
  have c_law_same2 : FnD P w K mg base 36 "_law_same" (p_same 2) := fnd X G N.h_law_same b_law_same fun f fd F => ok_sameS (n := 1) c_law_same1 B F
  have c_law_below : FnD P w K mg base 35 "_law_below" p_below := fnd X G N.h_law_below b_law_below fun f fd F => ok_below c_take B F
  have c_law_divisor : FnD P w K mg base 33 "_law_divisor" p_divisor := fnd X G N.h_law_divisor b_law_divisor fun f fd F => ok_divisor B F
  have c_law_lowest : FnD P w K mg base 34 "_law_lowest" p_lowest := fnd X G N.h_law_lowest b_law_lowest fun f fd F => ok_lowest c_law_divisor sr ht B F
  have c_law_sum : FnD P w K mg base 35 "_law_sum" p_sum := fnd X G N.h_law_sum b_law_sum fun f fd F => ok_sum c_law_lowest F
  have c_law_times : FnD P w K mg base 35 "_law_times" p_times := fnd X G N.h_law_times b_law_times fun f fd F => ok_times c_law_lowest F
  have c_law_power : FnD P w K mg base 33 "_law_power" p_lpower := fnd X G N.h_law_power b_law_power fun f fd F => ok_lpower B F
  have c_law_power_sums : FnD P w K mg base 33 "_law_power_sums" p_lpower_sums := fnd X G N.h_law_power_sums b_law_power_sums fun f fd F => ok_lpower_sums B F
  have c_law_value : FnD P w K mg base 33 "_law_value" p_value := fnd X G N.h_law_value b_law_value fun f fd F => ok_value F
  have c_law_product : FnD P w K mg base 33 "_law_product" p_lproduct := fnd X G N.h_law_product b_law_product fun f fd F => ok_lproduct B F
  have c_law_whole_root : FnD P w K mg base 33 "_law_whole_root" p_whole_root := fnd X G N.h_law_whole_root b_law_whole_root fun f fd F => ok_whole_root sr ht B F
  have c_law_content : FnD P w K mg base 34 "_law_content" p_lcontent := fnd X G N.h_law_content b_law_content fun f fd F => ok_lcontent c_law_divisor F
  have c_law_plain : FnD P w K mg base 35 "_law_plain" p_lplain := fnd X G N.h_law_plain b_law_plain fun f fd F => ok_lplain c_law_content sr ht B F
  have c_law_factor : FnD P w K mg base 36 "_law_factor" p_factor := fnd X G N.h_law_factor b_law_factor fun f fd F => ok_factor c_take c_law_pick c_law_whole_root c_law_plain B F
  have c_law_factors : FnD P w K mg base 37 "_law_factors" p_factors := fnd X G N.h_law_factors b_law_factors fun f fd F => ok_factors c_law_factor B F
  have c_law_product_of : FnD P w K mg base 34 "_law_product_of" p_product_of := fnd X G N.h_law_product_of b_law_product_of fun f fd F => ok_product_of c_law_product B F
  have c_law_grown : FnD P w K mg base 33 "_law_grown" p_grown := fnd X G N.h_law_grown b_law_grown fun f fd F => ok_grown F
  have c_law_fraction : FnD P w K mg base 36 "_law_fraction" p_fraction := fnd X G N.h_law_fraction b_law_fraction fun f fd F => ok_fraction c_law_below c_law_pick c_law_lowest F
  have c_law_rough : FnD P w K mg base 34 "_law_rough" p_rough := fnd X G N.h_law_rough b_law_rough fun f fd F => ok_rough c_law_value c_law_power B F
  have c_law_is_plain : FnD P w K mg base 35 "_law_is_plain" p_is_plain := fnd X G N.h_law_is_plain b_law_is_plain fun f fd F => ok_is_plain c_law_is_integer c_law_content B F
  have c_law_alike : FnD P w K mg base 33 "_law_alike" p_alike := fnd X G N.h_law_alike b_law_alike fun f fd F => ok_alike B F
  have c_law_whole_sums : FnD P w K mg base 34 "_law_whole_sums" p_whole_sums := fnd X G N.h_law_whole_sums b_law_whole_sums fun f fd F => ok_whole_sums c_law_power c_law_power_sums B F
  have c_law_any : FnD P w K mg base 36 "_law_any" p_any := fnd X G N.h_law_any b_law_any fun f fd F => ok_any c_law_below c_law_pick B F
  have c_law_one : FnD P w K mg base 38 "_law_one" p_one := fnd X G N.h_law_one b_law_one fun f fd F => ok_one c_take c_law_pick c_law_any c_law_factors c_law_product_of c_law_grown B F
  have c_law_moved_so : FnD P w K mg base 38 "_law_moved_so" p_moved_so := fnd X G N.h_law_moved_so b_law_moved_so fun f fd F => ok_moved_so c_shifted c_scaled c_squared c_law_fraction c_law_pick c_law_is_plain c_law_rough c_law_sum c_law_times c_law_alike c_law_value sr ht B F
  have c_law_pairs_so : FnD P w K mg base 36 "_law_pairs_so" p_pairs_so := fnd X G N.h_law_pairs_so b_law_pairs_so fun f fd F => ok_pairs_so c_law_is_plain c_law_whole_sums c_law_power B F
  have c_law_always : FnD P w K mg base 38 "_law_always" p_always := fnd X G N.h_law_always b_law_always fun f fd F => ok_always c_shifted c_scaled c_squared c_sums_of c_products_of c_law_same2 F
  exact fun f fd F => ok_law M c_law_pool c_law_always c_take c_law_pick c_law_one c_law_any c_law_moved_so c_law_pairs_so c_sums_of c_products_of c_law_same1 sr ht B F
theorem all_of {l : PySem.W.OpenLaw} {w : World} {K : PD.Frag} {h : Heap} {mg : Str → Option Value} {fa : Addr} (M : Maths) (ht : l.prog.given.tree = none) (N : All K) (X : K.In h) (G : h.Ns mainGlobals mg) (hfa : mg "law" = some (.ref fa)) :
    ∃ fd : FuncData, (∀ (s : Shared) (u : Value), BindsTo s fd ⟨[u], []⟩ [("script", u)]) ∧ ∀ base : Heap, K.In base → base.Ns mainGlobals mg → base.NoSeer → FnOk l.prog w K mg base CX0 40 fa fd ["script"] (spLaw K) := by
  obtain ⟨f, fd, a, F⟩ := N.h_law
  have e := hfa.symm.trans (PySem.W.mg_of X G a)
  cases e
  have F' := F
  obtain ⟨oc, od, kV, doc, pm, an, cdv, ct, osl, e, lk, hcd⟩ := F.ex
  refine ⟨fd, fun s u => ?_, fun base X' G' sr => law_of (fa := fa) M N X' G' sr ht fa fd F'⟩
  subst e
  exact .of_eq rfl
end K2
end

section
set_option Elab.async false
set_option linter.all false
set_option maxRecDepth 100000
/-! K2end: the claim's own theorem (from K2z and K2mk). -/
open PySem PySem.W PyProof.Rows
set_option maxHeartbeats 0 in
theorem PySem.Challenge.cw_gapsproved_k02_whole_polynomials_of_move_holds : PySem.Challenge.rw_gapsproved_k02_whole_polynomials_of_move.Holds := by
  w_on; o_law; k_head; (case hw => w_witness2)
  k_fill
  have M : K2.Maths := K2.maths
  refine PD.walk_mine (l := PySem.Challenge.rw_gapsproved_k02_whole_polynomials_of_move) (k := 40) (sp := fun w => K2.spLaw _) rfl rfl ⟨rfl, by decide, by decide⟩ (fun w h Y => PySem.W.kIn_of Y) (by decide +kernel) ?F (fun _ _ a ns hl hS => ⟨a, ns, rfl, hS, hl, fun _ => rfl⟩)
  case F =>
    intro w mg fa h KX G hmg
    refine K2.all_of M rfl ?hAll KX G hmg
    case hAll =>
      constructor
      all_goals first
        | (refine' K2.has_mk ?a ?l ?c ?k; (case a => k_is); (case l => k_is); (case c => k_is); (case k => k_is))
        | k_is
        | (apply Exists.intro; k_is; done)
        | exact ⟨531, by k_is⟩
end
