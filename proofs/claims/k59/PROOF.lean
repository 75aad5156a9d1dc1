import PyProof.Rows.All
import Wide.All
import OpenK.AllK
import Wide.FinOn
import HandS.ForMost
import HandS.Evl
import HandS.Deep
import HandS.TupAny
import HandS.SortInts
import HandS.RaiseMore
import HandS.SetFor
import HandS.Small
import HandS.IsInst
import HandS.Rev
import HandS.RevRange
import HandS.Zip
import HandS.Gcd
import PyProof.ListIndexNeg
import HandS.WideMore
import PySem.Challenge.RW_schoollands_k59_whole_means_and_reports
set_option Elab.async false
set_option linter.all false
set_option maxRecDepth 100000
set_option maxHeartbeats 4000000
-- part TL1
/-! TL1: values as trees. Slots hold frozen trees, trees to be read, or one owned object; predicate transformers over such slots, lifted to the hand layer. -/
namespace TL
open PySem PySem.Spec L2
open Evl (Ex ex_l ex_t)

abbrev D := PyData
/-- the kind of an owned object: a list, a dict with int and text keys, a dict with tuple keys -/
inductive Kd | l | k | t
inductive Slot
  | un
  | fz (d : D)
  | rd (d : D)
  | ow (t : Option Addr) (κ : Kd) (d : D)
inductive Res
  | fz (d : D)
  | tm (κ : Kd) (d : D)
  | rd (d : D)
  | bo (i : Nat)
def kD : Key → D
  | .inl i => .int i
  | .inr x => .str x

mutual
/-- a frozen tree: its lists stand in F -/
inductive Dp (K : PySem.W.Frag) (F : Hp) : V → D → Prop
  | non : Dp K F .non .none
  | bl (b : Bool) : Dp K F (.bl b) (.bool b)
  | int (i : Int) : Dp K F (.int i) (.int i)
  | str (x : Str) : Dp K F (.str x) (.str x)
  | lst {a : Addr} {xs : List V} {ds : List D} : F a = some (.lst xs) → DpAll K F xs ds → Dp K F (.ref a) (.list ds)
  | tup {a : Addr} {xs : List V} {ds : List D} : F a = some (.tup xs) → DpAll K F xs ds → Dp K F (.ref a) (.tuple ds)
  /-- the script, a thing of its own -/
  | scr {a : Addr} {ns : List Int} : SqL K F a (ns.map V.int) → Dp K F (.ref a) (.dict [(.list (ns.map .int), .none)])
inductive DpAll (K : PySem.W.Frag) (F : Hp) : List V → List D → Prop
  | nil : DpAll K F [] []
  | cons {v : V} {vs : List V} {d : D} {ds : List D} : Dp K F v d → DpAll K F vs ds → DpAll K F (v :: vs) (d :: ds)
end
section
variable {K : PySem.W.Frag} {F F' H H' : Hp}
mutual
theorem dp_mono (e : Ex F F') : ∀ {v : V} {d : D}, Dp K F v d → Dp K F' v d
  | _, _, .non => .non
  | _, _, .bl b => .bl b
  | _, _, .int i => .int i
  | _, _, .str x => .str x
  | _, _, .lst h hs => .lst (e _ _ h) (dpAll_mono e hs)
  | _, _, .tup h hs => .tup (e _ _ h) (dpAll_mono e hs)
  | _, _, .scr h => .scr (ex_l e h)
theorem dpAll_mono (e : Ex F F') : ∀ {vs : List V} {ds : List D}, DpAll K F vs ds → DpAll K F' vs ds
  | _, _, .nil => .nil
  | _, _, .cons h hs => .cons (dp_mono e h) (dpAll_mono e hs)
end
mutual
theorem dp_l2 (e : Ex F H) : ∀ {v : V} {d : D}, Dp K F v d → d.canLay0 = true → L2.Dp K H v d
  | _, _, .non, _ => .non
  | _, _, .bl b, _ => .bl b
  | _, _, .int i, _ => .int i
  | _, _, .str x, _ => .str x
  | _, _, .lst h hs, c => .lst (Evl.sq_of (e _ _ h)) (dpAll_l2 e hs (by simpa [PyData.canLay0] using c))
  | _, _, .tup h hs, c => .tup (Evl.st_of (e _ _ h)) (dpAll_l2 e hs (by simpa [PyData.canLay0] using c))
  | _, _, .scr h, c => by simp [PyData.canLay0] at c
theorem dpAll_l2 (e : Ex F H) : ∀ {vs : List V} {ds : List D}, DpAll K F vs ds → PyData.canLayAll0 ds = true → L2.DpAll K H vs ds
  | _, _, .nil, _ => .nil
  | _, d :: ds, .cons h hs, c => by
    have c' : d.canLay0 = true ∧ PyData.canLayAll0 ds = true := by simpa [PyData.canLayAll0] using c
    exact .cons (dp_l2 e h c'.1) (dpAll_l2 e hs c'.2)
end
theorem dpAll_len : ∀ {vs : List V} {ds : List D}, DpAll K F vs ds → vs.length = ds.length
  | _, _, .nil => rfl
  | _, _, .cons _ h => by simp [dpAll_len h]
theorem dpAll_get : ∀ {vs : List V} {ds : List D} {i : Nat} {v : V}, DpAll K F vs ds → vs[i]? = some v → ∃ d, ds[i]? = some d ∧ Dp K F v d
  | _, _, i, v, .nil, e => by simp at e
  | _, _, 0, v, .cons h _, e => by simp at e; subst e; exact ⟨_, rfl, h⟩
  | _, _, i + 1, v, .cons _ h, e => by
    obtain ⟨d, h1, h2⟩ := dpAll_get (i := i) (v := v) h (by simpa using e)
    exact ⟨d, by simpa using h1, h2⟩
theorem dpAll_get' : ∀ {vs : List V} {ds : List D} {i : Nat} {d : D}, DpAll K F vs ds → ds[i]? = some d → ∃ v, vs[i]? = some v ∧ Dp K F v d
  | _, _, i, v, .nil, e => by simp at e
  | _, _, 0, v, .cons h _, e => by simp at e; subst e; exact ⟨_, rfl, h⟩
  | _, _, i + 1, v, .cons _ h, e => by
    obtain ⟨d, h1, h2⟩ := dpAll_get' (i := i) (d := v) h (by simpa using e)
    exact ⟨d, by simpa using h1, h2⟩
theorem dpAll_app : ∀ {vs ws : List V} {ds es : List D}, DpAll K F vs ds → DpAll K F ws es → DpAll K F (vs ++ ws) (ds ++ es)
  | _, _, _, _, .nil, h => h
  | _, _, _, _, .cons h hs, g => .cons h (dpAll_app hs g)
theorem dpAll_ints : ∀ {vs : List V} {ns : List Int}, DpAll K F vs (ns.map .int) → vs = ns.map .int
  | _, [], .nil => rfl
  | _, n :: ns, .cons h hs => by cases h; rw [dpAll_ints hs]; rfl
theorem dpAll_strs : ∀ {vs : List V} {ns : List Str}, DpAll K F vs (ns.map .str) → vs = ns.map .str
  | _, [], .nil => rfl
  | _, n :: ns, .cons h hs => by cases h; rw [dpAll_strs hs]; rfl
theorem dpAll_ints_mk : ∀ ns : List Int, DpAll K F (ns.map .int) (ns.map .int)
  | [] => .nil
  | n :: ns => .cons (.int n) (dpAll_ints_mk ns)
theorem dpAll_strs_mk : ∀ ns : List Str, DpAll K F (ns.map .str) (ns.map .str)
  | [] => .nil
  | n :: ns => .cons (.str n) (dpAll_strs_mk ns)
end
/-- b is owned by a slot -/
def OA (σ : L2.St) (ρ : List Slot) (b : Addr) : Prop := ∃ (i : Nat) (t : Option Addr) (κ : Kd) (d : D), ρ[i]? = some (.ow t κ d) ∧ σ[i]? = some (some (.ref b))
section
variable (K : PySem.W.Frag)
def OwAt (F H : Hp) (κ : Kd) (a : Addr) (d : D) : Prop := match κ with
  | .l => ∃ xs ds, d = .list ds ∧ H a = some (.lst xs) ∧ DpAll K F xs ds
  | .k => ∃ kvs ps, d = .dict ps ∧ H a = some (.dK kvs) ∧ Paired (fun (p : Key × V) (q : D × D) => q.1 = kD p.1 ∧ Dp K F p.2 q.2) kvs ps
  | .t => ∃ kvs ps, d = .dict ps ∧ H a = some (.dT kvs) ∧ Paired (fun (p : List Key × V) (q : D × D) => q.1 = .tuple (p.1.map kD) ∧ Dp K F p.2 q.2) kvs ps
def RdAt (F H : Hp) (v : V) (d : D) : Prop := Dp K F v d ∨ ∃ κ a, v = .ref a ∧ OwAt K F H κ a d
/-- .. and no slot owns it -/
def RdN (F H : Hp) (O : Addr → Prop) (v : V) (d : D) : Prop := Dp K F v d ∨ ∃ κ a, v = .ref a ∧ OwAt K F H κ a d ∧ ¬ O a
structure Sta (F H : Hp) (σ : L2.St) (ρ : List Slot) : Prop where
  sub : Ex F H
  len : σ.length = ρ.length
  fz : ∀ (i : Nat) (d : D), ρ[i]? = some (.fz d) → ∃ v, σ[i]? = some (some v) ∧ Dp K F v d
  rd : ∀ (i : Nat) (d : D), ρ[i]? = some (.rd d) → ∃ v, σ[i]? = some (some v) ∧ RdN K F H (OA σ ρ) v d
  ow : ∀ (i : Nat) (t : Option Addr) (κ : Kd) (d : D), ρ[i]? = some (.ow t κ d) → ∃ a, σ[i]? = some (some (.ref a)) ∧ OwAt K F H κ a d ∧ F a = none ∧ ∀ b, t = some b → b = a
  inj : ∀ (i j : Nat) (t t' : Option Addr) (κ κ' : Kd) (d d' : D) (a : Addr), ρ[i]? = some (.ow t κ d) → ρ[j]? = some (.ow t' κ' d') → σ[i]? = some (some (.ref a)) → σ[j]? = some (some (.ref a)) → i = j
end
/-- what a piece of code may change -/
structure Tr (F H : Hp) (σ : L2.St) (ρ : List Slot) (F' H' : Hp) (σ' : L2.St) (ρ' : List Slot) : Prop where
  fext : Ex F F'
  keep : ∀ b o, H b = some o → ¬ OA σ ρ b → H' b = some o
  there : ∀ b o, H b = some o → ∃ o', H' b = some o'
  own : ∀ b, OA σ' ρ' b → OA σ ρ b ∨ H b = none
  fnew : ∀ b o, F' b = some o → F b = some o ∨ H b = none ∨ OA σ ρ b
section
variable {K : PySem.W.Frag} {F F' F1 F2 H H' H1 H2 : Hp} {σ σ' σ1 σ2 : L2.St} {ρ ρ' ρ1 ρ2 : List Slot}
theorem Tr.refl : Tr F H σ ρ F H σ ρ := ⟨Ex.refl F, fun _ _ h _ => h, fun _ o h => ⟨o, h⟩, fun _ h => .inl h, fun _ _ h => .inl h⟩
theorem Tr.trans (a : Tr F H σ ρ F1 H1 σ1 ρ1) (b : Tr F1 H1 σ1 ρ1 F2 H2 σ2 ρ2) : Tr F H σ ρ F2 H2 σ2 ρ2 := by
  have nn : ∀ c, H1 c = none → H c = none := fun c h => by
    cases e : H c with
    | none => rfl
    | some o =>
      obtain ⟨o', h'⟩ := a.there c o e
      rw [h] at h'; cases h'
  refine ⟨a.fext.trans b.fext, fun c o h n => ?_, fun c o h => ?_, fun c h => ?_, fun c o h => ?_⟩
  · refine b.keep c o (a.keep c o h n) fun z => ?_
    rcases a.own c z with y | y
    · exact n y
    · rw [h] at y; cases y
  · obtain ⟨o', h'⟩ := a.there c o h
    exact b.there c o' h'
  · rcases b.own c h with y | y
    · exact a.own c y
    · exact .inr (nn c y)
  · rcases b.fnew c o h with y | y | y
    · exact a.fnew c o y
    · exact .inr (.inl (nn c y))
    · rcases a.own c y with z | z
      · exact .inr (.inr z)
      · exact .inr (.inl z)
theorem Tr.none (a : Tr F H σ ρ F1 H1 σ1 ρ1) {c : Addr} (h : H1 c = none) : H c = none := by
  cases e : H c with
  | none => rfl
  | some o =>
    obtain ⟨o', h'⟩ := a.there c o e
    rw [h] at h'; cases h'
/-- what an expression may change: the names stand for what they stood for -/
structure TrX (F H : Hp) (σ : L2.St) (ρ : List Slot) (F' H' : Hp) (ρ' : List Slot) : Prop extends Tr F H σ ρ F' H' σ ρ' where
  slow : ∀ (i : Nat) (t : Option Addr) (κ : Kd) (d : D), ρ'[i]? = some (.ow t κ d) → ∃ d0, ρ[i]? = some (.ow t κ d0)
  slrd : ∀ (i : Nat) (d : D), ρ'[i]? = some (.rd d) → ρ[i]? = some (.rd d) ∨ ∃ t κ d0, ρ[i]? = some (.ow t κ d0)
instance : Coe (TrX F H σ ρ F' H' ρ') (Tr F H σ ρ F' H' σ ρ') := ⟨TrX.toTr⟩
theorem TrX.refl : TrX F H σ ρ F H ρ := ⟨Tr.refl, fun _ _ _ d h => ⟨d, h⟩, fun _ _ h => .inl h⟩
theorem TrX.trans (a : TrX F H σ ρ F1 H1 ρ1) (b : TrX F1 H1 σ ρ1 F2 H2 ρ2) : TrX F H σ ρ F2 H2 ρ2 := by
  refine ⟨a.toTr.trans b.toTr, fun i t κ d h => ?_, fun i d h => ?_⟩
  · obtain ⟨d1, h1⟩ := b.slow i t κ d h
    exact a.slow i t κ d1 h1
  · rcases b.slrd i d h with h1 | ⟨t, κ, d1, h1⟩
    · exact a.slrd i d h1
    · obtain ⟨d2, h2⟩ := a.slow i t κ d1 h1
      exact .inr ⟨t, κ, d2, h2⟩
theorem TrX.none (a : TrX F H σ ρ F1 H1 ρ1) {c : Addr} (h : H1 c = none) : H c = none := a.toTr.none h
theorem OwAt.some {κ : Kd} {a : Addr} {d : D} (h : OwAt K F H κ a d) : ∃ o, H a = some o := by
  cases κ with
  | l => obtain ⟨_, _, _, e, _⟩ := h; exact ⟨_, e⟩
  | k => obtain ⟨_, _, _, e, _⟩ := h; exact ⟨_, e⟩
  | t => obtain ⟨_, _, _, e, _⟩ := h; exact ⟨_, e⟩
theorem OwAt.mono {κ : Kd} {a : Addr} {d : D} (h : OwAt K F H κ a d) (e : Ex F F') (k : ∀ o, H a = .some o → H' a = .some o) : OwAt K F' H' κ a d := by
  cases κ with
  | l => obtain ⟨xs, ds, rfl, q, r⟩ := h; exact ⟨xs, ds, rfl, k _ q, dpAll_mono e r⟩
  | k => obtain ⟨xs, ds, rfl, q, r⟩ := h; exact ⟨xs, ds, rfl, k _ q, Paired.mapP r fun _ _ z => ⟨z.1, dp_mono e z.2⟩⟩
  | t => obtain ⟨xs, ds, rfl, q, r⟩ := h; exact ⟨xs, ds, rfl, k _ q, Paired.mapP r fun _ _ z => ⟨z.1, dp_mono e z.2⟩⟩
theorem RdAt.mono {v : V} {d : D} (h : RdAt K F H v d) (e : Ex F F') (k : ∀ a o, v = .ref a → H a = .some o → H' a = .some o) : RdAt K F' H' v d := by
  rcases h with h | ⟨κ, a, rfl, h⟩
  · exact .inl (dp_mono e h)
  · exact .inr ⟨κ, a, rfl, h.mono e fun o q => k a o rfl q⟩
theorem RdN.at {O : Addr → Prop} {v : V} {d : D} (h : RdN K F H O v d) : RdAt K F H v d := by
  rcases h with h | ⟨κ, a, e, h, _⟩
  · exact .inl h
  · exact .inr ⟨κ, a, e, h⟩
theorem RdN.later {v : V} {d : D} (h : RdN K F1 H1 (OA σ1 ρ1) v d) (t : Tr F1 H1 σ1 ρ1 F2 H2 σ2 ρ2) : RdN K F2 H2 (OA σ2 ρ2) v d := by
  rcases h with h | ⟨κ, a, e, h, n⟩
  · exact .inl (dp_mono t.fext h)
  · obtain ⟨o, e'⟩ := h.some
    refine .inr ⟨κ, a, e, h.mono t.fext fun o q => t.keep _ _ q n, fun z => ?_⟩
    rcases t.own a z with y | y
    · exact n y
    · rw [e'] at y; cases y

section
variable (K)
/-- a result lies at v; H0: the heap ahead of its making -/
def Fits (F H : Hp) (σ : L2.St) (ρ : List Slot) (H0 : Hp) (v : V) : Res → Prop
  | .fz d => Dp K F v d
  | .tm κ d => ∃ a, v = .ref a ∧ OwAt K F H κ a d ∧ F a = none ∧ ¬ OA σ ρ a ∧ H0 a = none
  | .rd d => RdN K F H (OA σ ρ) v d
  | .bo i => σ[i]? = some (some v)
end
theorem Fits.later {H0 : Hp} {v : V} {r : Res} (f : Fits K F1 H1 σ ρ1 H0 v r) (t : Tr F1 H1 σ ρ1 F2 H2 σ ρ2) : Fits K F2 H2 σ ρ2 H0 v r := by
  cases r with
  | fz d => exact dp_mono t.fext f
  | tm κ d =>
    obtain ⟨a, rfl, h, hn, ho, h0⟩ := f
    obtain ⟨o, e⟩ := h.some
    refine ⟨a, rfl, h.mono t.fext fun o q => t.keep _ _ q ho, ?_, fun z => ?_, h0⟩
    · cases q : F2 a with
      | none => rfl
      | some u =>
        rcases t.fnew a u q with y | y | y
        · rw [hn] at y; cases y
        · rw [e] at y; cases y
        · exact absurd y ho
    · rcases t.own a z with y | y
      · exact ho y
      · rw [e] at y; cases y
  | rd d => exact RdN.later f t
  | bo i => exact f
end
end TL

-- part TL2
/-! TL2: transformers over slots, lifted; expressions, tests, small statements. -/
namespace TL
open PySem PySem.Spec L2
open Evl (Ex ex_l ex_t)

abbrev DTE := List Slot → (Res → List Slot → Prop) → Prop
abbrev DTT := List Slot → (Bool → List Slot → Prop) → Prop
abbrev DTA := List Slot → (List Res → List Slot → Prop) → Prop
structure DEnds where
  nx : List Slot → Prop
  rt : Res → List Slot → Prop
  bk : List Slot → Prop := fun _ => False
  ct : List Slot → Prop := fun _ => False
abbrev DTS := DEnds → List Slot → Prop
/-- the content of a result -/
@[simp] def wc (r : Res) (ρ : List Slot) (k : D → Prop) : Prop := match r with
  | .fz d => k d
  | .tm _ d => k d
  | .rd d => k d
  | .bo i => match ρ[i]? with
    | some (.ow _ _ d) => k d
    | some (.fz d) => k d
    | _ => False
section
variable (K : PySem.W.Frag)
def FitsAll (F H : Hp) (σ : L2.St) (ρ : List Slot) (H0 : Hp) : List V → List Res → Prop
  | [], [] => True
  | v :: vs, r :: rs => Fits K F H σ ρ H0 v r ∧ FitsAll F H σ ρ H0 vs rs
  | _, _ => False
def up (d : DTE) : TE := fun σ H Q => ∃ F ρ k, Sta K F H σ ρ ∧ d ρ k ∧ ∀ r ρ' v F' H', k r ρ' → Sta K F' H' σ ρ' → TrX F H σ ρ F' H' ρ' → Fits K F' H' σ ρ' H v r → Q v H'
def upT (d : DTT) : TT := fun σ H Q => ∃ F ρ k, Sta K F H σ ρ ∧ d ρ k ∧ ∀ b ρ' F' H', k b ρ' → Sta K F' H' σ ρ' → TrX F H σ ρ F' H' ρ' → Q b H'
def upA (d : DTA) : TA := fun σ H Q => ∃ F ρ k, Sta K F H σ ρ ∧ d ρ k ∧ ∀ rs ρ' vs F' H', k rs ρ' → Sta K F' H' σ ρ' → TrX F H σ ρ F' H' ρ' → FitsAll K F' H' σ ρ' H vs rs → Q vs H'
def upS (d : DTS) : TS := fun E σ H => ∃ F ρ G, Sta K F H σ ρ ∧ d G ρ ∧
  (∀ σ' ρ' F' H', G.nx ρ' → Sta K F' H' σ' ρ' → Tr F H σ ρ F' H' σ' ρ' → E.nx σ' H') ∧
  (∀ r σ' ρ' v F' H', G.rt r ρ' → Sta K F' H' σ' ρ' → Tr F H σ ρ F' H' σ' ρ' → Fits K F' H' σ' ρ' H v r → E.rt v H') ∧
  (∀ σ' ρ' F' H', G.bk ρ' → Sta K F' H' σ' ρ' → Tr F H σ ρ F' H' σ' ρ' → E.bk σ' H') ∧
  (∀ σ' ρ' F' H', G.ct ρ' → Sta K F' H' σ' ρ' → Tr F H σ ρ F' H' σ' ρ' → E.ct σ' H')
end
def DE (X : Cx) (e : Expr) (d : DTE) : Prop := PE X e (up X.K d)
def DT (X : Cx) (e : Expr) (d : DTT) : Prop := PT X e (upT X.K d)
def DW (X : Cx) (e : Expr) (d : DTT) : Prop := PW X e (upT X.K d)
def DA (X : Cx) (es : List Expr) (d : DTA) : Prop := PA X es (upA X.K d)
def DS (X : Cx) (st : Stmt) (d : DTS) : Prop := PS X st (upS X.K d)
def DSs (X : Cx) (st : List Stmt) (d : DTS) : Prop := PSs X st (upS X.K d)

section
variable {X : Cx} {a b c e : Expr} {pos : Pos}
theorem PE.le {t u : TE} (h : PE X e t) (w : ∀ σ H Q, u σ H Q → t σ H Q) : PE X e u := ⟨fun pins s σ H Q I q => h.run pins s σ H Q I (w _ _ _ q)⟩
theorem PT.le {t u : TT} (h : PT X e t) (w : ∀ σ H Q, u σ H Q → t σ H Q) : PT X e u := ⟨fun pins s σ H Q I q => h.run pins s σ H Q I (w _ _ _ q)⟩
theorem PW.le {t u : TT} (h : PW X e t) (w : ∀ σ H Q, u σ H Q → t σ H Q) : PW X e u := ⟨fun wh pins s σ H Q I q => h.run wh pins s σ H Q I (w _ _ _ q)⟩
theorem PA.le {es : List Expr} {t u : TA} (h : PA X es t) (w : ∀ σ H Q, u σ H Q → t σ H Q) : PA X es u := ⟨fun po pins s σ H Q I q => h.run po pins s σ H Q I (w _ _ _ q)⟩
theorem PS.le {st : Stmt} {t u : TS} (h : PS X st t) (w : ∀ E σ H, u E σ H → t E σ H) : PS X st u := ⟨fun pins s σ H E I q => h.run pins s σ H E I (w _ _ _ q)⟩
theorem PSs.le {st : List Stmt} {t u : TS} (h : PSs X st t) (w : ∀ E σ H, u E σ H → t E σ H) : PSs X st u := ⟨fun pins s σ H E I q => h.run pins s σ H E I (w _ _ _ q)⟩
end

section
variable {K : PySem.W.Frag} {F F' F1 F2 H H' H0 H1 H2 : Hp} {σ σ' σ1 σ2 : L2.St} {ρ ρ' ρ1 ρ2 : List Slot}
theorem wc_rd {v : V} {r : Res} {k : D → Prop} (S : Sta K F H σ ρ) (f : Fits K F H σ ρ H0 v r) (h : wc r ρ k) : ∃ d, RdAt K F H v d ∧ k d := by
  cases r with
  | fz d => exact ⟨d, .inl f, h⟩
  | tm κ d =>
    obtain ⟨a, rfl, q, _⟩ := f
    exact ⟨d, .inr ⟨κ, a, rfl, q⟩, h⟩
  | rd d => exact ⟨d, RdN.at f, h⟩
  | bo i =>
    have f : σ[i]? = some (some v) := f
    unfold wc at h
    simp only at h
    split at h
    · rename_i t κ d e
      obtain ⟨a, e1, q, _⟩ := S.ow i t κ d e
      rw [f] at e1
      cases e1
      exact ⟨d, .inr ⟨κ, a, rfl, q⟩, h⟩
    · rename_i d e
      obtain ⟨v', e1, q⟩ := S.fz i d e
      rw [f] at e1
      cases e1
      exact ⟨d, .inl q, h⟩
    · exact h.elim
theorem FitsAll.later {vs : List V} : ∀ {rs : List Res}, FitsAll K F1 H1 σ ρ1 H0 vs rs → Tr F1 H1 σ ρ1 F2 H2 σ ρ2 → FitsAll K F2 H2 σ ρ2 H0 vs rs := by
  induction vs with
  | nil => intro rs h t; cases rs with
    | nil => exact h
    | cons => exact h
  | cons v vs ih => intro rs h t; cases rs with
    | nil => exact h
    | cons r rs => exact ⟨h.1.later t, ih h.2 t⟩
/-- fits relative to an earlier heap -/
theorem Fits.back {v : V} {r : Res} (f : Fits K F2 H2 σ ρ2 H1 v r) (t : ∀ c, H1 c = none → H0 c = none) : Fits K F2 H2 σ ρ2 H0 v r := by
  cases r with
  | fz d => exact f
  | tm κ d => obtain ⟨a, e, h, n, o, z⟩ := f; exact ⟨a, e, h, n, o, t _ z⟩
  | rd d => exact f
  | bo i => exact f
theorem FitsAll.back {vs : List V} : ∀ {rs : List Res}, FitsAll K F2 H2 σ ρ2 H1 vs rs → (∀ c, H1 c = none → H0 c = none) → FitsAll K F2 H2 σ ρ2 H0 vs rs := by
  induction vs with
  | nil => intro rs h t; cases rs with
    | nil => exact h
    | cons => exact h
  | cons v vs ih => intro rs h t; cases rs with
    | nil => exact h
    | cons r rs => exact ⟨h.1.back t, ih h.2 t⟩
end

/-! ### operations on contents -/
section
variable (K : PySem.W.Frag)
/-- what an operation makes: nothing that stood is changed -/
structure New (F H F' H' : Hp) (v : V) (z : Res) : Prop where
  fext : Ex F F'
  hext : Ex H H'
  sub : Ex F' H'
  fnew : ∀ b o, F' b = some o → F b = some o ∨ H b = none
  fit : match z with
    | .fz d => Dp K F' v d
    | .tm κ d => ∃ a, v = .ref a ∧ OwAt K F' H' κ a d ∧ F' a = none ∧ H a = none
    | _ => False
def r2 (g : D → D → (Res → Prop) → Prop) : R2 := fun x y H Q => ∃ F dx dy k, Ex F H ∧ RdAt K F H x dx ∧ RdAt K F H y dy ∧ g dx dy k ∧ ∀ z v F' H', k z → New K F H F' H' v z → Q v H'
def r1 (g : D → (Res → Prop) → Prop) : V → Hp → VK → Prop := fun x H Q => ∃ F dx k, Ex F H ∧ RdAt K F H x dx ∧ g dx k ∧ ∀ z v F' H', k z → New K F H F' H' v z → Q v H'
inductive RdAll (F H : Hp) : List V → List D → Prop
  | nil : RdAll F H [] []
  | cons {v vs d ds} : RdAt K F H v d → RdAll F H vs ds → RdAll F H (v :: vs) (d :: ds)
def rn (g : List D → (Res → Prop) → Prop) : List V → Hp → VK → Prop := fun xs H Q => ∃ F ds k, Ex F H ∧ RdAll K F H xs ds ∧ g ds k ∧ ∀ z v F' H', k z → New K F H F' H' v z → Q v H'
def rm (g : D → List D → (Res → Prop) → Prop) : V → List V → Hp → VK → Prop := fun x xs H Q => ∃ F d ds k, Ex F H ∧ RdAt K F H x d ∧ RdAll K F H xs ds ∧ g d ds k ∧ ∀ z v F' H', k z → New K F H F' H' v z → Q v H'
end
section
variable {K : PySem.W.Frag} {F F' F1 F2 H H' H0 H1 H2 : Hp} {σ σ' σ1 σ2 : L2.St} {ρ ρ' ρ1 ρ2 : List Slot}
theorem New.tr {v : V} {z : Res} (n : New K F H F' H' v z) : TrX F H σ ρ F' H' ρ :=
  ⟨⟨n.fext, fun b o h _ => n.hext b o h, fun b o h => ⟨o, n.hext b o h⟩, fun _ h => .inl h, fun b o h => (n.fnew b o h).imp id .inl⟩, fun _ _ _ d h => ⟨d, h⟩, fun _ _ h => .inl h⟩
theorem Sta.grow {F' H' : Hp} (S : Sta K F H σ ρ) (fext : Ex F F') (hext : Ex H H') (sub : Ex F' H') (fnew : ∀ b o, F' b = some o → F b = some o ∨ H b = none) : Sta K F' H' σ ρ := by
  refine ⟨sub, S.len, fun i d e => ?_, fun i d e => ?_, fun i t κ d e => ?_, S.inj⟩
  · obtain ⟨v, q, r⟩ := S.fz i d e
    exact ⟨v, q, dp_mono fext r⟩
  · obtain ⟨v, q, r⟩ := S.rd i d e
    refine ⟨v, q, ?_⟩
    rcases r with r | ⟨κ, a, e', r, n⟩
    · exact .inl (dp_mono fext r)
    · exact .inr ⟨κ, a, e', r.mono fext fun o q => hext _ _ q, n⟩
  · obtain ⟨a, q, r, n, tt⟩ := S.ow i t κ d e
    refine ⟨a, q, r.mono fext fun o q => hext _ _ q, ?_, tt⟩
    obtain ⟨o, ho⟩ := r.some
    cases q' : F' a with
    | none => rfl
    | some u =>
      rcases fnew a u q' with y | y
      · rw [n] at y; cases y
      · rw [ho] at y; cases y
theorem New.sta {v : V} {z : Res} (n : New K F H F' H' v z) (S : Sta K F H σ ρ) : Sta K F' H' σ ρ := S.grow n.fext n.hext n.sub n.fnew
theorem New.fits {v : V} {z : Res} (n : New K F H F' H' v z) (S : Sta K F H σ ρ) (h0 : ∀ c, H c = none → H0 c = none) : Fits K F' H' σ ρ H0 v z := by
  have f := n.fit
  cases z with
  | fz d => exact f
  | tm κ d =>
    obtain ⟨a, e, q, r, s⟩ := f
    refine ⟨a, e, q, r, fun ⟨i, t, κ', d', h1, h2⟩ => ?_, h0 a s⟩
    obtain ⟨a', e1, q1, _⟩ := S.ow i t κ' d' h1
    rw [h2] at e1
    cases e1
    obtain ⟨o, ho⟩ := q1.some
    rw [s] at ho
    cases ho
  | rd d => exact f.elim
  | bo i => exact f.elim
/-- nothing new but a value -/
theorem New.val {v : V} {d : D} (s : Ex F H) (f : Dp K F v d) : New K F H F H v (.fz d) := ⟨Ex.refl F, Ex.refl H, s, fun _ _ h => .inl h, f⟩
/-- a new owned list -/
theorem New.list {p : Addr} {xs : List V} {ds : List D} (s : Ex F H) (hp : H p = none) (f : DpAll K F xs ds) : New K F H F (upd H p (.lst xs)) (.ref p) (.tm .l (.list ds)) := by
  have fp : F p = none := by
    cases e : F p with
    | none => rfl
    | some o => rw [s p o e] at hp; cases hp
  exact ⟨Ex.refl F, Ex.new hp, s.trans (Ex.new hp), fun _ _ h => .inl h, p, rfl, ⟨xs, ds, rfl, upd_same, f⟩, fp, hp⟩
/-- a new frozen tuple -/
theorem New.tuple {p : Addr} {xs : List V} {ds : List D} (s : Ex F H) (hp : H p = none) (f : DpAll K F xs ds) : New K F H (upd F p (.tup xs)) (upd H p (.tup xs)) (.ref p) (.fz (.tuple ds)) := by
  have fp : F p = none := by
    cases e : F p with
    | none => rfl
    | some o => rw [s p o e] at hp; cases hp
  refine ⟨Ex.new fp, Ex.new hp, fun b o h => ?_, fun b o h => ?_, .tup upd_same (dpAll_mono (Ex.new fp) f)⟩
  · by_cases e : b = p
    · subst e; rw [upd_same] at h ⊢; exact h
    · rw [upd_ne e] at h ⊢; exact s b o h
  · by_cases e : b = p
    · subst e; exact .inr hp
    · rw [upd_ne e] at h; exact .inl h
end

/-! ### expressions -/
@[simp] def dName (i : Nat) : DTE := fun ρ k => match ρ[i]? with
  | some (.fz d) => k (.fz d) ρ
  | some (.rd d) => k (.rd d) ρ
  | some (.ow _ _ _) => k (.bo i) ρ
  | _ => False
@[simp] def dC (d : D) : DTE := fun ρ k => k (.fz d) ρ
@[simp] def dBin (g : D → D → (Res → Prop) → Prop) (da db : DTE) : DTE := fun ρ k => da ρ fun x ρ1 => db ρ1 fun y ρ2 => wc x ρ2 fun dx => wc y ρ2 fun dy => g dx dy fun z => k z ρ2
@[simp] def dUn (g : D → (Res → Prop) → Prop) (da : DTE) : DTE := fun ρ k => da ρ fun x ρ1 => wc x ρ1 fun dx => g dx fun z => k z ρ1
@[simp] def dTest (d : DTE) : DTT := fun ρ k => d ρ fun r ρ1 => match r with
  | .fz (.bool b) => k b ρ1
  | _ => False
@[simp] def dAnd (t u : DTT) : DTT := fun ρ k => t ρ fun b ρ1 => if b = true then u ρ1 k else k false ρ1
@[simp] def dOr (t u : DTT) : DTT := fun ρ k => t ρ fun b ρ1 => if b = true then k true ρ1 else u ρ1 k
@[simp] def dNot (t : DTT) : DTT := fun ρ k => t ρ fun b ρ1 => k (!b) ρ1
/-- and, or, not as values that are bools -/
@[simp] def dAndV (da db : DTE) : DTE := fun ρ k => dTest da ρ fun b ρ1 => if b = true then db ρ1 k else k (.fz (.bool false)) ρ1
@[simp] def dOrV (da db : DTE) : DTE := fun ρ k => dTest da ρ fun b ρ1 => if b = true then k (.fz (.bool true)) ρ1 else db ρ1 k
@[simp] def dNotV (da : DTE) : DTE := fun ρ k => dTest da ρ fun b ρ1 => k (.fz (.bool !b)) ρ1
@[simp] def dIf (t : DTT) (da db : DTE) : DTE := fun ρ k => t ρ fun b ρ1 => if b = true then da ρ1 k else db ρ1 k
@[simp] def dChain (g g' : D → D → (Res → Prop) → Prop) (da db dc : DTE) : DTE := fun ρ k => da ρ fun x ρ1 => db ρ1 fun y ρ2 => wc x ρ2 fun dx => wc y ρ2 fun dy => g dx dy fun z => match z with
  | .fz (.bool b) => if b = true then dc ρ2 (fun w ρ3 => wc y ρ3 fun dy => wc w ρ3 fun dw => g' dy dw fun z => k z ρ3) else k (.fz (.bool false)) ρ2
  | _ => False
@[simp] def dNil : DTA := fun ρ k => k [] ρ
@[simp] def dCons (da : DTE) (dr : DTA) : DTA := fun ρ k => da ρ fun x ρ1 => dr ρ1 fun xs ρ2 => k (x :: xs) ρ2
@[simp] def isN (d : D) : Bool := match d with | .none => true | _ => false
@[simp] def gIsN (d : D) (k : Res → Prop) : Prop := k (.fz (.bool (isN d)))
@[simp] def gNotN (d : D) (k : Res → Prop) : Prop := k (.fz (.bool (!isN d)))

section
variable {X : Cx} {a b c e : Expr} {es : List Expr} {pos : Pos} {da db dc : DTE} {ta tb : DTT}
theorem de_name {x : Str} {i : Nat} (h : PE X (.Name x pos) (tVar i)) : DE X (.Name x pos) (dName i) := PE.le h fun σ H Q ⟨F, ρ, k, S, q, fin⟩ => by
  unfold dName at q
  split at q
  · rename_i d e
    obtain ⟨v, e1, r⟩ := S.fz i d e
    exact ⟨v, e1, fin _ _ v F H q S .refl r⟩
  · rename_i d e
    obtain ⟨v, e1, r⟩ := S.rd i d e
    exact ⟨v, e1, fin _ _ v F H q S .refl r⟩
  · rename_i t κ d e
    obtain ⟨a, e1, r⟩ := S.ow i t κ d e
    exact ⟨.ref a, e1, fin _ _ _ F H q S .refl e1⟩
  · exact q.elim
theorem de_c {v : V} {d : D} (h : PE X e (tC v)) (hv : ∀ K F, Dp K F v d) : DE X e (dC d) := PE.le h fun σ H Q ⟨F, ρ, k, S, q, fin⟩ =>
  fin _ _ v F H q S .refl (hv _ _)
theorem de_int {i : Int} {j : Nat} : DE X (.Constant (.int i) j pos) (dC (.int i)) := de_c pe_int fun _ _ => .int i
theorem de_bl {i : Bool} {j : Nat} : DE X (.Constant (.bool i) j pos) (dC (.bool i)) := de_c pe_bl fun _ _ => .bl i
theorem de_str {i : Str} {j : Nat} : DE X (.Constant (.str i) j pos) (dC (.str i)) := de_c pe_str fun _ _ => .str i
theorem de_non {j : Nat} : DE X (.Constant .none j pos) (dC .none) := de_c pe_non fun _ _ => .non
/-- two in a row -/
theorem up2 {K : PySem.W.Frag} {σ : L2.St} {H : Hp} {R : V → V → Hp → Prop} {F : Hp} {ρ : List Slot} {k : Res → Res → List Slot → Prop} (S : Sta K F H σ ρ) (h : da ρ fun x ρ1 => db ρ1 fun y ρ2 => k x y ρ2)
    (fin : ∀ x y ρ' v u F' H', k x y ρ' → Sta K F' H' σ ρ' → TrX F H σ ρ F' H' ρ' → Fits K F' H' σ ρ' H v x → Fits K F' H' σ ρ' H u y → R v u H') :
    up K da σ H fun x H1 => up K db σ H1 fun y H2 => R x y H2 :=
  ⟨F, ρ, _, S, h, fun x ρ1 v F1 H1 q1 S1 T1 f1 => ⟨F1, ρ1, _, S1, q1, fun y ρ2 u F2 H2 q2 S2 T2 f2 =>
    fin x y ρ2 v u F2 H2 q2 S2 (T1.trans T2) (f1.later T2) (f2.back fun _ z => T1.none z)⟩⟩
/-- an operation's answer -/
theorem op2_fin {K : PySem.W.Frag} {σ : L2.St} {H H0 F : Hp} {ρ : List Slot} {x y : Res} {v u : V} {g : D → D → (Res → Prop) → Prop} {k : Res → List Slot → Prop} {Q : VK} {F0 : Hp} {ρ0 : List Slot}
    (q : wc x ρ fun dx => wc y ρ fun dy => g dx dy fun z => k z ρ) (S : Sta K F H σ ρ) (T : TrX F0 H0 σ ρ0 F H ρ) (f1 : Fits K F H σ ρ H0 v x) (f2 : Fits K F H σ ρ H0 u y)
    (fin : ∀ r ρ' v F' H', k r ρ' → Sta K F' H' σ ρ' → TrX F0 H0 σ ρ0 F' H' ρ' → Fits K F' H' σ ρ' H0 v r → Q v H') : r2 K g v u H Q := by
  obtain ⟨dx, r1, q⟩ := wc_rd S f1 q
  obtain ⟨dy, r2, q⟩ := wc_rd S f2 q
  exact ⟨F, dx, dy, _, S.sub, r1, r2, q, fun z w F' H' kz n => fin z ρ w F' H' kz (n.sta S) (T.trans n.tr) (n.fits S fun _ z => T.none z)⟩
theorem de_op {op : Operator} {g : D → D → (Res → Prop) → Prop} (ho : OpR X (binaryOp op) (r2 X.K g)) (ha : DE X a da) (hb : DE X b db) : DE X (.BinOp a op b pos) (dBin g da db) :=
  PE.le (pe_op ho ha hb) fun σ H Q ⟨F, ρ, k, S, q, fin⟩ => up2 S q fun x y ρ' v u F' H' q S' T f1 f2 => op2_fin q S' T f1 f2 fin
theorem de_cmp {op : CmpOp} {g : D → D → (Res → Prop) → Prop} (ho : OpR X (compareOp op) (r2 X.K g)) (ha : DE X a da) (hb : DE X b db) (hm : behindInMarks op b = false := by first | exact nobehind _ (by decide) (by decide) | rfl) : DE X (.Compare a [op] [b] pos) (dBin g da db) :=
  PE.le (pe_cmpR ho ha hb hm) fun σ H Q ⟨F, ρ, k, S, q, fin⟩ => up2 S q fun x y ρ' v u F' H' q S' T f1 f2 => op2_fin q S' T f1 f2 fin
theorem de_un {op : UnaryOp} {g : D → (Res → Prop) → Prop} (ho : UnR X (unaryOp op) (r1 X.K g)) (ha : DE X a da) : DE X (.UnaryOp op a pos) (dUn g da) :=
  PE.le (pe_un ho ha) fun σ H Q ⟨F, ρ, k, S, q, fin⟩ => ⟨F, ρ, _, S, q, fun x ρ1 v F1 H1 q1 S1 T1 f1 => by
    obtain ⟨dx, r1, q1⟩ := wc_rd S1 f1 q1
    exact ⟨F1, dx, _, S1.sub, r1, q1, fun z w F' H' kz n => fin z ρ1 w F' H' kz (n.sta S1) (T1.trans n.tr) (n.fits S1 fun _ z => T1.none z)⟩⟩
/-- the test of a bool -/
theorem up_test {K : PySem.W.Frag} {d : DTE} {σ : L2.St} {H : Hp} {Q : Bool → Hp → Prop} (h : upT K (dTest d) σ H Q) : up K d σ H fun x H1 => ∃ c, x = .bl c ∧ Q c H1 := by
  obtain ⟨F, ρ, k, S, q, fin⟩ := h
  refine ⟨F, ρ, _, S, q, fun r ρ' v F' H' q S' T f => ?_⟩
  split at q
  · rename_i b
    have f : Dp K F' v (.bool b) := f
    cases f
    exact ⟨b, rfl, fin _ _ _ _ q S' T⟩
  · exact q.elim
theorem dt_cmp {op : CmpOp} {g : D → D → (Res → Prop) → Prop} (ho : OpR X (compareOp op) (r2 X.K g)) (ha : DE X a da) (hb : DE X b db) (hm : behindInMarks op b = false := by first | exact nobehind _ (by decide) (by decide) | rfl) : DT X (.Compare a [op] [b] pos) (dTest (dBin g da db)) :=
  PT.le (pt_cmpR ho ha hb hm) fun σ H Q h => by
    obtain ⟨F, ρ, k, S, q, fin⟩ := up_test h
    exact up2 S q fun x y ρ' v u F' H' q S' T f1 f2 => op2_fin q S' T f1 f2 fin
theorem dt_val (h : DE X e da) (he : ∀ whole, isTrue e X.env whole = (do let v ← whole; standAt e.pos; holding [v] (truthy v)) := by intro _; rfl) : DT X e (dTest da) :=
  PT.le (pt_val h he) fun σ H Q h => up_test h
theorem de_chain {op op' : CmpOp} {g g' : D → D → (Res → Prop) → Prop} (ho : OpR X (compareOp op) (r2 X.K g)) (ho' : OpR X (compareOp op') (r2 X.K g')) (ha : DE X a da) (hb : DE X b db) (hc : DE X c dc)
    (hm : lastMarks [op, op'] [b, c] = false := by with_unfolding_all rfl) : DE X (.Compare a [op, op'] [b, c] pos) (dChain g g' da db dc) :=
  PE.le (pe_chain ho ho' ha hb hc hm) fun σ H Q ⟨F, ρ, k, S, q, fin⟩ => by
    refine up2 S q fun x y ρ1 v u F1 H1 q S1 T1 f1 f2 => ?_
    obtain ⟨dx, r1, q⟩ := wc_rd S1 f1 q
    obtain ⟨dy, r2, q⟩ := wc_rd S1 f2 q
    refine ⟨F1, dx, dy, _, S1.sub, r1, r2, q, fun z w F2 H2 kz n => ?_⟩
    have S2 := n.sta S1
    have T2 := T1.trans n.tr
    have f3 := n.fit
    split at kz
    · rename_i bb
      have f3 : Dp X.K F2 w (.bool bb) := f3
      cases f3
      refine ⟨bb, rfl, ?_⟩
      cases bb with
      | true =>
        refine ⟨F2, ρ1, _, S2, kz, fun z ρ3 w3 F3 H3 q3 S3 T3 f4 => ?_⟩
        exact op2_fin q3 S3 (T2.trans T3) ((f2.later n.tr.toTr).later T3.toTr) (f4.back fun _ z => T2.none z) fin
      | false => exact fin _ _ _ _ _ kz S2 T2 (.bl false)
    · exact kz.elim
theorem dw_and1 (ha : DT X a ta) : DW X (.BoolOp .And [a] pos) ta := pw_and1 ha
theorem dw_or1 (ha : DT X a ta) : DW X (.BoolOp .Or [a] pos) ta := pw_or1 ha
theorem dw_and {rest : List Expr} (ha : DT X a ta) (hb : DW X (.BoolOp .And (b :: rest) pos) tb) : DW X (.BoolOp .And (a :: b :: rest) pos) (dAnd ta tb) :=
  PW.le (pw_and ha hb) fun σ H Q ⟨F, ρ, k, S, q, fin⟩ => ⟨F, ρ, _, S, q, fun c ρ1 F1 H1 q S1 T1 => by
    cases c with
    | true => exact ⟨F1, ρ1, k, S1, q, fun b ρ' F' H' q S' T' => fin b ρ' F' H' q S' (T1.trans T')⟩
    | false => exact fin _ _ _ _ q S1 T1⟩
theorem dw_or {rest : List Expr} (ha : DT X a ta) (hb : DW X (.BoolOp .Or (b :: rest) pos) tb) : DW X (.BoolOp .Or (a :: b :: rest) pos) (dOr ta tb) :=
  PW.le (pw_or ha hb) fun σ H Q ⟨F, ρ, k, S, q, fin⟩ => ⟨F, ρ, _, S, q, fun c ρ1 F1 H1 q S1 T1 => by
    cases c with
    | false => exact ⟨F1, ρ1, k, S1, q, fun b ρ' F' H' q S' T' => fin b ρ' F' H' q S' (T1.trans T')⟩
    | true => exact fin _ _ _ _ q S1 T1⟩
theorem dw_pt (h : DW X a ta) : DT X a ta := PW.pt h
theorem dt_not (ha : DT X a ta) : DT X (.UnaryOp .Not a pos) (dNot ta) :=
  PT.le (pt_not ha) fun σ H Q ⟨F, ρ, k, S, q, fin⟩ => ⟨F, ρ, _, S, q, fun c ρ1 F1 H1 q S1 T1 => fin _ _ _ _ q S1 T1⟩
theorem de_one {op} (h : DE X a da) : DE X (.BoolOp op [a] pos) da := pe_one h
theorem de_and {rest : List Expr} (ha : DE X a da) (hb : DE X (.BoolOp .And (b :: rest) pos) db) : DE X (.BoolOp .And (a :: b :: rest) pos) (dAndV da db) :=
  PE.le (pe_and ha hb) fun σ H Q ⟨F, ρ, k, S, q, fin⟩ => by
    refine up_test (K := X.K) (d := da) (Q := fun c H1 => if c = true then up X.K db σ H1 Q else Q (.bl false) H1) ⟨F, ρ, _, S, q, fun c ρ1 F1 H1 q S1 T1 => ?_⟩
    cases c with
    | true => exact ⟨F1, ρ1, k, S1, q, fun r ρ' v F' H' q S' T' f => fin r ρ' v F' H' q S' (T1.trans T') (f.back fun _ z => T1.none z)⟩
    | false => exact fin _ _ _ _ _ q S1 T1 (.bl false)
theorem de_or {rest : List Expr} (ha : DE X a da) (hb : DE X (.BoolOp .Or (b :: rest) pos) db) : DE X (.BoolOp .Or (a :: b :: rest) pos) (dOrV da db) :=
  PE.le (pe_or ha hb) fun σ H Q ⟨F, ρ, k, S, q, fin⟩ => by
    refine up_test (K := X.K) (d := da) (Q := fun c H1 => if c = true then Q (.bl true) H1 else up X.K db σ H1 Q) ⟨F, ρ, _, S, q, fun c ρ1 F1 H1 q S1 T1 => ?_⟩
    cases c with
    | false => exact ⟨F1, ρ1, k, S1, q, fun r ρ' v F' H' q S' T' f => fin r ρ' v F' H' q S' (T1.trans T') (f.back fun _ z => T1.none z)⟩
    | true => exact fin _ _ _ _ _ q S1 T1 (.bl true)
theorem de_not (ha : DE X a da) : DE X (.UnaryOp .Not a pos) (dNotV da) :=
  PE.le (pe_not ha) fun σ H Q ⟨F, ρ, k, S, q, fin⟩ =>
    up_test (K := X.K) (d := da) (Q := fun c H1 => Q (.bl (!c)) H1) ⟨F, ρ, _, S, q, fun c ρ1 F1 H1 q S1 T1 => fin _ _ _ _ _ q S1 T1 (.bl _)⟩
theorem de_ifExp (hc : DT X c ta) (ha : DE X a da) (hb : DE X b db) : DE X (.IfExp c a b pos) (dIf ta da db) :=
  PE.le (pe_ifExp hc ha hb) fun σ H Q ⟨F, ρ, k, S, q, fin⟩ => ⟨F, ρ, _, S, q, fun c ρ1 F1 H1 q S1 T1 => by
    cases c with
    | true => exact ⟨F1, ρ1, k, S1, q, fun r ρ' v F' H' q S' T' f => fin r ρ' v F' H' q S' (T1.trans T') (f.back fun _ z => T1.none z)⟩
    | false => exact ⟨F1, ρ1, k, S1, q, fun r ρ' v F' H' q S' T' f => fin r ρ' v F' H' q S' (T1.trans T') (f.back fun _ z => T1.none z)⟩⟩
theorem da_nil : DA X [] dNil := PA.le pa_nil fun σ H Q ⟨F, ρ, k, S, q, fin⟩ => fin [] ρ [] F H q S .refl trivial
theorem da_cons {dr : DTA} (ha : DE X e da) (hr : DA X es dr) (hs : starEach (e :: es) X.env = (false, eval e X.env) :: starEach es X.env := by rfl) : DA X (e :: es) (dCons da dr) :=
  PA.le (pa_cons ha hr hs) fun σ H Q ⟨F, ρ, k, S, q, fin⟩ => ⟨F, ρ, _, S, q, fun x ρ1 v F1 H1 q S1 T1 f1 => ⟨F1, ρ1, _, S1, q, fun xs ρ2 vs F2 H2 q S2 T2 f2 =>
    fin (x :: xs) ρ2 (v :: vs) F2 H2 q S2 (T1.trans T2) ⟨f1.later T2, f2.back fun _ z => T1.none z⟩⟩⟩
theorem RdAt.non_iff {K : PySem.W.Frag} {F H : Hp} {v : V} {d : D} (h : RdAt K F H v d) : decide (v = .non) = isN d := by
  rcases h with h | ⟨κ, a, rfl, h⟩
  · cases h <;> rfl
  · cases κ <;> (obtain ⟨_, _, rfl, _⟩ := h; rfl)
theorem de_isN {j pos'} (ha : DE X a da) : DE X (.Compare a [.Is] [.Constant .none j pos'] pos) (dUn gIsN da) :=
  PE.le (pe_cmp (pc_isN ha) rfl) fun σ H Q ⟨F, ρ, k, S, q, fin⟩ => ⟨F, ρ, _, S, q, fun x ρ1 v F1 H1 q1 S1 T1 f1 => by
    obtain ⟨dx, r1, q1⟩ := wc_rd S1 f1 q1
    rw [r1.non_iff]
    exact fin _ _ _ _ _ q1 S1 T1 (.bl _)⟩
theorem de_notN {j pos'} (ha : DE X a da) : DE X (.Compare a [.IsNot] [.Constant .none j pos'] pos) (dUn gNotN da) :=
  PE.le (pe_cmp (pc_notN ha) rfl) fun σ H Q ⟨F, ρ, k, S, q, fin⟩ => ⟨F, ρ, _, S, q, fun x ρ1 v F1 H1 q1 S1 T1 f1 => by
    obtain ⟨dx, r1, q1⟩ := wc_rd S1 f1 q1
    rw [r1.non_iff]
    exact fin _ _ _ _ _ q1 S1 T1 (.bl _)⟩
end
end TL

-- part TL3
/-! TL3: freezing, displays, statements, targets, for, while, comprehensions. -/
namespace TL
open PySem PySem.Spec L2
open Evl (Ex ex_l ex_t)

@[simp] def fzR (r : Res) (ρ : List Slot) (k : D → List Slot → Prop) : Prop := match r with
  | .fz d => k d ρ
  | .tm .l d => k d ρ
  | .bo i => match ρ[i]? with
    | some (.fz d) => k d ρ
    | some (.ow none .l d) => k d (ρ.set i (.fz d))
    | _ => False
  | _ => False
@[simp] def fzAll : List Res → List Slot → (List D → List Slot → Prop) → Prop
  | [], ρ, k => k [] ρ
  | r :: rs, ρ, k => fzR r ρ fun d ρ1 => fzAll rs ρ1 fun ds ρ2 => k (d :: ds) ρ2
section
variable {K : PySem.W.Frag} {F F' F0 F1 F2 H H' H0 H1 H2 : Hp} {σ σ' σ0 σ1 σ2 : L2.St} {ρ ρ' ρ0 ρ1 ρ2 : List Slot}
section
variable (K)
/-- a pending result, weakly (its object may have been frozen since) -/
def FitsW (F H : Hp) (σ : L2.St) (ρ : List Slot) (H0 : Hp) (v : V) : Res → Prop
  | .fz d => Dp K F v d
  | .tm κ d => ∃ a, v = .ref a ∧ OwAt K F H κ a d ∧ ¬ OA σ ρ a ∧ H0 a = none
  | .rd d => RdN K F H (OA σ ρ) v d
  | .bo i => σ[i]? = some (some v)
def FitsWAll (F H : Hp) (σ : L2.St) (ρ : List Slot) (H0 : Hp) : List V → List Res → Prop
  | [], [] => True
  | v :: vs, r :: rs => FitsW K F H σ ρ H0 v r ∧ FitsWAll F H σ ρ H0 vs rs
  | _, _ => False
end
theorem Fits.w {v : V} {r : Res} (f : Fits K F H σ ρ H0 v r) : FitsW K F H σ ρ H0 v r := by
  cases r with
  | fz d => exact f
  | tm κ d => obtain ⟨a, e, q, _, o, h⟩ := f; exact ⟨a, e, q, o, h⟩
  | rd d => exact f
  | bo i => exact f
theorem FitsAll.w {vs : List V} : ∀ {rs : List Res}, FitsAll K F H σ ρ H0 vs rs → FitsWAll K F H σ ρ H0 vs rs := by
  induction vs with
  | nil => intro rs h; cases rs with
    | nil => exact h
    | cons => exact h
  | cons v vs ih => intro rs h; cases rs with
    | nil => exact h
    | cons r rs => exact ⟨h.1.w, ih h.2⟩
/-- F has grown by what stood already; fewer slots own -/
theorem FitsW.frz {v : V} {r : Res} (f : FitsW K F H σ ρ H0 v r) (e : Ex F F') (o : ∀ b, OA σ ρ' b → OA σ ρ b) : FitsW K F' H σ ρ' H0 v r := by
  cases r with
  | fz d => exact dp_mono e f
  | tm κ d => obtain ⟨a, e1, q, o1, h⟩ := f; exact ⟨a, e1, q.mono e fun _ z => z, fun z => o1 (o _ z), h⟩
  | rd d =>
    rcases f with f | ⟨κ, a, e1, q, n⟩
    · exact .inl (dp_mono e f)
    · exact .inr ⟨κ, a, e1, q.mono e fun _ z => z, fun z => n (o _ z)⟩
  | bo i => exact f
theorem FitsWAll.frz {vs : List V} : ∀ {rs : List Res}, FitsWAll K F H σ ρ H0 vs rs → Ex F F' → (∀ b, OA σ ρ' b → OA σ ρ b) → FitsWAll K F' H σ ρ' H0 vs rs := by
  induction vs with
  | nil => intro rs h e o; cases rs with
    | nil => exact h
    | cons => exact h
  | cons v vs ih => intro rs h e o; cases rs with
    | nil => exact h
    | cons r rs => exact ⟨h.1.frz e o, ih h.2 e o⟩
theorem ex_upd_in {a : Addr} {o : HO} (h : H a = some o) (s : Ex F H) : Ex F (upd F a o) := fun b u e => by
  by_cases z : b = a
  · subst z
    rw [upd_same]
    have := s b u e
    rw [h] at this
    exact this
  · rw [upd_ne z]; exact e
theorem sub_upd_in {a : Addr} {o : HO} (h : H a = some o) (s : Ex F H) : Ex (upd F a o) H := fun b u e => by
  by_cases z : b = a
  · subst z
    rw [upd_same] at e
    cases e
    exact h
  · rw [upd_ne z] at e; exact s b u e
/-- an object that no slot owns is frozen -/
theorem Sta.frzAt {a : Addr} {o : HO} (S : Sta K F H σ ρ) (h : H a = some o) (n : ¬ OA σ ρ a) : Sta K (upd F a o) H σ ρ := by
  have e := ex_upd_in h S.sub
  refine ⟨sub_upd_in h S.sub, S.len, fun i d q => ?_, fun i d q => ?_, fun i t κ d q => ?_, S.inj⟩
  · obtain ⟨v, h1, h2⟩ := S.fz i d q; exact ⟨v, h1, dp_mono e h2⟩
  · obtain ⟨v, h1, h2⟩ := S.rd i d q
    refine ⟨v, h1, ?_⟩
    rcases h2 with h2 | ⟨κ, b, e1, h2, n2⟩
    · exact .inl (dp_mono e h2)
    · exact .inr ⟨κ, b, e1, h2.mono e fun _ z => z, n2⟩
  · obtain ⟨b, h1, h2, h3, h4⟩ := S.ow i t κ d q
    refine ⟨b, h1, h2.mono e fun _ z => z, ?_, h4⟩
    rw [upd_ne (fun z => n ⟨i, t, κ, d, q, by rw [← z]; exact h1⟩)]
    exact h3
theorem oa_set {i : Nat} {s : Slot} {b : Addr} (hs : ∀ t κ d, s ≠ .ow t κ d) (h : OA σ (ρ.set i s) b) : OA σ ρ b := by
  obtain ⟨j, t, κ, d, h1, h2⟩ := h
  by_cases e : i = j
  · subst e
    rw [List.getElem?_set] at h1
    simp only [if_pos] at h1
    split at h1
    · cases h1
      exact (hs _ _ _ rfl).elim
    · cases h1
  · rw [List.getElem?_set_ne e] at h1
    exact ⟨j, t, κ, d, h1, h2⟩
theorem get_set_cases {i j : Nat} {s u : Slot} (h : (ρ.set i s)[j]? = some u) : (i = j ∧ u = s) ∨ (i ≠ j ∧ ρ[j]? = some u) := by
  by_cases e : i = j
  · subst e
    rw [List.getElem?_set] at h
    simp only [if_pos] at h
    split at h
    · cases h; exact .inl ⟨rfl, rfl⟩
    · cases h
  · rw [List.getElem?_set_ne e] at h
    exact .inr ⟨e, h⟩
/-- a slot's content is given up: the slot is then a frozen one, one to be read, or nothing -/
theorem Sta.drop {i : Nat} {s : Slot} (S : Sta K F H σ ρ) (hs : ∀ t κ d, s ≠ .ow t κ d) (h1 : ∀ d, s = .fz d → ∃ v, σ[i]? = some (some v) ∧ Dp K F v d)
    (h2 : ∀ d, s = .rd d → ∃ v, σ[i]? = some (some v) ∧ RdN K F H (OA σ (ρ.set i s)) v d) : Sta K F H σ (ρ.set i s) := by
  refine ⟨S.sub, by simpa using S.len, fun j d q => ?_, fun j d q => ?_, fun j t κ d q => ?_, fun j j' t t' κ κ' d d' a q q' => ?_⟩
  · rcases get_set_cases q with ⟨e, z⟩ | ⟨e, z⟩
    · subst e; exact h1 d z.symm
    · exact S.fz j d z
  · rcases get_set_cases q with ⟨e, z⟩ | ⟨e, z⟩
    · subst e; exact h2 d z.symm
    · obtain ⟨v, h1, h2⟩ := S.rd j d z
      refine ⟨v, h1, ?_⟩
      rcases h2 with h2 | ⟨κ, b, e1, h2, n2⟩
      · exact .inl h2
      · exact .inr ⟨κ, b, e1, h2, fun z => n2 (oa_set hs z)⟩
  · rcases get_set_cases q with ⟨e, z⟩ | ⟨e, z⟩
    · exact (hs _ _ _ z.symm).elim
    · exact S.ow j t κ d z
  · rcases get_set_cases q with ⟨e, z⟩ | ⟨e, z⟩
    · exact (hs _ _ _ z.symm).elim
    · rcases get_set_cases q' with ⟨e, z'⟩ | ⟨e, z'⟩
      · exact (hs _ _ _ z'.symm).elim
      · exact S.inj j j' t t' κ κ' d d' a z z'
theorem fzR_ok {v : V} {r : Res} {k : D → List Slot → Prop} (S : Sta K F H σ ρ) (f : FitsW K F H σ ρ H0 v r) (T : TrX F0 H0 σ ρ0 F H ρ) (h : fzR r ρ k) :
    ∃ d ρ' F', k d ρ' ∧ Sta K F' H σ ρ' ∧ TrX F0 H0 σ ρ0 F' H ρ' ∧ Dp K F' v d ∧ Ex F F' ∧ ∀ b, OA σ ρ' b → OA σ ρ b := by
  cases r with
  | fz d => exact ⟨d, ρ, F, h, S, T, f, Ex.refl F, fun _ z => z⟩
  | tm κ d =>
    cases κ with
    | l =>
      obtain ⟨a, rfl, ⟨xs, ds, rfl, e1, q⟩, n, z⟩ := f
      have e := ex_upd_in e1 S.sub
      refine ⟨_, ρ, upd F a (.lst xs), h, S.frzAt e1 n, ⟨⟨T.fext.trans e, T.keep, T.there, T.own, fun b o hb => ?_⟩, T.slow, T.slrd⟩, .lst upd_same (dpAll_mono e q), e, fun _ z => z⟩
      by_cases y : b = a
      · subst y; exact .inr (.inl z)
      · rw [upd_ne y] at hb; exact T.fnew b o hb
    | k => exact h.elim
    | t => exact h.elim
  | rd d => exact h.elim
  | bo i =>
    have f : σ[i]? = some (some v) := f
    unfold fzR at h
    simp only at h
    split at h
    · rename_i d e
      obtain ⟨v', h1, h2⟩ := S.fz i d e
      rw [f] at h1; cases h1
      exact ⟨d, ρ, F, h, S, T, h2, Ex.refl F, fun _ z => z⟩
    · rename_i d e
      obtain ⟨a, h1, ⟨xs, ds, rfl, h2, h3⟩, h4, _⟩ := S.ow i none .l d e
      rw [f] at h1; cases h1
      have hs : ∀ t κ d, Slot.fz (.list ds) ≠ .ow t κ d := fun _ _ _ z => by cases z
      have no : ¬ OA σ (ρ.set i (.fz (.list ds))) a := fun ⟨j, t, κ, d, q1, q2⟩ => by
        rcases get_set_cases q1 with ⟨e', z⟩ | ⟨e', z⟩
        · cases z
        · exact e' (S.inj i j _ _ _ _ _ _ a e z f q2)
      have S1 : Sta K F H σ (ρ.set i .un) := S.drop (fun _ _ _ z => by cases z) (fun _ z => by cases z) (fun _ z => by cases z)
      have ee := ex_upd_in h2 S.sub
      have n1 : ¬ OA σ (ρ.set i .un) a := fun ⟨j, t, κ, d, q1, q2⟩ => by
        rcases get_set_cases q1 with ⟨e', z⟩ | ⟨e', z⟩
        · cases z
        · exact e' (S.inj i j _ _ _ _ _ _ a e z f q2)
      have S2 := S1.frzAt h2 n1
      have dp : Dp K (upd F a (.lst xs)) (.ref a) (.list ds) := .lst upd_same (dpAll_mono ee h3)
      have S3 : Sta K (upd F a (.lst xs)) H σ ((ρ.set i .un).set i (.fz (.list ds))) := S2.drop hs (fun d z => by cases z; exact ⟨_, f, dp⟩) (fun _ z => by cases z)
      rw [List.set_set] at S3
      refine ⟨_, _, upd F a (.lst xs), h, S3, ⟨⟨T.fext.trans ee, T.keep, T.there, fun b z => T.own b (oa_set hs z), fun b o hb => ?_⟩, fun j t κ d q => ?_, fun j d q => ?_⟩, dp, ee, fun b z => oa_set hs z⟩
      by_cases y : b = a
      · subst y
        exact (T.own b ⟨i, none, .l, _, e, f⟩).elim (fun z => .inr (.inr z)) (fun z => .inr (.inl z))
      · rw [upd_ne y] at hb; exact T.fnew b o hb
      · rcases get_set_cases q with ⟨_, z⟩ | ⟨_, z⟩
        · cases z
        · exact T.slow j t κ d z
      · rcases get_set_cases q with ⟨_, z⟩ | ⟨_, z⟩
        · cases z
        · exact T.slrd j d z
    · exact h.elim
theorem fzAll_ok {vs : List V} : ∀ {rs : List Res} {ρ : List Slot} {F : Hp} {k : List D → List Slot → Prop}, Sta K F H σ ρ → FitsWAll K F H σ ρ H0 vs rs → TrX F0 H0 σ ρ0 F H ρ → fzAll rs ρ k →
    ∃ ds ρ' F', k ds ρ' ∧ Sta K F' H σ ρ' ∧ TrX F0 H0 σ ρ0 F' H ρ' ∧ DpAll K F' vs ds ∧ Ex F F' ∧ ∀ b, OA σ ρ' b → OA σ ρ b := by
  induction vs with
  | nil => intro rs ρ F k S f T h; cases rs with
    | nil => exact ⟨[], ρ, F, h, S, T, .nil, Ex.refl F, fun _ z => z⟩
    | cons => exact f.elim
  | cons v vs ih => intro rs ρ F k S f T h; cases rs with
    | nil => exact f.elim
    | cons r rs =>
      obtain ⟨f1, f2⟩ := f
      obtain ⟨d, ρ1, F1, h, S1, T1, dp, e1, o1⟩ := fzR_ok S f1 T h
      obtain ⟨ds, ρ2, F2, h, S2, T2, dps, e2, o2⟩ := ih S1 (f2.frz e1 o1) T1 h
      exact ⟨d :: ds, ρ2, F2, h, S2, T2, .cons (dp_mono e2 dp) dps, e1.trans e2, fun b z => o1 b (o2 b z)⟩
theorem FitsW.len {vs : List V} : ∀ {rs : List Res}, FitsWAll K F H σ ρ H0 vs rs → vs.length = rs.length := by
  induction vs with
  | nil => intro rs h; cases rs with
    | nil => rfl
    | cons => exact h.elim
  | cons v vs ih => intro rs h; cases rs with
    | nil => exact h.elim
    | cons r rs => simp [ih h.2]
end

/-! ### displays -/
@[simp] def dTup (da : DTA) : DTE := fun ρ k => da ρ fun rs ρ1 => rs.length ≤ sizeLine ∧ fzAll rs ρ1 fun ds ρ2 => k (.fz (.tuple ds)) ρ2
@[simp] def dLst (da : DTA) : DTE := fun ρ k => da ρ fun rs ρ1 => rs.length ≤ sizeLine ∧ fzAll rs ρ1 fun ds ρ2 => k (.tm .l (.list ds)) ρ2
section
variable {X : Cx} {es : List Expr} {pos : Pos} {da : DTA}
theorem de_tup {x1} (h : DA X es da) : DE X (.Tuple es x1 pos) (dTup da) := PE.le (pe_tup h) fun σ H Q ⟨F, ρ, k, S, q, fin⟩ => ⟨F, ρ, _, S, q, fun rs ρ1 vs F1 H1 q S1 T1 f => by
  obtain ⟨z, q⟩ := q
  refine ⟨by rw [FitsW.len f.w]; exact z, fun p hp => ?_⟩
  obtain ⟨ds, ρ2, F2, q, S2, T2, dp, _⟩ := fzAll_ok S1 f.w T1 q
  have n := New.tuple (K := X.K) S2.sub hp dp
  exact fin _ _ _ _ _ q (n.sta S2) (T2.trans n.tr) (n.fits S2 fun _ z => T2.none z)⟩
theorem de_lst (h : DA X es da) : DE X (.List es pos) (dLst da) := PE.le (pe_lst h) fun σ H Q ⟨F, ρ, k, S, q, fin⟩ => ⟨F, ρ, _, S, q, fun rs ρ1 vs F1 H1 q S1 T1 f => by
  obtain ⟨z, q⟩ := q
  refine ⟨by rw [FitsW.len f.w]; exact z, fun p hp => ?_⟩
  obtain ⟨ds, ρ2, F2, q, S2, T2, dp, _⟩ := fzAll_ok S1 f.w T1 q
  have n := New.list (K := X.K) S2.sub hp dp
  exact fin _ _ _ _ _ q (n.sta S2) (T2.trans n.tr) (n.fits S2 fun _ z => T2.none z)⟩
end

/-! ### storing in a slot -/
@[simp] def toSlot (r : Res) (ρ : List Slot) (k : Slot → List Slot → Prop) : Prop := match r with
  | .fz d => k (.fz d) ρ
  | .tm κ d => k (.ow none κ d) ρ
  | .rd d => k (.rd d) ρ
  | .bo i => match ρ[i]? with
    | some (.fz d) => k (.fz d) ρ
    | some (.ow none .l d) => k (.fz d) (ρ.set i (.fz d))
    | _ => False
section
variable {K : PySem.W.Frag} {F F' F0 F1 F2 H H' H0 H1 H2 : Hp} {σ σ' σ0 σ1 σ2 : L2.St} {ρ ρ' ρ0 ρ1 ρ2 : List Slot}
theorem get_sets {α : Type} {l : List α} {i j : Nat} {s u : α} (h : (l.set i s)[j]? = some u) : (i = j ∧ u = s) ∨ (i ≠ j ∧ l[j]? = some u) := by
  by_cases e : i = j
  · subst e
    rw [List.getElem?_set] at h
    simp only [if_pos] at h
    split at h
    · cases h; exact .inl ⟨rfl, rfl⟩
    · cases h
  · rw [List.getElem?_set_ne e] at h
    exact .inr ⟨e, h⟩
theorem get_set_at {α : Type} {l : List α} {i : Nat} {s : α} (h : i < l.length) : (l.set i s)[i]? = some s := by
  rw [List.getElem?_set]; simp [h]
/-- a slot is stored to: s fits v -/
theorem Sta.store {i : Nat} {v : V} {s : Slot} (S : Sta K F H σ ρ) (f : match s with
    | .un => True
    | .fz d => Dp K F v d
    | .rd d => RdN K F H (OA σ ρ) v d
    | .ow t κ d => t = none ∧ ∃ a, v = .ref a ∧ OwAt K F H κ a d ∧ F a = none ∧ ¬ OA σ ρ a ∧ ∀ (j : Nat) (d' : D), ρ[j]? = some (Slot.rd d') → σ[j]? = some (some (V.ref a)) → Dp K F (V.ref a) d') : Sta K F H (σ.set i (some v)) (ρ.set i s) := by
  have hl : ∀ {u : Slot} {j : Nat}, (ρ.set i s)[j]? = some u → i = j → (σ.set i (some v))[i]? = some (some v) := fun {u j} h e => by
    subst e
    refine get_set_at ?_
    rw [S.len]
    have := (List.getElem?_eq_some_iff.mp h).1
    simpa using this
  have oa : ∀ b, OA (σ.set i (some v)) (ρ.set i s) b → OA σ ρ b ∨ ((∃ t κ d, s = .ow t κ d) ∧ v = .ref b) := fun b ⟨j, t, κ, d, h1, h2⟩ => by
    rcases get_sets h1 with ⟨e, z⟩ | ⟨e, z⟩
    · rw [← e, hl h1 e] at h2
      cases h2
      exact .inr ⟨⟨_, _, _, z.symm⟩, rfl⟩
    · rw [List.getElem?_set_ne e] at h2
      exact .inl ⟨j, t, κ, d, z, h2⟩
  have rdn : ∀ {w : V} {d : D}, RdN K F H (OA σ ρ) w d → (∀ a κ d', w = .ref a → OwAt K F H κ a d' → (∃ t κ d, s = .ow t κ d) → v = .ref a → False) → RdN K F H (OA (σ.set i (some v)) (ρ.set i s)) w d := fun {w d} h n => by
    rcases h with h | ⟨κ, a, e, h, m⟩
    · exact .inl h
    · refine .inr ⟨κ, a, e, h, fun z => ?_⟩
      rcases oa a z with y | ⟨y1, y2⟩
      · exact m y
      · exact n a κ d e h y1 y2
  refine ⟨S.sub, by simpa using S.len, fun j d q => ?_, fun j d q => ?_, fun j t κ d q => ?_, fun j j' t t' κ κ' d d' a q q' r r' => ?_⟩
  · rcases get_sets q with ⟨e, z⟩ | ⟨e, z⟩
    · subst z; rw [← e]; exact ⟨v, hl q e, f⟩
    · obtain ⟨w, h1, h2⟩ := S.fz j d z
      exact ⟨w, by rw [List.getElem?_set_ne e]; exact h1, h2⟩
  · rcases get_sets q with ⟨e, z⟩ | ⟨e, z⟩
    · subst z; rw [← e]; exact ⟨v, hl q e, rdn f fun a κ d' _ _ ⟨_, _, _, y⟩ _ => by cases y⟩
    · obtain ⟨w, h1, h2⟩ := S.rd j d z
      refine ⟨w, by rw [List.getElem?_set_ne e]; exact h1, ?_⟩
      cases s with
      | ow t κ d0 =>
        obtain ⟨_, a, e1, q1, q2, q3, q4⟩ := f
        subst e1
        by_cases ha : w = .ref a
        · subst ha; exact .inl (q4 j d z h1)
        · rcases h2 with h2 | ⟨κ', b, e', h2, m⟩
          · exact .inl h2
          · refine .inr ⟨κ', b, e', h2, fun y => ?_⟩
            rcases oa b y with y | ⟨_, y2⟩
            · exact m y
            · exact ha (by rw [e', ← y2])
      | _ => exact rdn h2 fun a κ d' _ _ ⟨_, _, _, y⟩ _ => by cases y
  · rcases get_sets q with ⟨e, z⟩ | ⟨e, z⟩
    · subst z
      obtain ⟨rfl, a, e1, q1, q2, q3, _⟩ := f
      subst e1
      rw [← e]
      exact ⟨a, hl q e, q1, q2, fun _ z => by cases z⟩
    · obtain ⟨a, h1, h2⟩ := S.ow j t κ d z
      exact ⟨a, by rw [List.getElem?_set_ne e]; exact h1, h2⟩
  · rcases get_sets q with ⟨e, z⟩ | ⟨e, z⟩
    · rcases get_sets q' with ⟨e', z'⟩ | ⟨e', z'⟩
      · rw [← e, ← e']
      · exfalso
        rw [← e, hl q e] at r
        cases r
        rw [List.getElem?_set_ne e'] at r'
        subst z
        obtain ⟨_, b, e1, q1, q2, q3, _⟩ := f
        cases e1
        exact q3 ⟨j', t', κ', d', z', r'⟩
    · rcases get_sets q' with ⟨e', z'⟩ | ⟨e', z'⟩
      · exfalso
        rw [← e', hl q' e'] at r'
        cases r'
        rw [List.getElem?_set_ne e] at r
        subst z'
        obtain ⟨_, b, e1, q1, q2, q3, _⟩ := f
        cases e1
        exact q3 ⟨j, t, κ, d, z, r⟩
      · rw [List.getElem?_set_ne e] at r
        rw [List.getElem?_set_ne e'] at r'
        exact S.inj j j' t t' κ κ' d d' a z z' r r'
end
end TL

-- part TL4
/-! TL4: statements. -/
namespace TL
open PySem PySem.Spec L2
open Evl (Ex ex_l ex_t)

section
variable {K : PySem.W.Frag} {F F' F0 F1 F2 H H' H0 H1 H2 : Hp} {σ σ' σ0 σ1 σ2 : L2.St} {ρ ρ' ρ0 ρ1 ρ2 : List Slot}
theorem oa_store {i : Nat} {v : V} {s : Slot} (S : Sta K F H σ ρ) : ∀ b, OA (σ.set i (some v)) (ρ.set i s) b → OA σ ρ b ∨ ((∃ t κ d, s = .ow t κ d) ∧ v = .ref b) := fun b ⟨j, t, κ, d, h1, h2⟩ => by
  rcases get_sets h1 with ⟨e, z⟩ | ⟨e, z⟩
  · subst e
    have hl : (σ.set i (some v))[i]? = some (some v) := by
      refine get_set_at ?_
      rw [S.len]
      have := (List.getElem?_eq_some_iff.mp h1).1
      simpa using this
    rw [hl] at h2
    cases h2
    exact .inr ⟨⟨_, _, _, z.symm⟩, rfl⟩
  · rw [List.getElem?_set_ne e] at h2
    exact .inl ⟨j, t, κ, d, z, h2⟩
theorem TrX.store {i : Nat} {v : V} {s : Slot} (T : TrX F0 H0 σ ρ0 F H ρ) (S : Sta K F H σ ρ) (h : ∀ b, (∃ t κ d, s = .ow t κ d) → v = .ref b → H0 b = Option.none) : Tr F0 H0 σ ρ0 F H (σ.set i (some v)) (ρ.set i s) :=
  ⟨T.fext, T.keep, T.there, fun b z => by
    rcases oa_store S b z with y | ⟨y, y'⟩
    · exact T.own b y
    · exact .inr (h b y y'), T.fnew⟩
/-- a result is stored in slot i -/
theorem toSlot_ok {i : Nat} {v : V} {r : Res} {k : Slot → List Slot → Prop} (S0 : Sta K F0 H0 σ ρ0) (S : Sta K F H σ ρ) (T : TrX F0 H0 σ ρ0 F H ρ) (f : Fits K F H σ ρ H0 v r) (h : toSlot r ρ k) :
    ∃ s ρ' F', k s ρ' ∧ Sta K F' H (σ.set i (some v)) (ρ'.set i s) ∧ Tr F0 H0 σ ρ0 F' H (σ.set i (some v)) (ρ'.set i s) := by
  cases r with
  | fz d => exact ⟨.fz d, ρ, F, h, S.store f, T.store S fun _ h _ => by obtain ⟨_, _, _, z⟩ := h; cases z⟩
  | tm κ d =>
    obtain ⟨a, rfl, q, n, o, z⟩ := f
    refine ⟨.ow none κ d, ρ, F, h, S.store (s := .ow none κ d) ⟨rfl, a, rfl, q, n, o, fun j d' hj hs => ?_⟩, T.store S fun b _ e => by cases e; exact z⟩
    rcases T.slrd j d' hj with y | ⟨t, κ', d0, y⟩
    · obtain ⟨w, h1, h2⟩ := S0.rd j d' y
      rw [hs] at h1
      cases h1
      rcases h2 with h2 | ⟨κ', b, e, h2, _⟩
      · exact dp_mono T.fext h2
      · cases e
        obtain ⟨o', ho⟩ := h2.some
        rw [z] at ho; cases ho
    · obtain ⟨b, h1, h2, _⟩ := S0.ow j t κ' d0 y
      rw [hs] at h1
      cases h1
      obtain ⟨o', ho⟩ := h2.some
      rw [z] at ho; cases ho
  | rd d => exact ⟨.rd d, ρ, F, h, S.store (s := .rd d) f, T.store S fun _ h _ => by obtain ⟨_, _, _, z⟩ := h; cases z⟩
  | bo j =>
    have hz : ∃ d ρ', toSlot (.bo j) ρ k = k (.fz d) ρ' ∧ fzR (.bo j) ρ (fun d' ρ'' => d' = d ∧ ρ'' = ρ') := by
      unfold toSlot at h ⊢
      simp only at h ⊢
      split at h
      · rename_i d e; exact ⟨d, ρ, rfl, by unfold fzR; simp [e]⟩
      · rename_i d e; exact ⟨d, ρ.set j (.fz d), rfl, by unfold fzR; simp [e]⟩
      · exact h.elim
    obtain ⟨d, ρ', e, hz⟩ := hz
    rw [e] at h
    obtain ⟨d', ρ'', F', ⟨rfl, rfl⟩, S', T', dp, _⟩ := fzR_ok S f.w T hz
    exact ⟨.fz d', ρ'', F', h, S'.store dp, T'.store S' fun _ h _ => by obtain ⟨_, _, _, z⟩ := h; cases z⟩
end

@[simp] def dNext : DTS := fun E ρ => E.nx ρ
@[simp] def dSeq (s u : DTS) : DTS := fun E ρ => s { E with nx := u E } ρ
@[simp] def dBrk : DTS := fun E ρ => E.bk ρ
@[simp] def dCnt : DTS := fun E ρ => E.ct ρ
@[simp] def dDrop (da : DTE) : DTS := fun E ρ => da ρ fun _ ρ1 => E.nx ρ1
@[simp] def dRet (da : DTE) : DTS := fun E ρ => da ρ E.rt
@[simp] def dRetN : DTS := fun E ρ => E.rt (.fz .none) ρ
@[simp] def dIfS (t : DTT) (s u : DTS) : DTS := fun E ρ => t ρ fun b ρ1 => if b = true then s E ρ1 else u E ρ1
@[simp] def dSet (i : Nat) (da : DTE) : DTS := fun E ρ => da ρ fun r ρ1 => toSlot r ρ1 fun s ρ2 => E.nx (ρ2.set i s)
@[simp] def dPar (i j : Nat) (da : DTA) : DTS := fun E ρ => da ρ fun rs ρ1 => match rs with
  | [r, r'] => fzR r ρ1 fun d ρ2 => fzR r' ρ2 fun d' ρ3 => E.nx ((ρ3.set i (.fz d)).set j (.fz d'))
  | _ => False
@[simp] def dAug (i : Nat) (g : D → D → (Res → Prop) → Prop) (da : DTE) : DTS := fun E ρ => (match ρ[i]? with | some (.fz _) => True | _ => False) ∧ dBin g (dName i) da ρ fun r ρ1 => toSlot r ρ1 fun s ρ2 => E.nx (ρ2.set i s)

section
variable {X : Cx} {st : Stmt} {rest : List Stmt} {s u : DTS} {e : Expr} {da : DTE} {ta : DTT} {pos : Pos}
theorem ds_nil : DSs X [] dNext := PSs.le pss_nil fun E σ H ⟨F, ρ, G, S, q, f1, f2, f3, f4⟩ => f1 σ ρ F H q S .refl
theorem ds_cons (h1 : DS X st s) (h2 : DSs X rest u) : DSs X (st :: rest) (dSeq s u) := PSs.le (pss_cons h1 h2) fun E σ H ⟨F, ρ, G, S, q, f1, f2, f3, f4⟩ =>
  ⟨F, ρ, _, S, q, fun σ1 ρ1 F1 H1 q S1 T1 => ⟨F1, ρ1, G, S1, q, fun σ2 ρ2 F2 H2 q S2 T2 => f1 σ2 ρ2 F2 H2 q S2 (T1.trans T2), fun r σ2 ρ2 v F2 H2 q S2 T2 f => f2 r σ2 ρ2 v F2 H2 q S2 (T1.trans T2) (f.back fun _ z => T1.none z),
    fun σ2 ρ2 F2 H2 q S2 T2 => f3 σ2 ρ2 F2 H2 q S2 (T1.trans T2), fun σ2 ρ2 F2 H2 q S2 T2 => f4 σ2 ρ2 F2 H2 q S2 (T1.trans T2)⟩, f2, f3, f4⟩
theorem ds_one (h1 : DS X st s) : DSs X [st] s := PSs.le (pss_one h1) fun E σ H h => h
theorem ds_pass : DS X (.Pass pos) dNext := PS.le ps_pass fun E σ H ⟨F, ρ, G, S, q, f1, f2, f3, f4⟩ => f1 σ ρ F H q S .refl
theorem ds_doc {x j pos'} : DS X (.Expr (.Constant (.str x) j pos) pos') dNext := PS.le ps_doc fun E σ H ⟨F, ρ, G, S, q, f1, f2, f3, f4⟩ => f1 σ ρ F H q S .refl
theorem ds_break : DS X (.Break pos) dBrk := PS.le ps_break fun E σ H ⟨F, ρ, G, S, q, f1, f2, f3, f4⟩ => f3 σ ρ F H q S .refl
theorem ds_continue : DS X (.Continue pos) dCnt := PS.le ps_continue fun E σ H ⟨F, ρ, G, S, q, f1, f2, f3, f4⟩ => f4 σ ρ F H q S .refl
theorem ds_expr (he : DE X e da) (hs : swapsWith e none pos.line X.env = pure false := by rfl) : DS X (.Expr e pos) (dDrop da) := PS.le (ps_expr he hs) fun E σ H ⟨F, ρ, G, S, q, f1, f2, f3, f4⟩ =>
  ⟨F, ρ, _, S, q, fun r ρ1 v F1 H1 q S1 T1 _ => f1 σ ρ1 F1 H1 q S1 T1⟩
theorem ds_ret (he : DE X e da) : DS X (.Return (some e) pos) (dRet da) := PS.le (ps_ret he) fun E σ H ⟨F, ρ, G, S, q, f1, f2, f3, f4⟩ =>
  ⟨F, ρ, _, S, q, fun r ρ1 v F1 H1 q S1 T1 f => f2 r σ ρ1 v F1 H1 q S1 T1 f⟩
theorem ds_retN : DS X (.Return none pos) dRetN := PS.le ps_retN fun E σ H ⟨F, ρ, G, S, q, f1, f2, f3, f4⟩ => f2 _ σ ρ _ F H q S .refl .non
theorem ds_if {c : Expr} {a b : List Stmt} (hc : DT X c ta) (ha : DSs X a s) (hb : DSs X b u) : DS X (.If c a b pos) (dIfS ta s u) := PS.le (ps_if hc ha hb) fun E σ H ⟨F, ρ, G, S, q, f1, f2, f3, f4⟩ =>
  ⟨F, ρ, _, S, q, fun b ρ1 F1 H1 q S1 T1 => by
    have T1 := T1.toTr
    have fin : ∀ {w : DTS}, w G ρ1 → upS X.K w E σ H1 := fun q =>
      ⟨F1, ρ1, G, S1, q, fun σ2 ρ2 F2 H2 q S2 T2 => f1 σ2 ρ2 F2 H2 q S2 (T1.trans T2), fun r σ2 ρ2 v F2 H2 q S2 T2 f => f2 r σ2 ρ2 v F2 H2 q S2 (T1.trans T2) (f.back fun _ z => T1.none z),
        fun σ2 ρ2 F2 H2 q S2 T2 => f3 σ2 ρ2 F2 H2 q S2 (T1.trans T2), fun σ2 ρ2 F2 H2 q S2 T2 => f4 σ2 ρ2 F2 H2 q S2 (T1.trans T2)⟩
    cases b with
    | true => exact fin q
    | false => exact fin q⟩
theorem ds_set {i : Nat} {x : Str} {pos' : Pos} (hN : X.N.Nodup) (hi : X.N[i]? = some x) (hx : Loc X.env.scope x) (he : DE X e da) (hs : swapsWith e (some (.Name x pos')) pos.line X.env = pure false := by rfl) (hf : X.fn x = true ∨ X.env.scope.names.lookup x = some .local := by first | exact .inl rfl | exact .inr rfl | assumption) :
    DS X (.Assign [.Name x pos'] e pos) (dSet i da) := PS.le (ps_set hN hi hx he hs hf) fun E σ H ⟨F, ρ, G, S, q, f1, f2, f3, f4⟩ =>
  ⟨F, ρ, _, S, q, fun r ρ1 v F1 H1 q S1 T1 f => by
    obtain ⟨s, ρ2, F2, q, S2, T2⟩ := toSlot_ok (i := i) S S1 T1 f q
    exact f1 _ _ _ _ q S2 T2⟩
/-- two frozen values stored -/
theorem ds_par {i j : Nat} {x y : Str} {a b : Expr} {da : DTA} {px py pt : Pos} {kt k2 pt2} (hc : X.calm = true) (hN : X.N.Nodup) (hi : X.N[i]? = some x) (hj : X.N[j]? = some y) (hij : i ≠ j)
    (hx : X.env.scope.names.lookup x = some .local) (hy : X.env.scope.names.lookup y = some .local) (ha : DA X [a, b] da)
    (hw : swappedStores [.Tuple [.Name x px, .Name y py] kt pt] (.Tuple [a, b] k2 pt2) X.env = pure (some [x, y]))
    (hs : swapsWithSole [.Tuple [.Name x px, .Name y py] kt pt] (.Tuple [a, b] k2 pt2) pos.line X.env = pure false := by rfl) :
    DS X (.Assign [.Tuple [.Name x px, .Name y py] kt pt] (.Tuple [a, b] k2 pt2) pos) (dPar i j da) := PS.le (ps_par hc hN hi hj hij hx hy ha hw hs) fun E σ H ⟨F, ρ, G, S, q, f1, f2, f3, f4⟩ =>
  ⟨F, ρ, _, S, q, fun rs ρ1 vs F1 H1 q S1 T1 f => by
    split at q
    · rename_i r r'
      match vs, f with
      | [v, w], ⟨g1, g2, _⟩ =>
        refine ⟨v, w, rfl, ?_⟩
        obtain ⟨d, ρ2, F2, q, S2, T2, dp, e2, o2⟩ := fzR_ok S1 g1.w T1 q
        obtain ⟨d', ρ3, F3, q, S3, T3, dp', e3, o3⟩ := fzR_ok S2 (g2.w.frz e2 o2) T2 q
        have S4 := S3.store (i := i) (v := v) (s := .fz d) (dp_mono e3 dp)
        have S5 := S4.store (i := j) (v := w) (s := .fz d') dp'
        refine f1 _ _ _ _ q S5 ⟨T3.fext, T3.keep, T3.there, fun b z => ?_, T3.fnew⟩
        rcases oa_store S4 b z with y | ⟨⟨_, _, _, y⟩, _⟩
        · rcases oa_store S3 b y with y | ⟨⟨_, _, _, y⟩, _⟩
          · exact T3.own b y
          · cases y
        · cases y
    · exact q.elim⟩
theorem ds_aug {i : Nat} {x : Str} {op : Operator} {g : D → D → (Res → Prop) → Prop} {pos' : Pos} (hN : X.N.Nodup) (hi : X.N[i]? = some x) (hx : Loc X.env.scope x) (ho : OpR X (inplaceOp op) (r2 X.K g)) (he : DE X e da) (hf : X.fn x = true ∨ X.env.scope.names.lookup x = some .local := by first | exact .inl rfl | exact .inr rfl | assumption) :
    DS X (.AugAssign (.Name x pos') op e pos) (dAug i g da) := PS.le (ps_aug hN hi hx he (show PIp X op (r2 X.K g) from ho) hf) fun E σ H ⟨F, ρ, G, S, q, f1, f2, f3, f4⟩ => by
  obtain ⟨q0, q⟩ := q
  split at q0
  · rename_i d0 e0
    obtain ⟨v, h1, dp⟩ := S.fz i d0 e0
    refine ⟨v, h1, ?_⟩
    unfold dBin dName at q
    rw [e0] at q
    refine ⟨F, ρ, _, S, q, fun y ρ1 w F1 H1 q S1 T1 f => ?_⟩
    have fv : Fits X.K F1 H1 σ ρ1 H v (.fz d0) := dp_mono T1.fext dp
    exact op2_fin (k := fun r ρ1 => toSlot r ρ1 fun s ρ2 => G.nx (ρ2.set i s)) q S1 T1 fv f fun r ρ' w' F' H' q S' T' f' => by
      obtain ⟨s, ρ2, F2, q, S2, T2⟩ := toSlot_ok (i := i) S S' T' f' q
      exact f1 _ _ _ _ q S2 T2
  · exact q0.elim

/-! ### targets -/
abbrev DTG := D → List Slot → (List Slot → Prop) → Prop
section
variable (K : PySem.W.Frag)
/-- js: the slots that the target names -/
def upG (js : List Nat) (g : DTG) : TG := fun v σ H Q => ∃ F ρ d k, Sta K F H σ ρ ∧ Dp K F v d ∧ g d ρ k ∧ ∀ σ' ρ' F' H', k ρ' → Sta K F' H' σ' ρ' → Tr F H σ ρ F' H' σ' ρ' → σ'.length = σ.length → (∀ j, j ∉ js → σ'[j]? = σ[j]? ∧ ρ'[j]? = ρ[j]?) → Q σ' H'
def upGs (js : List Nat) (g : List D → List Slot → (List Slot → Prop) → Prop) : TGs := fun vs σ H Q => ∃ F ρ ds k, Sta K F H σ ρ ∧ DpAll K F vs ds ∧ g ds ρ k ∧ ∀ σ' ρ' F' H', k ρ' → Sta K F' H' σ' ρ' → Tr F H σ ρ F' H' σ' ρ' → σ'.length = σ.length → (∀ j, j ∉ js → σ'[j]? = σ[j]? ∧ ρ'[j]? = ρ[j]?) → Q σ' H'
end
theorem PG.le {tg : Expr} {t u : TG} (h : PG X tg t) (w : ∀ v σ H Q, u v σ H Q → t v σ H Q) : PG X tg u := ⟨fun pins s σ H v x Q I r q => h.run pins s σ H v x Q I r (w _ _ _ _ q)⟩
theorem PGs.le {tg : List Expr} {t u : TGs} (h : PGs X tg t) (w : ∀ v σ H Q, u v σ H Q → t v σ H Q) : PGs X tg u := ⟨fun pins s σ H v x Q I r q => h.run pins s σ H v x Q I r (w _ _ _ _ q)⟩
def DG (X : Cx) (tg : Expr) (js : List Nat) (g : DTG) : Prop := PG X tg (upG X.K js g)
def DGs (X : Cx) (tg : List Expr) (js : List Nat) (g : List D → List Slot → (List Slot → Prop) → Prop) : Prop := PGs X tg (upGs X.K js g)
@[simp] def gN (i : Nat) : DTG := fun d ρ k => k (ρ.set i (.fz d))
@[simp] def gsN : List D → List Slot → (List Slot → Prop) → Prop := fun ds ρ k => match ds with | [] => k ρ | _ => False
@[simp] def gsC (g : DTG) (gs : List D → List Slot → (List Slot → Prop) → Prop) : List D → List Slot → (List Slot → Prop) → Prop := fun ds ρ k => match ds with | d :: ds => g d ρ fun ρ1 => gs ds ρ1 k | [] => False
@[simp] def gT (n : Nat) (gs : List D → List Slot → (List Slot → Prop) → Prop) : DTG := fun d ρ k => match d with | .tuple ds => ds.length = n ∧ gs ds ρ k | _ => False
theorem dg_name {i : Nat} {x : Str} (hN : X.N.Nodup) (hi : X.N[i]? = some x) (hx : Loc X.env.scope x) (hf : X.fn x = true ∨ X.env.scope.names.lookup x = some .local := by first | exact .inl rfl | exact .inr rfl | assumption) : DG X (.Name x pos) [i] (gN i) :=
  PG.le (pg_name hN hi hx hf) fun v σ H Q ⟨F, ρ, d, k, S, dp, q, fin⟩ => by
    refine fin _ _ F H q (S.store dp) (TrX.refl.store S fun _ h _ => by obtain ⟨_, _, _, z⟩ := h; cases z) (by simp) fun j hj => ?_
    have hne : i ≠ j := fun z => hj (by simp [z])
    rw [List.getElem?_set_ne hne, List.getElem?_set_ne hne]
    exact ⟨rfl, rfl⟩
theorem dgs_nil : DGs X [] [] gsN := PGs.le pgs_nil fun vs σ H Q ⟨F, ρ, ds, k, S, dp, q, fin⟩ => by
  cases dp with
  | nil => exact ⟨rfl, fin σ ρ F H q S .refl rfl fun _ _ => ⟨rfl, rfl⟩⟩
  | cons _ _ => exact q.elim
theorem dgs_cons {e : Expr} {es : List Expr} {js js' : List Nat} {g : DTG} {gs} (h1 : DG X e js g) (h2 : DGs X es js' gs) (hs : (assignEach (e :: es) X.env).map (·.2) = assign e X.env :: (assignEach es X.env).map (·.2) := by rfl) : DGs X (e :: es) (js ++ js') (gsC g gs) :=
  PGs.le (pgs_cons h1 h2 hs) fun vs σ H Q ⟨F, ρ, ds, k, S, dp, q, fin⟩ => by
    cases dp with
    | nil => exact q.elim
    | cons p ps =>
      exact ⟨_, _, rfl, F, ρ, _, _, S, p, q, fun σ1 ρ1 F1 H1 q S1 T1 l1 n1 => ⟨F1, ρ1, _, k, S1, dpAll_mono T1.fext ps, q, fun σ2 ρ2 F2 H2 q S2 T2 l2 n2 =>
        fin σ2 ρ2 F2 H2 q S2 (T1.trans T2) (l2.trans l1) fun j hj => by
          rw [List.mem_append, not_or] at hj
          exact ⟨(n2 j hj.2).1.trans (n1 j hj.1).1, (n2 j hj.2).2.trans (n1 j hj.1).2⟩⟩⟩
theorem dg_tup {es : List Expr} {kk : Nat} {js : List Nat} {gs} {n : Nat} (hc : X.calm = true) (h : DGs X es js gs)
    (hn : (assignEach es X.env).length = n := by rfl) (hst : (assignEach es X.env).findIdx? (·.1) = none := by rfl) : DG X (.Tuple es kk pos) js (gT n gs) :=
  PG.le (pg_tup hc h hn hst) fun v σ H Q ⟨F, ρ, d, k, S, dp, q, fin⟩ => by
    unfold gT at q
    split at q
    · rename_i ds
      obtain ⟨q1, q⟩ := q
      cases dp with
      | tup h1 h2 =>
        refine ⟨_, _, rfl, Evl.st_of (S.sub _ _ h1), ?_, F, ρ, ds, k, S, h2, q, fin⟩
        rw [dpAll_len h2, q1]
    · exact q.elim
/-- targets = value: the value is frozen first -/
@[simp] def dAsg (g : DTG) (da : DTE) : DTS := fun E ρ => da ρ fun r ρ1 => fzR r ρ1 fun d ρ2 => g d ρ2 E.nx
theorem ds_asg {tg e : Expr} {js : List Nat} {g : DTG} (he : DE X e da) (hg : DG X tg js g) (hs : swapsWithSole [tg] e pos.line X.env = pure false := by rfl) (hw : swappedStores [tg] e X.env = pure none := by rfl)
    (h1 : (assignEach [tg] X.env).map (·.2) = [assign tg X.env] := by rfl) : DS X (.Assign [tg] e pos) (dAsg g da) :=
  PS.le (ps_asg he hg hs hw h1) fun E σ H ⟨F, ρ, G, S, q, f1, f2, f3, f4⟩ => ⟨F, ρ, _, S, q, fun r ρ1 v F1 H1 q S1 T1 f => by
    obtain ⟨d, ρ2, F2, q, S2, T2, dp, _⟩ := fzR_ok S1 f.w T1 q
    exact ⟨F2, ρ2, d, _, S2, dp, q, fun σ3 ρ3 F3 H3 q S3 T3 _ _ => f1 σ3 ρ3 F3 H3 q S3 (T2.toTr.trans T3)⟩⟩

/-! ### while -/
def dWhileN (t : DTT) (s : DTS) (E : DEnds) : Nat → List Slot → Prop
  | 0, _ => False
  | n + 1, ρ => t ρ fun b ρ1 => if b = true then s { nx := dWhileN t s E n, rt := E.rt, bk := E.nx, ct := dWhileN t s E n } ρ1 else E.nx ρ1
def dWhile (t : DTT) (s : DTS) : DTS := fun E ρ => ∃ n, dWhileN t s E n ρ
theorem ds_while {c : Expr} {body : List Stmt} (hp : PassesOwn (model X.prog X.w) X.A X.env X.xe) (hc : DT X c ta) (hb : DSs X body s) : DS X (.While c body [] pos) (dWhile ta s) :=
  PS.le (ps_while hp hc hb) fun E σ H ⟨F, ρ, G, S, q, f1, f2, f3, f4⟩ => by
    obtain ⟨n, q⟩ := q
    refine ⟨fun m σ' H' => ∃ F' ρ', Sta X.K F' H' σ' ρ' ∧ Tr F H σ ρ F' H' σ' ρ' ∧ dWhileN ta s G m ρ', ⟨n, F, ρ, S, .refl, q⟩, ?_⟩
    rintro m σ1 H1 ⟨F1, ρ1, S1, T1, q1⟩
    cases m with
    | zero => exact q1.elim
    | succ m =>
      refine ⟨F1, ρ1, _, S1, q1, fun b ρ2 F2 H2 q2 S2 T2 => ?_⟩
      have T2 := T1.trans T2.toTr
      cases b with
      | true =>
        refine ⟨fun σ' H' => ∃ F' ρ', Sta X.K F' H' σ' ρ' ∧ Tr F H σ ρ F' H' σ' ρ' ∧ dWhileN ta s G m ρ', fun σ' H' ⟨F', ρ', a, b, c⟩ => ⟨m, Nat.lt_succ_self m, F', ρ', a, b, c⟩, ?_⟩
        exact ⟨F2, ρ2, _, S2, q2, fun σ3 ρ3 F3 H3 q S3 T3 => ⟨F3, ρ3, S3, T2.trans T3, q⟩, fun r σ3 ρ3 v F3 H3 q S3 T3 f => f2 r σ3 ρ3 v F3 H3 q S3 (T2.trans T3) (f.back fun _ z => T2.none z),
          fun σ3 ρ3 F3 H3 q S3 T3 => f1 σ3 ρ3 F3 H3 q S3 (T2.trans T3), fun σ3 ρ3 F3 H3 q S3 T3 => ⟨F3, ρ3, S3, T2.trans T3, q⟩⟩
      | false => exact f1 σ1 ρ2 F2 H2 q2 S2 T2
end
end TL

-- part TL5
/-! TL5: what is walked; for; comprehensions. -/
namespace TL
open PySem PySem.Spec L2
open Evl (Ex ex_l ex_t)

@[simp] def cont (ρ : List Slot) (j : Nat) : Option D := match ρ[j]? with
  | some (.ow _ _ d) => some d
  | some (.fz d) => some d
  | some (.rd d) => some d
  | _ => none
/-- the slots that are walked stand as they stood -/
@[simp] def stl : List (Nat × D) → List Slot → Prop
  | [], _ => True
  | (j, d) :: r, ρ => cont ρ j = some d ∧ stl r ρ
theorem stl_all {src : List (Nat × D)} {ρ : List Slot} : stl src ρ → ∀ p ∈ src, cont ρ p.1 = some p.2 := by
  induction src with
  | nil => intro _ p hp; cases hp
  | cons a r ih =>
    intro h p hp
    obtain ⟨h1, h2⟩ := h
    rcases List.mem_cons.mp hp with e | e
    · rw [e]; exact h1
    · exact ih h2 p e
section
variable (K : PySem.W.Frag)
/-- an iterator J yields the items, from any state to which the state at its making may lead -/
def Wk (J : It) (items : List D) (src : List (Nat × D)) (F0 H0 : Hp) (σ0 : L2.St) (ρ0 : List Slot) : Prop :=
  ∀ F H σ ρ, Sta K F H σ ρ → Tr F0 H0 σ0 ρ0 F H σ ρ → (∀ p ∈ src, σ[p.1]? = σ0[p.1]? ∧ cont ρ p.1 = some p.2) →
    (∀ i, items.length ≤ i → J.stop i H) ∧ ∀ i d, items[i]? = some d → J.go i H ∧ ∀ x H', J.yld i H x H' → ∃ F', Ex F F' ∧ Ex H H' ∧ Ex F' H' ∧ (∀ b o, F' b = some o → F b = some o ∨ H b = none) ∧ Dp K F' x d
end
abbrev DTI := List Slot → (List D → List (Nat × D) → List Slot → Prop) → Prop
def upI (K : PySem.W.Frag) (w : DTI) : TI := fun σ H R => ∃ F ρ k, Sta K F H σ ρ ∧ w ρ k ∧ ∀ items src ρ' F' H' J, k items src ρ' → Sta K F' H' σ ρ' → TrX F H σ ρ F' H' ρ' → Wk K J items src F' H' σ ρ' → R J H'
theorem PI.le {X : Cx} {tg it : Expr} {t u : TI} (h : PI X tg it t) (w : ∀ σ H R, u σ H R → t σ H R) : PI X tg it u := ⟨fun pins s σ H R I q => h.run pins s σ H R I (w _ _ _ q)⟩
def DI (X : Cx) (tg it : Expr) (w : DTI) : Prop := PI X tg it (upI X.K w)
def dLoop (g : DTG) (s : DTS) (E : DEnds) : List D → List Slot → Prop
  | [], ρ => E.nx ρ
  | d :: ds, ρ => g d ρ fun ρ1 => s { nx := dLoop g s E ds, rt := E.rt, bk := E.nx, ct := dLoop g s E ds } ρ1
@[simp] def dFor (w : DTI) (g : DTG) (s : DTS) : DTS := fun E ρ => w ρ fun items src ρ1 => (match src with | [] => True | _ => False) ∧ dLoop g s E items ρ1
section
variable {X : Cx} {pos : Pos}
theorem ds_for {tg iter : Expr} {body : List Stmt} {w : DTI} {js : List Nat} {g : DTG} {s : DTS} (hp : PassesOwn (model X.prog X.w) X.A X.env X.xe) (hc : X.calm = true) (hi : DI X tg iter w) (hg : DG X tg js g) (hb : DSs X body s)
    (hs : ∀ x, foldedSetIterable iter X.env x = pure x := by intro _; rfl) : DS X (.For tg iter body [] pos) (dFor w g s) :=
  PS.le (ps_for hp hc hi hg hb hs) fun E σ H ⟨F, ρ, G, S, q, f1, f2, f3, f4⟩ => ⟨F, ρ, _, S, q, fun items src ρ1 F1 H1 J q S1 T1 wk => by
    obtain ⟨q0, q⟩ := q
    split at q0
    · refine ⟨fun i m σ' H' => m = items.length - i ∧ i ≤ items.length ∧ ∃ F' ρ', Sta X.K F' H' σ' ρ' ∧ Tr F1 H1 σ ρ1 F' H' σ' ρ' ∧ dLoop g s G (items.drop i) ρ', ⟨items.length, by simp, Nat.zero_le _, F1, ρ1, S1, .refl, q⟩, ?_⟩
      rintro i m σ2 H2 ⟨rfl, hi, F2, ρ2, S2, T2, q2⟩
      obtain ⟨w1, w2⟩ := wk F2 H2 σ2 ρ2 S2 T2 fun p hp => absurd hp (by simp)
      by_cases hl : i < items.length
      · rw [List.drop_eq_getElem_cons hl] at q2
        obtain ⟨go, yl⟩ := w2 i items[i] (List.getElem?_eq_getElem hl)
        refine .inr ⟨go, fun σ' H' => ∃ F' ρ', Sta X.K F' H' σ' ρ' ∧ Tr F1 H1 σ ρ1 F' H' σ' ρ' ∧ dLoop g s G (items.drop (i + 1)) ρ', fun σ' H' z => ⟨items.length - (i + 1), by omega, rfl, hl, z⟩, fun x H3 hy => ?_⟩
        obtain ⟨F3, e1, e2, e3, e4, dp⟩ := yl x H3 hy
        have S3 := S2.grow e1 e2 e3 e4
        have T3 : Tr F2 H2 σ2 ρ2 F3 H3 σ2 ρ2 := ⟨e1, fun b o h _ => e2 b o h, fun b o h => ⟨o, e2 b o h⟩, fun _ h => .inl h, fun b o h => (e4 b o h).imp id .inl⟩
        have T3 := T2.trans T3
        refine ⟨F3, ρ2, items[i], _, S3, dp, q2, fun σ4 ρ4 F4 H4 q4 S4 T4 _ _ => ?_⟩
        have T4 := T3.trans T4
        have T5 := T1.toTr.trans T4
        exact ⟨F4, ρ4, _, S4, q4, fun σ5 ρ5 F5 H5 q S5 T5 => ⟨F5, ρ5, S5, T4.trans T5, q⟩, fun r σ' ρ' v F' H' q S' T' f => f2 r σ' ρ' v F' H' q S' (T5.trans T') (f.back fun _ z => T5.none z),
          fun σ5 ρ5 F5 H5 q S5 T' => f1 σ5 ρ5 F5 H5 q S5 (T5.trans T'), fun σ5 ρ5 F5 H5 q S5 T5 => ⟨F5, ρ5, S5, T4.trans T5, q⟩⟩
      · have e : i = items.length := by omega
        subst e
        rw [List.drop_length] at q2
        exact .inl ⟨w1 _ (Nat.le_refl _), f1 σ2 ρ2 F2 H2 q2 S2 (T1.toTr.trans T2)⟩
    · exact q0.elim⟩
end

/-! ### comprehensions -/
@[simp] def wipeR (ρ : List Slot) : List Nat → List Slot
  | [] => ρ
  | j :: vs => (wipeR ρ vs).set j .un
@[simp] def keepS : Option Slot → Slot
  | some (.fz d) => .fz d
  | some (.rd d) => .rd d
  | _ => .un
@[simp] def restR (vs : List Nat) (ρ0 ρ1 : List Slot) : List Slot := match vs with
  | [] => ρ1
  | j :: vs => (restR vs ρ0 ρ1).set j (keepS ρ0[j]?)
def dCompL (g : DTG) (tt : DTT) (te : DTE) (src : List (Nat × D)) (vs : List Nat) (k : List D → List Slot → Prop) : List D → List D → List Slot → Prop
  | [], acc, ρ => stl src ρ ∧ k acc ρ
  | d :: ds, acc, ρ => stl src ρ ∧ g d ρ fun ρ1 => tt ρ1 fun b ρ2 => if b = true then te ρ2 fun r ρ3 => fzR r ρ3 fun v ρ4 => acc.length < sizeLine ∧ dCompL g tt te src vs k ds (acc ++ [v]) (wipeR ρ4 vs)
      else dCompL g tt te src vs k ds acc (wipeR ρ2 vs)
@[simp] def dComp (w : DTI) (g : DTG) (tt : DTT) (te : DTE) (vs : List Nat) : DTE := fun ρ k => w ρ fun items src ρ1 => (∀ p ∈ src, p.1 ∉ vs) ∧ dCompL g tt te src vs (fun acc ρ2 => k (.tm .l (.list acc)) (restR vs ρ1 ρ2)) items [] (wipeR ρ1 vs)
def DTsT (X : Cx) (ifs : List Expr) (d : DTT) : Prop := PTs X ifs (upT X.K d)
@[simp] def dYes : DTT := fun ρ k => k true ρ
section
variable {X : Cx}
theorem PTs.le {ifs : List Expr} {t u : TT} (h : PTs X ifs t) (w : ∀ σ H Q, u σ H Q → t σ H Q) : PTs X ifs u := ⟨fun pins s σ H Q I q => h.run pins s σ H Q I (w _ _ _ q)⟩
theorem dts_nil : DTsT X [] dYes := PTs.le pts_nil fun σ H Q ⟨F, ρ, k, S, q, fin⟩ => fin _ _ F H q S .refl
theorem dts_one {c : Expr} {t : DTT} (h : DT X c t) : DTsT X [c] t := pts_one h
end
section
variable {K : PySem.W.Frag} {F F' F0 F1 F2 H H' H0 H1 H2 : Hp} {σ σ' σ0 σ1 σ2 : L2.St} {ρ ρ' ρ0 ρ1 ρ2 : List Slot}
theorem wipeR_get {j : Nat} : ∀ {vs : List Nat}, j ∉ vs → (wipeR ρ vs)[j]? = ρ[j]?
  | [], _ => rfl
  | v :: vs, h => by
    have h1 : v ≠ j := fun z => h (by simp [z])
    show ((wipeR ρ vs).set v .un)[j]? = _
    rw [List.getElem?_set_ne h1]
    exact wipeR_get fun z => h (by simp [z])
theorem wipeR_un {j : Nat} {s : Slot} : ∀ {vs : List Nat}, j ∈ vs → (wipeR ρ vs)[j]? = some s → s = .un
  | v :: vs, h, e => by
    have e : ((wipeR ρ vs).set v .un)[j]? = some s := e
    rcases get_sets e with ⟨_, z⟩ | ⟨z1, z2⟩
    · exact z
    · rcases List.mem_cons.mp h with y | y
      · exact absurd y.symm z1
      · exact wipeR_un y z2
theorem wipeR_cases {j : Nat} {s : Slot} {vs : List Nat} (e : (wipeR ρ vs)[j]? = some s) : s = .un ∨ (j ∉ vs ∧ ρ[j]? = some s) := by
  by_cases h : j ∈ vs
  · exact .inl (wipeR_un h e)
  · exact .inr ⟨h, by rw [← wipeR_get h]; exact e⟩
theorem wipeR_len : ∀ {vs : List Nat}, (wipeR ρ vs).length = ρ.length
  | [] => rfl
  | v :: vs => by show ((wipeR ρ vs).set v .un).length = _; rw [List.length_set]; exact wipeR_len
theorem wipe_get {j : Nat} : ∀ {vs : List Nat}, j ∉ vs → (wipe σ vs)[j]? = σ[j]? := fun {vs} h => by
  exact wipe_out h
theorem oa_wipe {vs : List Nat} {b : Addr} (h : OA (wipe σ vs) (wipeR ρ vs) b) : OA σ ρ b := by
  obtain ⟨i, t, κ, d, h1, h2⟩ := h
  rcases wipeR_cases h1 with z | ⟨z, h1⟩
  · cases z
  · rw [wipe_get z] at h2
    exact ⟨i, t, κ, d, h1, h2⟩
theorem Sta.wipe {vs : List Nat} (S : Sta K F H σ ρ) : Sta K F H (wipe σ vs) (wipeR ρ vs) := by
  refine ⟨S.sub, by rw [wipe_length, wipeR_len]; exact S.len, fun i d e => ?_, fun i d e => ?_, fun i t κ d e => ?_, fun i j t t' κ κ' d d' a e e' h h' => ?_⟩
  · rcases wipeR_cases e with z | ⟨z, e⟩
    · cases z
    · rw [wipe_get z]; exact S.fz i d e
  · rcases wipeR_cases e with z | ⟨z, e⟩
    · cases z
    · rw [wipe_get z]
      obtain ⟨v, h1, h2⟩ := S.rd i d e
      refine ⟨v, h1, ?_⟩
      rcases h2 with h2 | ⟨κ, a, e1, h2, n⟩
      · exact .inl h2
      · exact .inr ⟨κ, a, e1, h2, fun y => n (oa_wipe y)⟩
  · rcases wipeR_cases e with z | ⟨z, e⟩
    · cases z
    · rw [wipe_get z]; exact S.ow i t κ d e
  · rcases wipeR_cases e with z | ⟨z, e⟩
    · cases z
    · rcases wipeR_cases e' with z' | ⟨z', e'⟩
      · cases z'
      · rw [wipe_get z] at h
        rw [wipe_get z'] at h'
        exact S.inj i j t t' κ κ' d d' a e e' h h'
theorem restR_out {j : Nat} : ∀ {vs : List Nat}, j ∉ vs → (restR vs ρ0 ρ1)[j]? = ρ1[j]?
  | [], _ => rfl
  | v :: vs, h => by
    have h1 : v ≠ j := fun z => h (by simp [z])
    show ((restR vs ρ0 ρ1).set v (keepS ρ0[v]?))[j]? = _
    rw [List.getElem?_set_ne h1]
    exact restR_out fun z => h (by simp [z])
theorem restR_in {j : Nat} {s : Slot} : ∀ {vs : List Nat}, j ∈ vs → (restR vs ρ0 ρ1)[j]? = some s → s = keepS ρ0[j]?
  | v :: vs, h, e => by
    have e : ((restR vs ρ0 ρ1).set v (keepS ρ0[v]?))[j]? = some s := e
    rcases get_sets e with ⟨y, z⟩ | ⟨z1, z2⟩
    · rw [← y]; exact z
    · rcases List.mem_cons.mp h with y | y
      · exact absurd y.symm z1
      · exact restR_in y z2
theorem restR_len : ∀ {vs : List Nat}, (restR vs ρ0 ρ1).length = ρ1.length
  | [] => rfl
  | v :: vs => by show ((restR vs ρ0 ρ1).set v _).length = _; rw [List.length_set]; exact restR_len
theorem keepS_fz {s : Option Slot} {d : D} (h : Slot.fz d = keepS s) : s = some (.fz d) := by
  unfold keepS at h; split at h <;> cases h; rfl
theorem keepS_rd {s : Option Slot} {d : D} (h : Slot.rd d = keepS s) : s = some (.rd d) := by
  unfold keepS at h; split at h <;> cases h; rfl
theorem keepS_ow {s : Option Slot} {t κ} {d : D} (h : Slot.ow t κ d = keepS s) : False := by
  unfold keepS at h; split at h <;> cases h
/-- behind a block: the names around it stand again -/
theorem Sta.rest {vs : List Nat} (S0 : Sta K F0 H0 σ ρ0) (S : Sta K F H (L2.wipe σ vs) (wipeR ρ vs)) (T : Tr F0 H0 (L2.wipe σ vs) (wipeR ρ0 vs) F H (L2.wipe σ vs) (wipeR ρ vs)) : Sta K F H σ (restR vs ρ0 (wipeR ρ vs)) := by
  have cs : ∀ {j : Nat} {s : Slot}, (restR vs ρ0 (wipeR ρ vs))[j]? = some s → (j ∈ vs ∧ s = keepS ρ0[j]?) ∨ (j ∉ vs ∧ (wipeR ρ vs)[j]? = some s) := fun {j s} e => by
    by_cases h : j ∈ vs
    · exact .inl ⟨h, restR_in h e⟩
    · exact .inr ⟨h, by rw [← restR_out h (ρ0 := ρ0)]; exact e⟩
  have oa : ∀ b, OA σ (restR vs ρ0 (wipeR ρ vs)) b → OA (L2.wipe σ vs) (wipeR ρ vs) b := fun b ⟨i, t, κ, d, h1, h2⟩ => by
    rcases cs h1 with ⟨_, z⟩ | ⟨z, h1⟩
    · exact (keepS_ow z).elim
    · exact ⟨i, t, κ, d, h1, by rw [wipe_get z]; exact h2⟩
  refine ⟨S.sub, ?_, fun i d e => ?_, fun i d e => ?_, fun i t κ d e => ?_, fun i j t t' κ κ' d d' a e e' h h' => ?_⟩
  · rw [restR_len, ← S.len, wipe_length]
  · rcases cs e with ⟨_, z⟩ | ⟨z, e⟩
    · obtain ⟨v, h1, h2⟩ := S0.fz i d (keepS_fz z)
      exact ⟨v, h1, dp_mono T.fext h2⟩
    · obtain ⟨v, h1, h2⟩ := S.fz i d e
      rw [wipe_get z] at h1
      exact ⟨v, h1, h2⟩
  · rcases cs e with ⟨_, z⟩ | ⟨z, e⟩
    · obtain ⟨v, h1, h2⟩ := S0.rd i d (keepS_rd z)
      refine ⟨v, h1, ?_⟩
      have h2' : RdN K F0 H0 (OA (L2.wipe σ vs) (wipeR ρ0 vs)) v d := by
        rcases h2 with h2 | ⟨κ, a, e1, h2, n⟩
        · exact .inl h2
        · exact .inr ⟨κ, a, e1, h2, fun y => n (oa_wipe y)⟩
      rcases RdN.later h2' T with h3 | ⟨κ, a, e1, h3, n⟩
      · exact .inl h3
      · exact .inr ⟨κ, a, e1, h3, fun y => n (oa a y)⟩
    · obtain ⟨v, h1, h2⟩ := S.rd i d e
      rw [wipe_get z] at h1
      refine ⟨v, h1, ?_⟩
      rcases h2 with h3 | ⟨κ, a, e1, h3, n⟩
      · exact .inl h3
      · exact .inr ⟨κ, a, e1, h3, fun y => n (oa a y)⟩
  · rcases cs e with ⟨_, z⟩ | ⟨z, e⟩
    · exact (keepS_ow z).elim
    · obtain ⟨a, h1, h2⟩ := S.ow i t κ d e
      rw [wipe_get z] at h1
      exact ⟨a, h1, h2⟩
  · rcases cs e with ⟨_, z⟩ | ⟨z, e⟩
    · exact (keepS_ow z).elim
    · rcases cs e' with ⟨_, z'⟩ | ⟨z', e'⟩
      · exact (keepS_ow z').elim
      · exact S.inj i j t t' κ κ' d d' a e e' (by rw [wipe_get z]; exact h) (by rw [wipe_get z']; exact h')
theorem Tr.rest {vs : List Nat} (S0 : Sta K F0 H0 σ ρ0) (T : Tr F0 H0 (L2.wipe σ vs) (wipeR ρ0 vs) F H (L2.wipe σ vs) (wipeR ρ vs)) (sl : ∀ (i : Nat) (t : Option Addr) (κ : Kd) (d : D), (wipeR ρ vs)[i]? = some (.ow t κ d) → ∃ d0, (wipeR ρ0 vs)[i]? = some (.ow t κ d0))
    (sr : ∀ (i : Nat) (d : D), (wipeR ρ vs)[i]? = some (.rd d) → (wipeR ρ0 vs)[i]? = some (.rd d) ∨ ∃ t κ d0, (wipeR ρ0 vs)[i]? = some (.ow t κ d0)) : TrX F0 H0 σ ρ0 F H (restR vs ρ0 (wipeR ρ vs)) := by
  have cs : ∀ {j : Nat} {s : Slot}, (restR vs ρ0 (wipeR ρ vs))[j]? = some s → (j ∈ vs ∧ s = keepS ρ0[j]?) ∨ (j ∉ vs ∧ (wipeR ρ vs)[j]? = some s) := fun {j s} e => by
    by_cases h : j ∈ vs
    · exact .inl ⟨h, restR_in h e⟩
    · exact .inr ⟨h, by rw [← restR_out h (ρ0 := ρ0)]; exact e⟩
  refine ⟨⟨T.fext, fun b o h n => T.keep b o h fun z => n (oa_wipe z), T.there, fun b h => ?_, fun b o h => ?_⟩, fun i t κ d e => ?_, fun i d e => ?_⟩
  · obtain ⟨i, t, κ, d, h1, h2⟩ := h
    rcases cs h1 with ⟨_, z⟩ | ⟨z, h1⟩
    · exact (keepS_ow z).elim
    · exact (T.own b ⟨i, t, κ, d, h1, by rw [wipe_get z]; exact h2⟩).imp oa_wipe id
  · rcases T.fnew b o h with y | y | y
    · exact .inl y
    · exact .inr (.inl y)
    · exact .inr (.inr (oa_wipe y))
  · rcases cs e with ⟨_, z⟩ | ⟨z, e⟩
    · exact (keepS_ow z).elim
    · obtain ⟨d0, h⟩ := sl i t κ d e
      rw [wipeR_get z] at h
      exact ⟨d0, h⟩
  · rcases cs e with ⟨_, z⟩ | ⟨z, e⟩
    · exact .inl (keepS_rd z)
    · have h := sr i d e
      rw [wipeR_get z] at h
      exact h
/-- an object that is neither frozen nor owned is changed -/
theorem Sta.updD {L : Addr} {o : HO} (S : Sta K F H σ ρ) (f : F L = none) (n : ¬ OA σ ρ L) (r : ∀ (i : Nat) (d : D), ρ[i]? = some (.rd d) → σ[i]? = some (some (.ref L)) → Dp K F (.ref L) d) : Sta K F (upd H L o) σ ρ := by
  refine ⟨fun b u h => ?_, S.len, S.fz, fun i d e => ?_, fun i t κ d e => ?_, S.inj⟩
  · rw [upd_ne (fun z => by rw [z, f] at h; cases h)]
    exact S.sub b u h
  · obtain ⟨v, h1, h2⟩ := S.rd i d e
    refine ⟨v, h1, ?_⟩
    by_cases hv : v = .ref L
    · subst hv; exact .inl (r i d e h1)
    · rcases h2 with h2 | ⟨κ, a, e1, h2, m⟩
      · exact .inl h2
      · refine .inr ⟨κ, a, e1, h2.mono (Ex.refl F) fun u q => ?_, m⟩
        rw [upd_ne (fun z => hv (by rw [e1, z]))]
        exact q
  · obtain ⟨a, h1, h2, h3, h4⟩ := S.ow i t κ d e
    refine ⟨a, h1, h2.mono (Ex.refl F) fun u q => ?_, h3, h4⟩
    rw [upd_ne (fun z => n ⟨i, t, κ, d, e, by rw [← z]; exact h1⟩)]
    exact q
theorem Tr.wiped {vs : List Nat} (T : Tr F0 H0 σ0 ρ0 F H σ ρ) : Tr F0 H0 σ0 ρ0 F H (L2.wipe σ vs) (wipeR ρ vs) := ⟨T.fext, T.keep, T.there, fun b h => T.own b (oa_wipe h), T.fnew⟩
/-- what a comprehension's block keeps: L the new list -/
structure Blk (K : PySem.W.Frag) (L : Addr) (vs : List Nat) (F1 H1 : Hp) (σ : L2.St) (ρ1 : List Slot) (F H : Hp) (ρ : List Slot) (acc : List D) : Prop where
  sta : Sta K F H (L2.wipe σ vs) (wipeR ρ vs)
  tr : Tr F1 H1 (L2.wipe σ vs) (wipeR ρ1 vs) F H (L2.wipe σ vs) (wipeR ρ vs)
  slow : ∀ (i : Nat) (t : Option Addr) (κ : Kd) (d : D), (wipeR ρ vs)[i]? = some (.ow t κ d) → ∃ d0, (wipeR ρ1 vs)[i]? = some (.ow t κ d0)
  slrd : ∀ (i : Nat) (d : D), (wipeR ρ vs)[i]? = some (.rd d) → (wipeR ρ1 vs)[i]? = some (.rd d) ∨ ∃ t κ d0, (wipeR ρ1 vs)[i]? = some (.ow t κ d0)
  lst : ∃ xs, H L = some (.lst xs) ∧ DpAll K F xs acc
theorem Tr.nof {L : Addr} {o : HO} (T : Tr F0 H0 σ0 ρ0 F H σ ρ) (h : H0 L = some o) (f : F0 L = Option.none) (n : ¬ OA σ0 ρ0 L) : F L = Option.none ∧ ¬ OA σ ρ L := by
  constructor
  · cases e : F L with
    | none => rfl
    | some u =>
      rcases T.fnew L u e with y | y | y
      · rw [f] at y; cases y
      · rw [h] at y; cases y
      · exact absurd y n
  · intro z
    rcases T.own L z with y | y
    · exact n y
    · rw [h] at y; cases y
end
section
variable {X : Cx} {pos : Pos}
theorem up_comp {w : DTI} {js : List Nat} {g : DTG} {tt : DTT} {te : DTE} {vs : List Nat} {K : PySem.W.Frag} (hj : ∀ j ∈ js, j ∈ vs) {σ : L2.St} {H : Hp} {Q : VK} (h : up K (dComp w g tt te vs) σ H Q) :
    tLc (upI K w) (upG K js g) (upT K tt) (up K te) vs σ H Q := by
  obtain ⟨F, ρ, k, S, q, fin⟩ := h
  refine ⟨F, ρ, _, S, q, fun items src ρ1 F1 H1 J q S1 T1 wk L hL => ?_⟩
  obtain ⟨q0, q⟩ := q
  have fL : F1 L = none := by
    cases e : F1 L with
    | none => rfl
    | some o => rw [S1.sub L o e] at hL; cases hL
  have oL : ¬ OA σ ρ1 L := fun ⟨i, t, κ, d, h1, h2⟩ => by
    obtain ⟨a, e1, h3, _⟩ := S1.ow i t κ d h1
    rw [h2] at e1
    cases e1
    obtain ⟨o, ho⟩ := h3.some
    rw [hL] at ho; cases ho
  have oLw : ¬ OA (L2.wipe σ vs) (wipeR ρ1 vs) L := fun z => oL (oa_wipe z)
  have Sw := S1.wipe (vs := vs)
  have rdw : ∀ (i : Nat) (d : D), (wipeR ρ1 vs)[i]? = some (.rd d) → (L2.wipe σ vs)[i]? = some (some (.ref L)) → Dp K F1 (.ref L) d := fun i d e1 e2 => by
    obtain ⟨v, h1, h2⟩ := Sw.rd i d e1
    rw [e2] at h1
    cases h1
    rcases h2 with h2 | ⟨κ, a, e3, h2, _⟩
    · exact h2
    · cases e3
      obtain ⟨o, ho⟩ := h2.some
      rw [hL] at ho; cases ho
  let W : Nat → Nat → Hp → Prop := fun i m H' => m = items.length - i ∧ i ≤ items.length ∧ ∃ F' ρ' acc, F' L = none ∧ ¬ OA (L2.wipe σ vs) (wipeR ρ' vs) L ∧ Blk K L vs F1 H1 σ ρ1 F' H' ρ' acc ∧
    dCompL g tt te src vs (fun acc ρ2 => k (.tm .l (.list acc)) (restR vs ρ1 ρ2)) (items.drop i) acc (wipeR ρ' vs)
  refine ⟨W, ⟨items.length, by simp, Nat.zero_le _, F1, ρ1, [], fL, oLw, ⟨Sw.updD fL oLw rdw, ⟨Ex.refl F1, fun b o h _ => Ex.new hL b o h, fun b o h => ⟨o, Ex.new hL b o h⟩, fun _ h => .inl h, fun _ _ h => .inl h⟩, fun _ _ _ d h => ⟨d, h⟩, fun _ _ h => .inl h, [], upd_same, .nil⟩, q⟩, ?_⟩
  rintro i m H2 ⟨rfl, hi, F2, ρ2, acc, f2, o2, B, q2⟩
  have src_ok : stl src (wipeR ρ2 vs) → ∀ p ∈ src, σ[p.1]? = σ[p.1]? ∧ cont (wipeR ρ2 vs) p.1 = some p.2 := fun z p hp => ⟨rfl, stl_all z p hp⟩
  -- the iterator's word, in the block's state
  have wk2 : stl src (wipeR ρ2 vs) → (∀ i, items.length ≤ i → J.stop i H2) ∧ ∀ i d, items[i]? = some d → J.go i H2 ∧ ∀ x H', J.yld i H2 x H' → ∃ F', Ex F2 F' ∧ Ex H2 H' ∧ Ex F' H' ∧ (∀ b o, F' b = some o → F2 b = some o ∨ H2 b = none) ∧ Dp K F' x d := fun z => by
    have TX := Tr.rest S1 B.tr B.slow B.slrd
    refine wk F2 H2 σ (restR vs ρ1 (wipeR ρ2 vs)) (Sta.rest S1 B.sta B.tr) TX.toTr fun p hp => ⟨rfl, ?_⟩
    have := stl_all z p hp
    unfold cont at this ⊢
    rw [restR_out (q0 p hp)]
    exact this
  by_cases hl : i < items.length
  · rw [List.drop_eq_getElem_cons hl] at q2
    obtain ⟨qs, q2⟩ := q2
    obtain ⟨go, yl⟩ := (wk2 qs).2 i items[i] (List.getElem?_eq_getElem hl)
    refine .inr ⟨go, fun H' => W (i + 1) (items.length - (i + 1)) H', fun H' z => ⟨items.length - (i + 1), by omega, z⟩, fun x H3 hy => ?_⟩
    obtain ⟨F3, e1, e2, e3, e4, dp⟩ := yl x H3 hy
    have S3 := B.sta.grow e1 e2 e3 e4
    have T3 : Tr F2 H2 (L2.wipe σ vs) (wipeR ρ2 vs) F3 H3 (L2.wipe σ vs) (wipeR ρ2 vs) := ⟨e1, fun b o h _ => e2 b o h, fun b o h => ⟨o, e2 b o h⟩, fun _ h => .inl h, fun b o h => (e4 b o h).imp id .inl⟩
    refine ⟨F3, wipeR ρ2 vs, items[i], _, S3, dp, q2, fun σ4 ρ4 F4 H4 q4 S4 T4 l4 n4 => ?_⟩
    have wσ : L2.wipe σ4 vs = L2.wipe σ vs := by
      refine List.ext_getElem? fun j => ?_
      by_cases hj' : j ∈ vs
      · have wn : ∀ {τ : L2.St} {us : List Nat}, j ∈ us → j < τ.length → (L2.wipe τ us)[j]? = some none := fun {τ us} => by
          induction us with
          | nil => intro h; cases h
          | cons u us ih =>
            intro h hl
            by_cases e : u = j
            · subst e
              show ((L2.wipe τ us).set u none)[u]? = _
              rw [List.getElem?_set]
              simp [wipe_length, hl]
            · show ((L2.wipe τ us).set u none)[j]? = _
              rw [List.getElem?_set_ne e]
              exact ih ((List.mem_cons.mp h).resolve_left (fun z => e z.symm)) hl
        have le : σ4.length = σ.length := by rw [l4, wipe_length]
        by_cases hlt : j < σ.length
        · rw [wn hj' (by omega), wn hj' hlt]
        · rw [List.getElem?_eq_none (by rw [wipe_length]; omega), List.getElem?_eq_none (by rw [wipe_length]; omega)]
      · rw [wipe_get hj', (n4 j fun z => hj' (hj j z)).1]
    refine ⟨wσ, F4, ρ4, _, S4, q4, fun b ρ5 F5 H5 q5 S5 T5 => ?_⟩
    have ρslow : ∀ {ρ6 : List Slot}, (∀ (i : Nat) (t : Option Addr) (κ : Kd) (d : D), ρ6[i]? = some (.ow t κ d) → ∃ d0, ρ4[i]? = some (.ow t κ d0)) → ∀ (i : Nat) (t : Option Addr) (κ : Kd) (d : D), (wipeR ρ6 vs)[i]? = some (.ow t κ d) → ∃ d0, (wipeR ρ1 vs)[i]? = some (.ow t κ d0) := fun {ρ6} h i t κ d e => by
      rcases wipeR_cases e with z | ⟨z, e⟩
      · cases z
      · obtain ⟨d1, h1⟩ := h i t κ d e
        rw [(n4 i fun y => z (hj i y)).2] at h1
        exact B.slow i t κ d1 h1
    have ρslrd : ∀ {ρ6 : List Slot}, (∀ (i : Nat) (d : D), ρ6[i]? = some (.rd d) → ρ4[i]? = some (.rd d) ∨ ∃ t κ d0, ρ4[i]? = some (.ow t κ d0)) → ∀ (i : Nat) (d : D), (wipeR ρ6 vs)[i]? = some (.rd d) → (wipeR ρ1 vs)[i]? = some (.rd d) ∨ ∃ t κ d0, (wipeR ρ1 vs)[i]? = some (.ow t κ d0) := fun {ρ6} h i d e => by
      rcases wipeR_cases e with z | ⟨z, e⟩
      · cases z
      · rcases h i d e with h1 | ⟨t, κ, d1, h1⟩
        · rw [(n4 i fun y => z (hj i y)).2] at h1
          exact B.slrd i d h1
        · rw [(n4 i fun y => z (hj i y)).2] at h1
          obtain ⟨d2, h2⟩ := B.slow i t κ d1 h1
          exact .inr ⟨t, κ, d2, h2⟩
    obtain ⟨xs, hx, hd⟩ := B.lst
    cases b with
    | false =>
      have T6 : Tr F2 H2 (L2.wipe σ vs) (wipeR ρ2 vs) F5 H5 σ4 ρ5 := T3.trans (T4.trans T5.toTr)
      have T6w := T6.wiped (vs := vs)
      rw [wσ] at T6w
      obtain ⟨f6, o6⟩ := T6w.nof hx f2 o2
      have S6 := S5.wipe (vs := vs)
      rw [wσ] at S6
      exact ⟨rfl, hl, F5, ρ5, acc, f6, o6, ⟨S6, B.tr.trans T6w, ρslow T5.slow, ρslrd T5.slrd, xs, T6.keep _ _ hx o2, dpAll_mono T6.fext hd⟩, q5⟩
    | true =>
      refine ⟨F5, ρ5, _, S5, q5, fun r ρ6 v F6 H6 q6 S6 T6 f => ?_⟩
      obtain ⟨dv, ρ7, F7, q7, S7, T7, dpv, _⟩ := fzR_ok S6 f.w T6 q6
      obtain ⟨hz, q7⟩ := q7
      have T7' := T5.trans T7
      have T8 : Tr F2 H2 (L2.wipe σ vs) (wipeR ρ2 vs) F7 H6 σ4 ρ7 := T3.trans (T4.trans T7'.toTr)
      have T8w := T8.wiped (vs := vs)
      rw [wσ] at T8w
      obtain ⟨f8, o8⟩ := T8w.nof hx f2 o2
      have S8 := S7.wipe (vs := vs)
      rw [wσ] at S8
      have sl := ρslow T7'.slow
      have sr := ρslrd T7'.slrd
      refine ⟨xs, T8.keep _ _ hx o2, ?_, rfl, hl, F7, ρ7, acc ++ [dv], f8, o8, ⟨S8.updD f8 o8 fun i d e1 e2 => ?_, ?_, sl, sr, xs ++ [v], upd_same, ?_⟩, q7⟩
      · have : ∀ {ys : List V} {ds : List D}, DpAll K F2 ys ds → ys.length = ds.length := fun {ys} => by
          induction ys with
          | nil => intro ds h; cases h; rfl
          | cons y ys ih => intro ds h; cases h with | cons _ r => simp [ih r]
        rw [this hd]; exact hz
      · rcases sr i d e1 with y | ⟨t, κ, d0, y⟩
        · exact dp_mono (B.tr.fext.trans T8.fext) (rdw i d y e2)
        · exact absurd ⟨i, t, κ, d0, y, e2⟩ oLw
      · have T9 := B.tr.trans T8w
        refine ⟨T9.fext, fun b o h n => ?_, fun b o h => ?_, T9.own, T9.fnew⟩
        · have hne : b ≠ L := fun z => by rw [z, hL] at h; cases h
          rw [upd_ne hne]; exact T9.keep b o h n
        · have hne : b ≠ L := fun z => by rw [z, hL] at h; cases h
          rw [upd_ne hne]; exact T9.there b o h
      · have ap : ∀ {ys : List V} {ds : List D}, DpAll K F7 ys ds → DpAll K F7 (ys ++ [v]) (ds ++ [dv]) := fun {ys} => by
          induction ys with
          | nil => intro ds h; cases h; exact .cons dpv .nil
          | cons y ys ih => intro ds h; cases h with | cons p r => exact .cons p (ih r)
        exact ap (dpAll_mono T8.fext hd)
  · have e : i = items.length := by omega
    subst e
    rw [List.drop_length] at q2
    obtain ⟨qs, q2⟩ := q2
    refine .inl ⟨(wk2 qs).1 _ (Nat.le_refl _), ?_⟩
    have TX := Tr.rest S1 B.tr B.slow B.slrd
    have SX := Sta.rest S1 B.sta B.tr
    obtain ⟨xs, hx, hd⟩ := B.lst
    refine fin _ _ _ _ _ q2 SX (T1.trans TX) ⟨L, rfl, ⟨xs, acc, rfl, hx, hd⟩, f2, fun ⟨i, t, κ, d, h1, h2⟩ => ?_, T1.none hL⟩
    obtain ⟨d0, h3⟩ := TX.slow i t κ d h1
    exact oL ⟨i, t, κ, d0, h3, h2⟩
theorem de_comp {elt tg iter : Expr} {ifs : List Expr} {scope : Scope} {own : List (Str × Nat)} {w : DTI} {js : List Nat} {g : DTG} {tt : DTT} {te : DTE} (hc : X.calm = true) (hN : X.N.Nodup) (hi : DI X tg iter w) (ok : BlkOk X.N X.env.scope scope own)
    (hg : ∀ (s : Shared) (H : Hp) (C : Addr) (cl : List (Str × Addr)) (fp : List Addr), DG (X.blk s H scope (compEnvC scope cl C X.env) fp) tg js g) (ht : ∀ (s : Shared) (H : Hp) (C : Addr) (cl : List (Str × Addr)) (fp : List Addr), DTsT (X.blk s H scope (compEnvC scope cl C X.env) fp) ifs tt)
    (he : ∀ (s : Shared) (H : Hp) (C : Addr) (cl : List (Str × Addr)) (fp : List Addr), DE (X.blk s H scope (compEnvC scope cl C X.env) fp) elt te) (hj : ∀ j ∈ js, j ∈ own.map (·.2) := by decide) (hs : ∀ x, foldedSetIterable iter X.env x = pure x := by intro _; rfl) :
    DE X (.ListComp elt [⟨tg, iter, ifs, 0⟩] scope pos) (dComp w g tt te (own.map (·.2))) :=
  PE.le (pe_lc (wi := upI X.K w) (g := upG X.K js g) (tt := upT X.K tt) (te := up X.K te) hc hN hi ok hg ht he hs) fun σ H Q h => up_comp hj h
theorem ds_setLc {i : Nat} {y : Str} {py : Pos} {elt tg iter : Expr} {ifs : List Expr} {scope : Scope} {own : List (Str × Nat)} {spos : Pos} {w : DTI} {js : List Nat} {g : DTG} {tt : DTT} {te : DTE} (hc : X.calm = true) (hN : X.N.Nodup) (hy : X.N[i]? = some y) (hyl : X.env.scope.names.lookup y = some .local)
    (hsw : swapsWith (.ListComp elt [⟨tg, iter, ifs, 0⟩] scope pos) (some (.Name y py)) spos.line X.env = pure true) (hi : DI X tg iter w) (ok : BlkOk X.N X.env.scope scope own)
    (hg : ∀ (s : Shared) (H : Hp) (C : Addr) (cl : List (Str × Addr)) (fp : List Addr), DG (X.blk s H scope (compEnvC scope cl C X.env) fp) tg js g) (ht : ∀ (s : Shared) (H : Hp) (C : Addr) (cl : List (Str × Addr)) (fp : List Addr), DTsT (X.blk s H scope (compEnvC scope cl C X.env) fp) ifs tt)
    (he : ∀ (s : Shared) (H : Hp) (C : Addr) (cl : List (Str × Addr)) (fp : List Addr), DE (X.blk s H scope (compEnvC scope cl C X.env) fp) elt te) (hj : ∀ j ∈ js, j ∈ own.map (·.2) := by decide) (hs : ∀ x, foldedSetIterable iter X.env x = pure x := by intro _; rfl) :
    DS X (.Assign [.Name y py] (.ListComp elt [⟨tg, iter, ifs, 0⟩] scope pos) spos) (dSet i (dComp w g tt te (own.map (·.2)))) :=
  PS.le (ps_setLc (wi := upI X.K w) (g := upG X.K js g) (tt := upT X.K tt) (te := up X.K te) hc hN hy hyl hsw hi ok hg ht he hs) fun E σ H ⟨F, ρ, G, S, q, f1, f2, f3, f4⟩ => by
    refine up_comp (K := X.K) (Q := fun x H1 => E.nx (σ.set i (some x)) H1) hj ⟨F, ρ, _, S, q, fun r ρ1 v F1 H1 q S1 T1 f => ?_⟩
    obtain ⟨s, ρ2, F2, q, S2, T2⟩ := toSlot_ok (i := i) S S1 T1 f q
    exact f1 _ _ _ _ q S2 T2
end
end TL

-- part TL6
/-! TL6: defs: their promises over trees, their calls. -/
namespace TL
open PySem PySem.Spec L2
open Evl (Ex ex_l ex_t)

/-- how a parameter is handed in: frozen; to be read; owned, and given back -/
inductive Md | fz | rd | io (κ : Kd)
abbrev TSp := List D → (Res → List D → Prop) → Prop
section
variable (K : PySem.W.Frag)
def ios : List Md → List V → List Addr
  | .io _ :: ms, .ref a :: vs => a :: ios ms vs
  | _ :: ms, _ :: vs => ios ms vs
  | _, _ => []
def ArgAt (F H : Hp) (O : Addr → Prop) : List Md → List V → List D → Prop
  | [], [], [] => True
  | .fz :: ms, v :: vs, d :: ds => Dp K F v d ∧ ArgAt F H O ms vs ds
  | .rd :: ms, v :: vs, d :: ds => RdN K F H O v d ∧ ArgAt F H O ms vs ds
  | .io κ :: ms, v :: vs, d :: ds => (∃ a, v = .ref a ∧ OwAt K F H κ a d ∧ F a = none) ∧ ArgAt F H O ms vs ds
  | _, _, _ => False
def OutAt (F H : Hp) : List Md → List V → List D → Prop
  | [], _, os => os = []
  | .io κ :: ms, v :: vs, d :: os => (∃ a, v = .ref a ∧ OwAt K F H κ a d) ∧ OutAt F H ms vs os
  | .fz :: ms, _ :: vs, os => OutAt F H ms vs os
  | .rd :: ms, _ :: vs, os => OutAt F H ms vs os
  | _, _, _ => False
structure Ret (F H F' H' : Hp) (ms : List Md) (vs : List V) (z : Res) (os : List D) (v : V) : Prop where
  fext : Ex F F'
  sub : Ex F' H'
  keep : ∀ b o, H b = some o → b ∉ ios ms vs → H' b = some o
  there : ∀ b o, H b = some o → ∃ o', H' b = some o'
  fnew : ∀ b o, F' b = some o → F b = some o ∨ H b = none
  outs : OutAt K F' H' ms vs os
  fit : match z with
    | .fz d => Dp K F' v d
    | .tm κ d => ∃ a, v = .ref a ∧ OwAt K F' H' κ a d ∧ F' a = none ∧ H a = none
    | _ => False
def spT (ms : List Md) (ts : TSp) : Sp := fun vs H Q _ => ∃ F ds k, Ex F H ∧ ArgAt K F H (· ∈ ios ms vs) ms vs ds ∧ (ios ms vs).Nodup ∧ ts ds k ∧ ∀ z os v F' H', k z os → Ret K F H F' H' ms vs z os v → Q v H'
end
/-! ### the call -/
@[simp] def idx : List Md → List Res → List Nat
  | .io _ :: ms, .bo i :: rs => i :: idx ms rs
  | _ :: ms, _ :: rs => idx ms rs
  | _, _ => []
@[simp] def rbo : List Md → List Res → List Nat
  | .io _ :: ms, _ :: rs => rbo ms rs
  | _ :: ms, .bo j :: rs => j :: rbo ms rs
  | _ :: ms, _ :: rs => rbo ms rs
  | _, _ => []
@[simp] def isOw (ρ : List Slot) (i : Nat) : Prop := match ρ[i]? with | some (.ow _ _ _) => True | _ => False
@[simp] def okIo (ms : List Md) (rs : List Res) (ρ : List Slot) : Prop := (idx ms rs).Nodup ∧ (∀ j ∈ rbo ms rs, j ∉ idx ms rs) ∧ ∀ i ∈ idx ms rs, isOw ρ i
@[simp] def passA : List Md → List Res → List Slot → (List D → List Slot → Prop) → Prop
  | [], [], ρ, k => k [] ρ
  | .fz :: ms, r :: rs, ρ, k => fzR r ρ fun d ρ1 => passA ms rs ρ1 fun ds ρ2 => k (d :: ds) ρ2
  | .rd :: ms, r :: rs, ρ, k => wc r ρ fun d => passA ms rs ρ fun ds ρ2 => k (d :: ds) ρ2
  | .io κ :: ms, .bo i :: rs, ρ, k => match ρ[i]? with
    | some (.ow _ κ' d) => κ' = κ ∧ passA ms rs ρ fun ds ρ2 => k (d :: ds) ρ2
    | _ => False
  | _, _, _, _ => False
@[simp] def backA : List Md → List Res → List D → List Slot → (List Slot → Prop) → Prop
  | [], [], [], ρ, k => k ρ
  | .io κ :: ms, .bo i :: rs, d :: os, ρ, k => match ρ[i]? with
    | some (.ow t κ' _) => κ' = κ ∧ backA ms rs os (ρ.set i (.ow t κ d)) k
    | _ => False
  | .fz :: ms, _ :: rs, os, ρ, k => backA ms rs os ρ k
  | .rd :: ms, _ :: rs, os, ρ, k => backA ms rs os ρ k
  | _, _, _, _, _ => False
@[simp] def dCall (ms : List Md) (ts : TSp) (da : DTA) : DTE := fun ρ k => da ρ fun rs ρ1 => okIo ms rs ρ1 ∧ passA ms rs ρ1 fun ds ρ2 => ts ds fun z os => backA ms rs os ρ2 fun ρ3 => k z ρ3
section
variable {K : PySem.W.Frag} {F F' F0 F1 F2 H H' H0 H1 H2 : Hp} {σ σ' σ0 σ1 σ2 : L2.St} {ρ ρ' ρ0 ρ1 ρ2 : List Slot}
theorem isOw_get {i : Nat} (h : isOw ρ i) : ∃ t κ d, ρ[i]? = some (.ow t κ d) := by
  unfold isOw at h
  split at h
  · rename_i t κ d e; exact ⟨t, κ, d, e⟩
  · exact h.elim
/-- freezing leaves the owned slots that it does not name -/
theorem fzR_keep {r : Res} {k : D → List Slot → Prop} {I : List Nat} (hr : ∀ j, r = .bo j → j ∉ I) (h : fzR r ρ k) : fzR r ρ fun d ρ' => k d ρ' ∧ ∀ i ∈ I, ρ'[i]? = ρ[i]? := by
  unfold fzR at h ⊢
  split
  · exact ⟨h, fun _ _ => rfl⟩
  · exact ⟨h, fun _ _ => rfl⟩
  · rename_i j
    simp only at h
    split
    · rename_i d e; rw [e] at h; exact ⟨h, fun _ _ => rfl⟩
    · rename_i d e
      rw [e] at h
      exact ⟨h, fun i hi => by rw [List.getElem?_set_ne]; exact fun z => hr j rfl (z ▸ hi)⟩
    · rename_i n1 n2
      split at h
      · rename_i d e; exact n1 d e
      · rename_i d e; exact n2 d e
      · exact h
  · rename_i n1 n2 n3
    cases r with
    | fz d => exact n1 d rfl
    | tm κ d => cases κ with
      | l => exact n2 d rfl
      | k => exact h
      | t => exact h
    | rd d => exact h
    | bo i => exact n3 i rfl
theorem RdN.imp {O O' : Addr → Prop} {v : V} {d : D} (h : RdN K F H O v d) (i : ∀ a, O' a → O a) : RdN K F H O' v d := by
  rcases h with h | ⟨κ, a, e, h, n⟩
  · exact .inl h
  · exact .inr ⟨κ, a, e, h, fun z => n (i a z)⟩
theorem RdN.mono' {O : Addr → Prop} {v : V} {d : D} (h : RdN K F H O v d) (e : Ex F F') : RdN K F' H O v d := by
  rcases h with h | ⟨κ, a, e', h, n⟩
  · exact .inl (dp_mono e h)
  · exact .inr ⟨κ, a, e', h.mono e fun _ z => z, n⟩
/-- the contents of the arguments. I: the slots given out; O: their objects -/
theorem passA_ok {I : List Nat} {vs : List V} : ∀ {ms : List Md} {rs : List Res} {ρ : List Slot} {F : Hp} {k : List D → List Slot → Prop}, (∀ i ∈ idx ms rs, i ∈ I) → (∀ j ∈ rbo ms rs, j ∉ I) → (∀ i ∈ I, isOw ρ i) →
    Sta K F H σ ρ → FitsWAll K F H σ ρ H0 vs rs → TrX F0 H0 σ ρ0 F H ρ → passA ms rs ρ k →
    ∃ ds ρ' F', k ds ρ' ∧ Sta K F' H σ ρ' ∧ TrX F0 H0 σ ρ0 F' H ρ' ∧ ArgAt K F' H (fun b => ∃ i ∈ I, σ[i]? = some (some (.ref b))) ms vs ds ∧ Ex F F' ∧ (∀ i ∈ I, ρ'[i]? = ρ[i]?) ∧ ∀ b, OA σ ρ' b → OA σ ρ b := by
  induction vs with
  | nil =>
    intro ms rs ρ F k hi hj ho S f T h
    cases rs with
    | cons r rs => exact f.elim
    | nil => cases ms with
      | nil => exact ⟨[], ρ, F, h, S, T, trivial, Ex.refl F, fun _ _ => rfl, fun _ z => z⟩
      | cons m ms => cases m <;> exact h.elim
  | cons v vs ih =>
    intro ms rs ρ F k hi hj ho S f T h
    cases rs with
    | nil => exact f.elim
    | cons r rs =>
      obtain ⟨f1, f2⟩ := f
      cases ms with
      | nil => exact h.elim
      | cons m ms =>
        cases m with
        | fz =>
          have hr : ∀ j, r = .bo j → j ∉ I := fun j e => hj j (by subst e; exact List.mem_cons_self)
          have hj' : ∀ j ∈ rbo ms rs, j ∉ I := fun j z => hj j (by cases r <;> first | exact z | exact List.mem_cons_of_mem _ z)
          have hi' : ∀ i ∈ idx ms rs, i ∈ I := hi
          obtain ⟨d, ρ1, F1, ⟨h, hk⟩, S1, T1, dp, e1, o1⟩ := fzR_ok S f1 T (fzR_keep hr h)
          have ho1 : ∀ i ∈ I, isOw ρ1 i := fun i z => by have := ho i z; unfold isOw at this ⊢; rw [hk i z]; exact this
          obtain ⟨ds, ρ2, F2, h, S2, T2, ar, e2, k2, o2⟩ := ih hi' hj' ho1 S1 (f2.frz e1 o1) T1 h
          exact ⟨d :: ds, ρ2, F2, h, S2, T2, ⟨dp_mono e2 dp, ar⟩, e1.trans e2, fun i z => (k2 i z).trans (hk i z), fun b z => o1 b (o2 b z)⟩
        | rd =>
          have hj' : ∀ j ∈ rbo ms rs, j ∉ I := fun j z => hj j (by cases r <;> first | exact z | exact List.mem_cons_of_mem _ z)
          have hi' : ∀ i ∈ idx ms rs, i ∈ I := hi
          have oI : ∀ b, (∃ i ∈ I, σ[i]? = some (some (.ref b))) → OA σ ρ b := fun b ⟨i, z, e⟩ => by
            obtain ⟨t, κ, d, e'⟩ := isOw_get (ho i z)
            exact ⟨i, t, κ, d, e', e⟩
          have rd : ∃ d, RdN K F H (fun b => ∃ i ∈ I, σ[i]? = some (some (.ref b))) v d ∧ passA ms rs ρ fun ds ρ2 => k (d :: ds) ρ2 := by
            have h : wc r ρ fun d => passA ms rs ρ fun ds ρ2 => k (d :: ds) ρ2 := h
            cases r with
            | fz d => exact ⟨d, .inl f1, h⟩
            | tm κ d =>
              obtain ⟨a, rfl, q, n, _⟩ := f1
              exact ⟨d, .inr ⟨κ, a, rfl, q, fun z => n (oI a z)⟩, h⟩
            | rd d => exact ⟨d, RdN.imp (show RdN K F H (OA σ ρ) v d from f1) oI, h⟩
            | bo j =>
              have f1 : σ[j]? = some (some v) := f1
              have nj : j ∉ I := hj j List.mem_cons_self
              unfold wc at h
              simp only at h
              split at h
              · rename_i t κ d e
                obtain ⟨a, e1, q, _⟩ := S.ow j t κ d e
                rw [f1] at e1; cases e1
                refine ⟨d, .inr ⟨κ, a, rfl, q, fun ⟨i, z, e2⟩ => ?_⟩, h⟩
                obtain ⟨t', κ', d', e'⟩ := isOw_get (ho i z)
                have := S.inj i j _ _ _ _ _ _ a e' e e2 f1
                exact nj (this ▸ z)
              · rename_i d e
                obtain ⟨v', e1, q⟩ := S.fz j d e
                rw [f1] at e1; cases e1
                exact ⟨d, .inl q, h⟩
              · exact h.elim
          obtain ⟨d, rd, h⟩ := rd
          obtain ⟨ds, ρ2, F2, h, S2, T2, ar, e2, k2, o2⟩ := ih hi' hj' ho S f2 T h
          exact ⟨d :: ds, ρ2, F2, h, S2, T2, ⟨rd.mono' e2, ar⟩, e2, k2, o2⟩
        | io κ =>
          cases r with
          | bo i =>
            have f1 : σ[i]? = some (some v) := f1
            have h0 : match ρ[i]? with
              | some (.ow _ κ' d) => κ' = κ ∧ passA ms rs ρ fun ds ρ2 => k (d :: ds) ρ2
              | _ => False := h
            clear h
            split at h0
            · rename_i t κ' d e
              obtain ⟨e0, h⟩ := h0
              subst e0
              have hi' : ∀ i ∈ idx ms rs, i ∈ I := fun j z => hi j (List.mem_cons_of_mem _ z)
              obtain ⟨ds, ρ2, F2, h, S2, T2, ar, e2, k2, o2⟩ := ih hi' hj ho S f2 T h
              have hiI : i ∈ I := hi i List.mem_cons_self
              obtain ⟨a, e1, q, n, _⟩ := S2.ow i t κ' d (by rw [k2 i hiI]; exact e)
              rw [f1] at e1; cases e1
              exact ⟨d :: ds, ρ2, F2, h, S2, T2, ⟨⟨a, rfl, q, n⟩, ar⟩, e2, k2, o2⟩
            · exact h0.elim
          | _ => exact h.elim
theorem ios_idx {vs : List V} {b : Addr} : ∀ {ms : List Md} {rs : List Res}, FitsWAll K F H σ ρ H0 vs rs → (∀ ds, ArgAt K F1 H1 (fun _ => False) ms vs ds → True) → b ∈ ios ms vs → (∃ ρ k, passA ms rs ρ k) → ∃ i ∈ idx ms rs, σ[i]? = some (some (.ref b)) := by
  induction vs with
  | nil => intro ms rs f _ h; cases ms with
    | nil => cases h
    | cons m ms => cases m <;> cases h
  | cons v vs ih =>
    intro ms rs f _ h hp
    cases rs with
    | nil => exact f.elim
    | cons r rs =>
      obtain ⟨f1, f2⟩ := f
      cases ms with
      | nil => cases h
      | cons m ms =>
        obtain ⟨ρ', k, hp⟩ := hp
        cases m with
        | fz =>
          obtain ⟨i, hi, e⟩ := ih (ms := ms) f2 (fun _ _ => trivial) (by cases v <;> exact h) (by
            have hp : fzR r ρ' fun d ρ1 => passA ms rs ρ1 fun ds ρ2 => k (d :: ds) ρ2 := hp
            unfold fzR at hp
            split at hp <;> first | exact ⟨_, _, hp⟩ | (split at hp <;> first | exact ⟨_, _, hp⟩ | exact hp.elim) | exact hp.elim)
          exact ⟨i, by cases r <;> exact hi, e⟩
        | rd =>
          obtain ⟨i, hi, e⟩ := ih (ms := ms) f2 (fun _ _ => trivial) (by cases v <;> exact h) (by
            have hp : wc r ρ' fun d => passA ms rs ρ' fun ds ρ2 => k (d :: ds) ρ2 := hp
            unfold wc at hp
            split at hp <;> first | exact ⟨_, _, hp⟩ | (split at hp <;> first | exact ⟨_, _, hp⟩ | exact hp.elim))
          exact ⟨i, by cases r <;> exact hi, e⟩
        | io κ =>
          cases r with
          | bo i =>
            have f1 : σ[i]? = some (some v) := f1
            have hp' : ∃ ρ k, passA ms rs ρ k := by
              have hp : match ρ'[i]? with
                | some (.ow _ κ' d) => κ' = κ ∧ passA ms rs ρ' fun ds ρ2 => k (d :: ds) ρ2
                | _ => False := hp
              split at hp
              · exact ⟨_, _, hp.2⟩
              · exact hp.elim
            cases v with
            | ref a =>
              rcases List.mem_cons.mp (show b ∈ a :: ios ms vs from h) with e | h
              · subst e; exact ⟨i, List.mem_cons_self, f1⟩
              · obtain ⟨j, hj, e⟩ := ih f2 (fun _ _ => trivial) h hp'
                exact ⟨j, List.mem_cons_of_mem _ hj, e⟩
            | _ =>
              obtain ⟨j, hj, e⟩ := ih f2 (fun _ _ => trivial) h hp'
              exact ⟨j, List.mem_cons_of_mem _ hj, e⟩
          | _ => exact hp.elim
theorem ios_nodup {vs : List V} : ∀ {ms : List Md} {rs : List Res}, FitsWAll K F H σ ρ H0 vs rs → (∃ ρ k, passA ms rs ρ k) → (idx ms rs).Nodup → (∀ i j a, i ∈ idx ms rs → j ∈ idx ms rs → σ[i]? = some (some (.ref a)) → σ[j]? = some (some (.ref a)) → i = j) → (ios ms vs).Nodup := by
  induction vs with
  | nil => intro ms rs f _ _ _; cases ms with
    | nil => exact List.nodup_nil
    | cons m ms => cases m <;> exact List.nodup_nil
  | cons v vs ih =>
    intro ms rs f hp nd inj
    cases rs with
    | nil => exact f.elim
    | cons r rs =>
      obtain ⟨f1, f2⟩ := f
      cases ms with
      | nil => exact List.nodup_nil
      | cons m ms =>
        obtain ⟨ρ', k, hp⟩ := hp
        cases m with
        | fz =>
          have := ih (ms := ms) f2 (by
            have hp : fzR r ρ' fun d ρ1 => passA ms rs ρ1 fun ds ρ2 => k (d :: ds) ρ2 := hp
            unfold fzR at hp
            split at hp <;> first | exact ⟨_, _, hp⟩ | (split at hp <;> first | exact ⟨_, _, hp⟩ | exact hp.elim) | exact hp.elim) (by cases r <;> exact nd) (by cases r <;> exact inj)
          cases v <;> exact this
        | rd =>
          have := ih (ms := ms) f2 (by
            have hp : wc r ρ' fun d => passA ms rs ρ' fun ds ρ2 => k (d :: ds) ρ2 := hp
            unfold wc at hp
            split at hp <;> first | exact ⟨_, _, hp⟩ | (split at hp <;> first | exact ⟨_, _, hp⟩ | exact hp.elim)) (by cases r <;> exact nd) (by cases r <;> exact inj)
          cases v <;> exact this
        | io κ =>
          cases r with
          | bo i =>
            have f1 : σ[i]? = some (some v) := f1
            have hp' : ∃ ρ k, passA ms rs ρ k := by
              have hp : match ρ'[i]? with
                | some (.ow _ κ' d) => κ' = κ ∧ passA ms rs ρ' fun ds ρ2 => k (d :: ds) ρ2
                | _ => False := hp
              split at hp
              · exact ⟨_, _, hp.2⟩
              · exact hp.elim
            have nd : (i :: idx ms rs).Nodup := nd
            obtain ⟨ni, nd'⟩ := List.nodup_cons.mp nd
            have := ih f2 hp' nd' fun i' j' a hi hj => inj i' j' a (List.mem_cons_of_mem _ hi) (List.mem_cons_of_mem _ hj)
            cases v with
            | ref a =>
              refine List.nodup_cons.mpr ⟨fun z => ?_, this⟩
              obtain ⟨j, hj, e⟩ := ios_idx (F1 := F) (H1 := H) f2 (fun _ _ => trivial) z hp'
              have := inj i j a List.mem_cons_self (List.mem_cons_of_mem _ hj) f1 e
              exact ni (this ▸ hj)
            | _ => exact this
          | _ => exact hp.elim
theorem ArgAt.imp {O O' : Addr → Prop} (i : ∀ a, O' a → O a) {vs : List V} : ∀ {ms : List Md} {ds : List D}, ArgAt K F H O ms vs ds → ArgAt K F H O' ms vs ds := by
  induction vs with
  | nil => intro ms ds h; cases ms with
    | nil => cases ds with
      | nil => trivial
      | cons => exact h.elim
    | cons m ms => cases m <;> exact h.elim
  | cons v vs ih => intro ms ds h; cases ms with
    | nil => exact h.elim
    | cons m ms => cases ds with
      | nil => cases m <;> exact h.elim
      | cons d ds => cases m with
        | fz => exact ⟨h.1, ih h.2⟩
        | rd => exact ⟨RdN.imp h.1 i, ih h.2⟩
        | io κ => exact ⟨h.1, ih h.2⟩
theorem backA_ok {vs : List V} : ∀ {ms : List Md} {rs : List Res} {os : List D} {ρ : List Slot} {k : List Slot → Prop}, (idx ms rs).Nodup → FitsWAll K F1 H1 σ ρ1 H0 vs rs → OutAt K F' H' ms vs os → backA ms rs os ρ k →
    ∃ ρ3, k ρ3 ∧ ρ3.length = ρ.length ∧ (∀ j, j ∉ idx ms rs → ρ3[j]? = ρ[j]?) ∧ ∀ i ∈ idx ms rs, ∃ t κ d d' a, ρ[i]? = some (.ow t κ d) ∧ ρ3[i]? = some (.ow t κ d') ∧ σ[i]? = some (some (.ref a)) ∧ OwAt K F' H' κ a d' := by
  induction vs with
  | nil =>
    intro ms rs os ρ k nd f o h
    cases rs with
    | cons r rs => exact f.elim
    | nil => cases ms with
      | nil => cases os with
        | nil => exact ⟨ρ, h, rfl, fun _ _ => rfl, fun i hi => by cases hi⟩
        | cons => exact h.elim
      | cons m ms => cases m <;> exact h.elim
  | cons v vs ih =>
    intro ms rs os ρ k nd f o h
    cases rs with
    | nil => exact f.elim
    | cons r rs =>
      obtain ⟨f1, f2⟩ := f
      cases ms with
      | nil => exact h.elim
      | cons m ms =>
        cases m with
        | fz => exact ih (ms := ms) nd f2 o h
        | rd => exact ih (ms := ms) nd f2 o h
        | io κ =>
          cases r with
          | bo i =>
            have f1 : σ[i]? = some (some v) := f1
            cases os with
            | nil => exact h.elim
            | cons d os =>
              have h0 : match ρ[i]? with
                | some (.ow t κ' _) => κ' = κ ∧ backA ms rs os (ρ.set i (.ow t κ d)) k
                | _ => False := h
              obtain ⟨⟨a, rfl, ho⟩, o2⟩ := (show (∃ a, v = .ref a ∧ OwAt K F' H' κ a d) ∧ OutAt K F' H' ms vs os from o)
              have nd : (i :: idx ms rs).Nodup := nd
              obtain ⟨ni, nd'⟩ := List.nodup_cons.mp nd
              clear h
              split at h0
              · rename_i t κ' d0 e
                obtain ⟨rfl, h⟩ := h0
                obtain ⟨ρ3, hk, hl, hj, hi⟩ := ih nd' f2 o2 h
                have lt : i < ρ.length := (List.getElem?_eq_some_iff.mp e).1
                refine ⟨ρ3, hk, by rw [hl, List.length_set], fun j z => ?_, fun j z => ?_⟩
                · have z : j ∉ i :: idx ms rs := z
                  rw [hj j fun y => z (List.mem_cons_of_mem _ y), List.getElem?_set_ne fun y => z (by simp [y])]
                · rcases List.mem_cons.mp (show j ∈ i :: idx ms rs from z) with y | y
                  · subst y
                    exact ⟨t, κ', d0, d, a, e, by rw [hj j ni]; exact get_set_at lt, f1, ho⟩
                  · obtain ⟨t', κ2, d2, d3, a2, e1, e2, e3, e4⟩ := hi j y
                    refine ⟨t', κ2, d2, d3, a2, ?_, e2, e3, e4⟩
                    rw [List.getElem?_set_ne (fun z => ni (by rw [z]; exact y))] at e1
                    exact e1
              · exact h0.elim
          | _ => exact h.elim
end
section
variable {X : Cx} {k : Nat} {f : Addr} {fd : FuncData} {ps : List Str} {ms : List Md} {ts : TSp} {x : Str} {e : Expr} {es : List Expr} {da : DTA} {p pos : Pos}
theorem up_call {K : PySem.W.Frag} {σ : L2.St} {H : Hp} {Q : VK} (h : up K (dCall ms ts da) σ H Q) : tCall (spT K ms ts) [] E0 (upA K da) σ H Q := by
  obtain ⟨F, ρ, k, S, q, fin⟩ := h
  refine ⟨F, ρ, _, S, q, fun rs ρ1 vs F1 H1 q S1 T1 f => ?_⟩
  obtain ⟨⟨nd, nr, ow⟩, q⟩ := q
  rw [List.append_nil]
  have hp : ∃ ρ k, passA ms rs ρ k := ⟨_, _, q⟩
  obtain ⟨ds, ρ2, F2, q, S2, T2, ar, e2, k2, o2⟩ := passA_ok (I := idx ms rs) (fun _ z => z) nr ow S1 f.w T1 q
  have hios : ∀ b, b ∈ ios ms vs → ∃ i ∈ idx ms rs, σ[i]? = some (some (.ref b)) := fun b hb => ios_idx (F1 := F1) (H1 := H1) f.w (fun _ _ => trivial) hb hp
  have oaI : ∀ b, b ∈ ios ms vs → OA σ ρ2 b := fun b hb => by
    obtain ⟨i, hi, e⟩ := hios b hb
    obtain ⟨t, κ, d, e'⟩ := isOw_get (ow i hi)
    exact ⟨i, t, κ, d, by rw [k2 i hi]; exact e', e⟩
  refine ⟨F2, ds, _, S2.sub, ar.imp hios, ?_, q, fun z os v F3 H3 q R => ?_⟩
  · refine ios_nodup f.w hp nd fun i j a hi hj h1 h2 => ?_
    obtain ⟨t, κ, d, e⟩ := isOw_get (ow i hi)
    obtain ⟨t', κ', d', e'⟩ := isOw_get (ow j hj)
    exact S1.inj i j _ _ _ _ _ _ a e e' h1 h2
  · obtain ⟨ρ3, q, hl, hj, hi⟩ := backA_ok nd f.w R.outs q
    have own3 : ∀ {i : Nat} {t : Option Addr} {κ : Kd} {d : D}, ρ3[i]? = some (Slot.ow t κ d) → ∃ d0, ρ2[i]? = some (Slot.ow t κ d0) := fun {i t κ d} e => by
      by_cases h : i ∈ idx ms rs
      · obtain ⟨t', κ', d1, d2, a, e1, e2, _⟩ := hi i h
        rw [e] at e2; cases e2
        exact ⟨d1, e1⟩
      · rw [hj i h] at e; exact ⟨d, e⟩
    have rd3 : ∀ {i : Nat} {d : D}, ρ3[i]? = some (Slot.rd d) → ρ2[i]? = some (Slot.rd d) := fun {i d} e => by
      by_cases h : i ∈ idx ms rs
      · obtain ⟨t', κ', d1, d2, a, e1, e2, _⟩ := hi i h
        rw [e] at e2; cases e2
      · rw [hj i h] at e; exact e
    have fz3 : ∀ {i : Nat} {d : D}, ρ3[i]? = some (Slot.fz d) → ρ2[i]? = some (Slot.fz d) := fun {i d} e => by
      by_cases h : i ∈ idx ms rs
      · obtain ⟨t', κ', d1, d2, a, e1, e2, _⟩ := hi i h
        rw [e] at e2; cases e2
      · rw [hj i h] at e; exact e
    have oa3 : ∀ b, OA σ ρ3 b → OA σ ρ2 b := fun b ⟨i, t, κ, d, h1, h2⟩ => by
      obtain ⟨d0, h0⟩ := own3 h1
      exact ⟨i, t, κ, d0, h0, h2⟩
    have keep3 : ∀ b o, H1 b = some o → ¬ OA σ ρ2 b → H3 b = some o := fun b o h n => R.keep b o h fun z => n (oaI b z)
    have S3 : Sta K F3 H3 σ ρ3 := by
      refine ⟨R.sub, by rw [hl]; exact S2.len, fun i d e => ?_, fun i d e => ?_, fun i t κ d e => ?_, fun i j t t' κ κ' d d' a e e' h h' => ?_⟩
      · obtain ⟨v, h1, h2⟩ := S2.fz i d (fz3 e)
        exact ⟨v, h1, dp_mono R.fext h2⟩
      · obtain ⟨v, h1, h2⟩ := S2.rd i d (rd3 e)
        refine ⟨v, h1, ?_⟩
        rcases h2 with h2 | ⟨κ, a, e1, h2, n⟩
        · exact .inl (dp_mono R.fext h2)
        · exact .inr ⟨κ, a, e1, h2.mono R.fext fun o z => keep3 _ _ z n, fun z => n (oa3 _ z)⟩
      · by_cases h : i ∈ idx ms rs
        · obtain ⟨t', κ', d1, d2, a, e1, e2, e3, e4⟩ := hi i h
          rw [e] at e2; cases e2
          obtain ⟨a', h1, h2, h3, h4⟩ := S2.ow i _ _ d1 e1
          rw [e3] at h1; cases h1
          refine ⟨a, e3, e4, ?_, h4⟩
          obtain ⟨o, ho⟩ := h2.some
          cases hf : F3 a with
          | none => rfl
          | some u =>
            rcases R.fnew a u hf with y | y
            · rw [h3] at y; cases y
            · rw [ho] at y; cases y
        · rw [hj i h] at e
          obtain ⟨a, h1, h2, h3, h4⟩ := S2.ow i t κ d e
          obtain ⟨o, ho⟩ := h2.some
          have na : a ∉ ios ms vs := fun z => by
            obtain ⟨j, hj1, hj2⟩ := hios a z
            obtain ⟨t2, κ2, d2, e2⟩ := isOw_get (ow j hj1)
            have := S2.inj i j _ _ _ _ _ _ a e (by rw [k2 j hj1]; exact e2) h1 hj2
            exact h (this ▸ hj1)
          refine ⟨a, h1, h2.mono R.fext fun o z => R.keep _ _ z na, ?_, h4⟩
          cases hf : F3 a with
          | none => rfl
          | some u =>
            rcases R.fnew a u hf with y | y
            · rw [h3] at y; cases y
            · rw [ho] at y; cases y
      · obtain ⟨d0, h0⟩ := own3 e
        obtain ⟨d1, h1⟩ := own3 e'
        exact S2.inj i j _ _ _ _ _ _ a h0 h1 h h'
    have T3 : TrX F2 H1 σ ρ2 F3 H3 ρ3 := ⟨⟨R.fext, keep3, R.there, fun b z => .inl (oa3 b z), fun b o z => (R.fnew b o z).imp id .inl⟩, fun i t κ d e => own3 e, fun i d e => .inl (rd3 e)⟩
    refine fin z ρ3 v F3 H3 q S3 (T2.trans T3) ?_
    have rf := R.fit
    cases z with
    | fz d => exact rf
    | tm κ d =>
      obtain ⟨a, e, h1, h2, h3⟩ := rf
      refine ⟨a, e, h1, h2, fun z => ?_, T2.none h3⟩
      obtain ⟨i, t, κ', d', g1, g2⟩ := oa3 a z
      obtain ⟨a', g3, g4, _⟩ := S2.ow i t κ' d' g1
      rw [g2] at g3; cases g3
      obtain ⟨o, ho⟩ := g4.some
      rw [h3] at ho; cases ho
    | rd d => exact rf.elim
    | bo i => exact rf.elim
theorem de_call (F : FnOk X.prog X.w X.K X.mg X.base CX0 k f fd ps (spT X.K ms ts)) (hr : Room k X.A) (hg : Gl X x) (hm : X.mg x = some (.ref f)) (hk : PySem.W.keepIn X.K (.ref f) = true) (hb : Binds X.K fd ps [])
    (ha : DA X (e :: es) da) (hdb : (x == ("__debug__" : Str)) = false := by decide) (he : starEach (e :: es) X.env = (false, eval e X.env) :: starEach es X.env := by rfl) (hpl : (backTo pos (starEach es X.env)).any (·.1) = false := by rfl) :
    DE X (.Call (.Name x p) (e :: es) [] pos) (dCall ms ts da) :=
  PE.le (pe_call F hr hg hm hk hb .nil pass0 ha hdb he hpl) fun σ H Q h => up_call h
end
end TL

-- part TL7
/-! TL7: the rule for a def; the end of a law. -/
namespace TL
open PySem PySem.Spec L2
open Evl (Ex ex_l ex_t)

@[simp] def entryR : List Md → List D → List Addr → List Slot
  | .fz :: ms, d :: ds, as => .fz d :: entryR ms ds as
  | .rd :: ms, d :: ds, as => .rd d :: entryR ms ds as
  | .io κ :: ms, d :: ds, a :: as => .ow (some a) κ d :: entryR ms ds as
  | _, _, _ => []
@[simp] def outR : List Md → Nat → List Addr → List Slot → (List D → Prop) → Prop
  | [], _, _, _, k => k []
  | .io κ :: ms, p, a :: as, ρ, k => match ρ[p]? with
    | some (.ow (some b) κ' d) => b = a ∧ κ' = κ ∧ outR ms (p + 1) as ρ fun os => k (d :: os)
    | _ => False
  | .fz :: ms, p, as, ρ, k => outR ms (p + 1) as ρ k
  | .rd :: ms, p, as, ρ, k => outR ms (p + 1) as ρ k
  | _, _, _, _, _ => False
@[simp] def finR (ms : List Md) (as : List Addr) (k : Res → List D → Prop) (r : Res) (ρ : List Slot) : Prop := outR ms 0 as ρ fun os => match r with
  | .fz d => k (.fz d) os
  | .tm κ d => k (.tm κ d) os
  | .bo i => match ρ[i]? with
    | some (.ow none κ d) => k (.tm κ d) os
    | some (.fz d) => k (.fz d) os
    | _ => False
  | .rd _ => False
@[simp] def nio : List Md → Nat
  | [] => 0
  | .io _ :: ms => nio ms + 1
  | _ :: ms => nio ms
section
variable {K : PySem.W.Frag} {F F' H H' : Hp} {σ σ' : L2.St} {ρ ρ' : List Slot}
theorem arg_len {O : Addr → Prop} {vs : List V} : ∀ {ms : List Md} {ds : List D}, ArgAt K F H O ms vs ds → vs.length = ms.length ∧ ds.length = ms.length ∧ (ios ms vs).length = nio ms := by
  induction vs with
  | nil => intro ms ds h; cases ms with
    | nil => cases ds with
      | nil => exact ⟨rfl, rfl, rfl⟩
      | cons => exact h.elim
    | cons m ms => cases m <;> exact h.elim
  | cons v vs ih => intro ms ds h; cases ms with
    | nil => exact h.elim
    | cons m ms => cases ds with
      | nil => cases m <;> exact h.elim
      | cons d ds => cases m with
        | fz => obtain ⟨a, b, c⟩ := ih h.2; exact ⟨by simp [a], by simp [b], by cases v <;> exact c⟩
        | rd => obtain ⟨a, b, c⟩ := ih h.2; exact ⟨by simp [a], by simp [b], by cases v <;> exact c⟩
        | io κ =>
          obtain ⟨⟨a0, rfl, _⟩, h2⟩ := h
          obtain ⟨a, b, c⟩ := ih h2
          exact ⟨by simp [a], by simp [b], by simp [ios, nio, c]⟩
theorem entry_get {O : Addr → Prop} {vs : List V} : ∀ {ms : List Md} {ds : List D} {i : Nat} {s : Slot}, ArgAt K F H O ms vs ds → (entryR ms ds (ios ms vs))[i]? = some s →
    ∃ v, vs[i]? = some v ∧ match s with
      | .fz d => Dp K F v d
      | .rd d => RdN K F H O v d
      | .ow t κ d => ∃ a, v = .ref a ∧ t = some a ∧ OwAt K F H κ a d ∧ F a = none ∧ a ∈ ios ms vs
      | .un => True := by
  induction vs with
  | nil => intro ms ds i s h e; cases ms with
    | nil => cases ds <;> (simp [entryR] at e)
    | cons m ms => cases m <;> exact h.elim
  | cons v vs ih => intro ms ds i s h e; cases ms with
    | nil => exact h.elim
    | cons m ms => cases ds with
      | nil => cases m <;> exact h.elim
      | cons d ds => cases m with
        | fz =>
          have hio : ios (.fz :: ms) (v :: vs) = ios ms vs := by cases v <;> rfl
          rw [hio] at e ⊢
          cases i with
          | zero => simp [entryR] at e; subst e; exact ⟨v, rfl, h.1⟩
          | succ i => exact ih h.2 (by simpa [entryR] using e)
        | rd =>
          have hio : ios (.rd :: ms) (v :: vs) = ios ms vs := by cases v <;> rfl
          rw [hio] at e ⊢
          cases i with
          | zero => simp [entryR] at e; subst e; exact ⟨v, rfl, h.1⟩
          | succ i => exact ih h.2 (by simpa [entryR] using e)
        | io κ =>
          obtain ⟨⟨a0, rfl, h1, h3⟩, h2⟩ := h
          cases i with
          | zero => simp [entryR, ios] at e; subst e; exact ⟨_, rfl, a0, rfl, rfl, h1, h3, List.mem_cons_self⟩
          | succ i =>
            obtain ⟨w, e1, e2⟩ := ih (s := s) h2 (by simpa [entryR, ios] using e)
            refine ⟨w, e1, ?_⟩
            cases s with
            | ow t κ' d' =>
              obtain ⟨a, q1, q2, q3, q4, q5⟩ := e2
              exact ⟨a, q1, q2, q3, q4, List.mem_cons_of_mem _ q5⟩
            | fz d' => exact e2
            | rd d' => exact e2
            | un => trivial
theorem entry_inj {O : Addr → Prop} {vs : List V} {a : Addr} : ∀ {ms : List Md} {ds : List D} {i j : Nat} {t t' : Option Addr} {κ κ' : Kd} {d d' : D}, ArgAt K F H O ms vs ds → (ios ms vs).Nodup →
    (entryR ms ds (ios ms vs))[i]? = some (.ow t κ d) → (entryR ms ds (ios ms vs))[j]? = some (.ow t' κ' d') → vs[i]? = some (.ref a) → vs[j]? = some (.ref a) → i = j := by
  induction vs with
  | nil => intro ms ds i j t t' κ κ' d d' h nd e e' h1 h2; simp at h1
  | cons v vs ih => intro ms ds i j t t' κ κ' d d' h nd e e' h1 h2; cases ms with
    | nil => exact h.elim
    | cons m ms => cases ds with
      | nil => cases m <;> exact h.elim
      | cons d0 ds =>
        have step : ios (m :: ms) (v :: vs) = ios ms vs → (∀ i, (entryR (m :: ms) (d0 :: ds) (ios ms vs))[i + 1]? = (entryR ms ds (ios ms vs))[i]?) → (∀ t κ d, (entryR (m :: ms) (d0 :: ds) (ios ms vs))[0]? ≠ some (.ow t κ d)) → ArgAt K F H O ms vs ds → i = j := fun hio h1' h2' h3' => by
          rw [hio] at e e' nd
          cases i with
          | zero => exact absurd e (h2' _ _ _)
          | succ i => cases j with
            | zero => exact absurd e' (h2' _ _ _)
            | succ j =>
              rw [h1'] at e e'
              exact congrArg (· + 1) (ih h3' nd e e' (by simpa using h1) (by simpa using h2))
        cases m with
        | fz => exact step (by cases v <;> rfl) (fun _ => by simp [entryR]) (fun _ _ _ => by simp [entryR]) h.2
        | rd => exact step (by cases v <;> rfl) (fun _ => by simp [entryR]) (fun _ _ _ => by simp [entryR]) h.2
        | io κ0 =>
          obtain ⟨⟨a0, rfl, h4, h5⟩, h3⟩ := h
          have nd : (a0 :: ios ms vs).Nodup := nd
          obtain ⟨ni, nd'⟩ := List.nodup_cons.mp nd
          cases i with
          | zero => cases j with
            | zero => rfl
            | succ j =>
              simp at h1; subst h1
              obtain ⟨w, q1, a', q2, _, _, _, q3⟩ := entry_get h3 (by simpa [entryR, ios] using e')
              have h2 : vs[j]? = some (.ref a0) := by simpa using h2
              rw [h2] at q1; cases q1; cases q2
              exact absurd q3 ni
          | succ i => cases j with
            | zero =>
              simp at h2; subst h2
              obtain ⟨w, q1, a', q2, _, _, _, q3⟩ := entry_get h3 (by simpa [entryR, ios] using e)
              have h1 : vs[i]? = some (.ref a0) := by simpa using h1
              rw [h1] at q1; cases q1; cases q2
              exact absurd q3 ni
            | succ j => exact congrArg (· + 1) (ih h3 nd' (by simpa [entryR, ios] using e) (by simpa [entryR, ios] using e') (by simpa using h1) (by simpa using h2))
theorem entry_len {O : Addr → Prop} {vs : List V} : ∀ {ms : List Md} {ds : List D}, ArgAt K F H O ms vs ds → (entryR ms ds (ios ms vs)).length = vs.length := by
  induction vs with
  | nil => intro ms ds h; cases ms with
    | nil => cases ds <;> rfl
    | cons m ms => cases m <;> exact h.elim
  | cons v vs ih => intro ms ds h; cases ms with
    | nil => exact h.elim
    | cons m ms => cases ds with
      | nil => cases m <;> exact h.elim
      | cons d ds => cases m with
        | fz =>
          have hio : ios (.fz :: ms) (v :: vs) = ios ms vs := by cases v <;> rfl
          rw [hio]; simp [entryR, ih h.2]
        | rd =>
          have hio : ios (.rd :: ms) (v :: vs) = ios ms vs := by cases v <;> rfl
          rw [hio]; simp [entryR, ih h.2]
        | io κ =>
          obtain ⟨⟨a0, rfl, h4, h5⟩, h3⟩ := h
          simp [entryR, ios, ih h3]
theorem entry_sta {ms : List Md} {vs : List V} {ds : List D} {N : List Str} (s : Ex F H) (h : ArgAt K F H (· ∈ ios ms vs) ms vs ds) (nd : (ios ms vs).Nodup) :
    Sta K F H (L2.start N vs) (entryR ms ds (ios ms vs) ++ List.replicate (N.length - ms.length) .un) ∧ ∀ b, OA (L2.start N vs) (entryR ms ds (ios ms vs) ++ List.replicate (N.length - ms.length) .un) b → b ∈ ios ms vs := by
  have hl := entry_len h
  obtain ⟨l1, _, _⟩ := arg_len h
  have cs : ∀ {i : Nat} {s : Slot}, (entryR ms ds (ios ms vs) ++ List.replicate (N.length - ms.length) .un)[i]? = some s → s ≠ .un → (entryR ms ds (ios ms vs))[i]? = some s := fun {i s} e n => by
    by_cases hi : i < (entryR ms ds (ios ms vs)).length
    · rw [List.getElem?_append_left hi] at e; exact e
    · rw [List.getElem?_append_right (by omega), List.getElem?_replicate] at e
      split at e
      · cases e; exact absurd rfl n
      · cases e
  have sv : ∀ {i : Nat} {v : V}, vs[i]? = some v → (L2.start N vs)[i]? = some (some v) := fun {i v} e => by
    have hi : i < vs.length := (List.getElem?_eq_some_iff.mp e).1
    unfold L2.start
    rw [List.getElem?_append_left (by simpa using hi), List.getElem?_map, e]
    rfl
  have oa : ∀ b, OA (L2.start N vs) (entryR ms ds (ios ms vs) ++ List.replicate (N.length - ms.length) .un) b → b ∈ ios ms vs := fun b ⟨i, t, κ, d, h1, h2⟩ => by
    obtain ⟨v, e1, a, e2, _, _, _, e3⟩ := entry_get h (cs h1 (fun z => by cases z))
    rw [sv e1] at h2
    cases h2
    cases e2
    exact e3
  refine ⟨⟨s, ?_, fun i d e => ?_, fun i d e => ?_, fun i t κ d e => ?_, fun i j t t' κ κ' d d' a e e' h1 h2 => ?_⟩, oa⟩
  · unfold L2.start
    simp [hl, l1]
  · obtain ⟨v, e1, e2⟩ := entry_get h (cs e (fun z => by cases z))
    exact ⟨v, sv e1, e2⟩
  · obtain ⟨v, e1, e2⟩ := entry_get h (cs e (fun z => by cases z))
    exact ⟨v, sv e1, RdN.imp e2 oa⟩
  · obtain ⟨v, e1, a, e2, e3, e4, e5, _⟩ := entry_get h (cs e (fun z => by cases z))
    subst e2
    exact ⟨a, sv e1, e4, e5, fun b z => by rw [e3] at z; cases z; rfl⟩
  · have q1 := cs e (fun z => by cases z)
    have q2 := cs e' (fun z => by cases z)
    obtain ⟨v, e1, _⟩ := entry_get h q1
    obtain ⟨v', e1', _⟩ := entry_get h q2
    rw [sv e1] at h1; cases h1
    rw [sv e1'] at h2; cases h2
    exact entry_inj h nd q1 q2 e1 e1'
theorem outR_ok {vs : List V} (S : Sta K F' H' σ' ρ') : ∀ {ms : List Md} {p : Nat} {k : List D → Prop}, vs.length = ms.length → (ios ms vs).length = nio ms → outR ms p (ios ms vs) ρ' k →
    ∃ os, k os ∧ OutAt K F' H' ms vs os ∧ ∀ a ∈ ios ms vs, ∃ (q : Nat) (κ : Kd) (d : D), ρ'[q]? = some (Slot.ow (some a) κ d) := by
  induction vs with
  | nil => intro ms p k l l2 h; cases ms with
    | nil => exact ⟨[], h, rfl, fun a z => by cases z⟩
    | cons m ms => simp at l
  | cons v vs ih => intro ms p k l l2 h; cases ms with
    | nil => simp at l
    | cons m ms =>
      have l' : vs.length = ms.length := by simpa using l
      cases m with
      | fz =>
        have hio : ios (.fz :: ms) (v :: vs) = ios ms vs := by cases v <;> rfl
        rw [hio] at h l2 ⊢
        exact ih l' l2 h
      | rd =>
        have hio : ios (.rd :: ms) (v :: vs) = ios ms vs := by cases v <;> rfl
        rw [hio] at h l2 ⊢
        exact ih l' l2 h
      | io κ =>
        have key : ∃ a0, v = .ref a0 := by
          cases v with
          | ref a0 => exact ⟨a0, rfl⟩
          | _ =>
            exfalso
            have l3 : (ios ms vs).length = nio ms + 1 := l2
            have : ∀ {vs : List V} {ms : List Md}, (ios ms vs).length ≤ nio ms := fun {vs} => by
              induction vs with
              | nil => intro ms; cases ms with
                | nil => exact Nat.le_refl _
                | cons m ms => cases m <;> exact Nat.zero_le _
              | cons v vs ih => intro ms; cases ms with
                | nil => exact Nat.le_refl _
                | cons m ms => cases m with
                  | fz => cases v <;> exact ih
                  | rd => cases v <;> exact ih
                  | io κ => cases v with
                    | ref a => exact Nat.succ_le_succ ih
                    | _ => exact Nat.le_succ_of_le ih
            have := @this vs ms
            omega
        obtain ⟨a0, rfl⟩ := key
        have h0 : match ρ'[p]? with
          | some (.ow (some b) κ' d) => b = a0 ∧ κ' = κ ∧ outR ms (p + 1) (ios ms vs) ρ' fun os => k (d :: os)
          | _ => False := h
        clear h
        split at h0
        · rename_i b κ' d e
          obtain ⟨e1, e2, h⟩ := h0
          subst e1 e2
          obtain ⟨os, hk, ho, ha⟩ := ih (k := fun os => k (d :: os)) l' (by simpa [ios, nio] using l2) h
          obtain ⟨a', g1, g2, g3, g4⟩ := S.ow p _ _ _ e
          have := g4 b rfl
          subst this
          refine ⟨d :: os, hk, ⟨⟨b, rfl, g2⟩, ho⟩, fun a z => ?_⟩
          rcases List.mem_cons.mp (show a ∈ b :: ios ms vs from z) with y | y
          · subst y; exact ⟨p, _, _, e⟩
          · exact ha a y
        · exact h0.elim
end
section
variable {P : Program} {w : World} {K : PySem.W.Frag} {mg : Str → Option Value} {base : Heap}
theorem fn_ok {x qual : Str} {st : Stmt} {f : Addr} {fd : FuncData} {N ps : List Str} {k : Nat} {ms : List Md} {ts : TSp} (Fu : Fun K x qual st f fd) (S : FnScope N ps (defScope st)) (hl : ms.length = ps.length) (b : DTS)
    (hb : ∀ (cdv : Value) (A : Around) (outer : List Env) (s : Shared) (H : Hp) (E : XK), Room k (A.deeper (PyProof.Rows.envOfC qual (defScope st) s.heap.objs.size f cdv)) → DSs (cxOf CX0 P w K mg base N qual (defScope st) f cdv A outer s H E).nox (defBody st) b)
    (sp : ∀ ds k as, ts ds k → ds.length = ms.length → as.length = nio ms → b { nx := finR ms as k (.fz .none), rt := finR ms as k } (entryR ms ds as ++ List.replicate (N.length - ms.length) .un)) :
    FnOk P w K mg base CX0 (k + 1) f fd ps (spT K ms ts) := by
  refine Fu.ok S (fun vs H Q E h => ?_) (fun cdv A outer s H vs Q E hr h => ?_)
  · obtain ⟨F, ds, k, _, ha, _⟩ := h
    rw [(arg_len ha).1, hl]
  · obtain ⟨F, ds, k, se, ha, nd, ht, hq⟩ := h
    obtain ⟨l1, l2, l3⟩ := arg_len ha
    obtain ⟨S0, oa⟩ := entry_sta (N := N) se ha nd
    have fin : ∀ r σ' ρ' v F' H', finR ms (ios ms vs) k r ρ' → Sta K F' H' σ' ρ' → Tr F H (L2.start N vs) (entryR ms ds (ios ms vs) ++ List.replicate (N.length - ms.length) .un) F' H' σ' ρ' → Fits K F' H' σ' ρ' H v r → Q v H' := fun r σ' ρ' v F' H' q S' T f => by
      obtain ⟨os, q, ho, ha'⟩ := outR_ok S' l1 l3 q
      have own : ∀ a ∈ ios ms vs, OA σ' ρ' a ∧ F' a = none ∧ ∃ (q : Nat) (κ : Kd) (d : D), ρ'[q]? = some (Slot.ow (some a) κ d) ∧ σ'[q]? = some (some (.ref a)) := fun a z => by
        obtain ⟨q, κ, d, e⟩ := ha' a z
        obtain ⟨a', g1, _, g3, g4⟩ := S'.ow q _ _ _ e
        have := g4 a rfl
        subst this
        exact ⟨⟨q, _, _, _, e, g1⟩, g3, q, κ, d, e, g1⟩
      have mk : ∀ z, k z os → (match z with
          | .fz d => Dp K F' v d
          | .tm κ d => ∃ a, v = .ref a ∧ OwAt K F' H' κ a d ∧ F' a = none ∧ H a = none
          | _ => False) → Q v H' := fun z hk ft => hq z os v F' H' hk ⟨T.fext, S'.sub, fun b o h n => T.keep b o h fun z => n (oa b z), T.there, (fun b o h => by
            rcases T.fnew b o h with y | y | y
            · exact .inl y
            · exact .inr y
            · rw [(own b (oa b y)).2.1] at h; cases h), ho, ft⟩
      cases r with
      | fz d => exact mk _ q f
      | tm κ d =>
        obtain ⟨a, e, g1, g2, _, g4⟩ := f
        exact mk _ q ⟨a, e, g1, g2, g4⟩
      | rd d => exact q.elim
      | bo i =>
        have f : σ'[i]? = some (some v) := f
        simp only at q
        split at q
        · rename_i κ d e
          obtain ⟨a, g1, g2, g3, g4⟩ := S'.ow i _ _ _ e
          rw [f] at g1; cases g1
          refine mk _ q ⟨a, rfl, g2, g3, ?_⟩
          rcases T.own a ⟨i, _, _, _, e, f⟩ with y | y
          · exfalso
            obtain ⟨_, _, p, κ', d', e1, e2⟩ := own a (oa a y)
            have := S'.inj i p _ _ _ _ _ _ a e e1 f e2
            subst this
            rw [e] at e1; cases e1
          · exact y
        · rename_i d e
          obtain ⟨v', g1, g2⟩ := S'.fz i d e
          rw [f] at g1; cases g1
          exact mk _ q g2
        · exact q.elim
    refine ⟨_, hb cdv A outer s H E hr, F, _, _, S0, sp ds k (ios ms vs) ht l2 l3, fun σ' ρ' F' H' q S' T => fin (.fz .none) σ' ρ' .non F' H' q S' T (show Dp K F' .non .none from .non), fun r σ' ρ' v F' H' q S' T f => fin r σ' ρ' v F' H' q S' T f, fun _ _ _ _ q => q.elim, fun _ _ _ _ q => q.elim⟩
end
end TL

-- part TL8
/-! TL8: operations and built-in functions over trees. -/
namespace TL
open PySem PySem.Spec L2
open Evl (Ex ex_l ex_t)

section
variable {K : PySem.W.Frag} {F F' H H' : Hp} {v w : V}
theorem RdAt.int {i : Int} (h : RdAt K F H v (.int i)) : v = .int i := by
  rcases h with h | ⟨κ, a, _, h⟩
  · cases h; rfl
  · cases κ <;> (obtain ⟨_, _, e, _⟩ := h; cases e)
theorem RdAt.bool {i : Bool} (h : RdAt K F H v (.bool i)) : v = .bl i := by
  rcases h with h | ⟨κ, a, _, h⟩
  · cases h; rfl
  · cases κ <;> (obtain ⟨_, _, e, _⟩ := h; cases e)
theorem RdAt.str {i : Str} (h : RdAt K F H v (.str i)) : v = .str i := by
  rcases h with h | ⟨κ, a, _, h⟩
  · cases h; rfl
  · cases κ <;> (obtain ⟨_, _, e, _⟩ := h; cases e)
theorem RdAt.non (h : RdAt K F H v .none) : v = .non := by
  rcases h with h | ⟨κ, a, _, h⟩
  · cases h; rfl
  · cases κ <;> (obtain ⟨_, _, e, _⟩ := h; cases e)
theorem RdAt.list {ds : List D} (s : Ex F H) (h : RdAt K F H v (.list ds)) : ∃ a xs, v = .ref a ∧ H a = some (.lst xs) ∧ DpAll K F xs ds := by
  rcases h with h | ⟨κ, a, rfl, h⟩
  · cases h with | lst h1 h2 => exact ⟨_, _, rfl, s _ _ h1, h2⟩
  · cases κ with
    | l => obtain ⟨xs, ds', e, h1, h2⟩ := h; cases e; exact ⟨a, xs, rfl, h1, h2⟩
    | k => obtain ⟨_, _, e, _⟩ := h; cases e
    | t => obtain ⟨_, _, e, _⟩ := h; cases e
theorem RdAt.tuple {ds : List D} (h : RdAt K F H v (.tuple ds)) : ∃ a xs, v = .ref a ∧ F a = some (.tup xs) ∧ DpAll K F xs ds ∧ Dp K F v (.tuple ds) := by
  rcases h with h | ⟨κ, a, _, h⟩
  · cases id h with | tup h1 h2 => exact ⟨_, _, rfl, h1, h2, h⟩
  · cases κ <;> (obtain ⟨_, _, e, _⟩ := h; cases e)
/-- what may be read, as the library's data -/
theorem RdAt.l2 {d : D} (s : Ex F H) (h : RdAt K F H v d) (hd : SeqAt.shaped d = true) : L2.Dp K H v d := by
  have c := SeqAt.canLay_of_shaped hd
  rcases h with h | ⟨κ, a, rfl, h⟩
  · exact dp_l2 s h c
  · cases κ with
    | l => obtain ⟨xs, ds', rfl, h1, h2⟩ := h; exact .lst (Evl.sq_of h1) (dpAll_l2 s h2 (by simpa [PyData.canLay0] using c))
    | k => obtain ⟨_, ps, rfl, _⟩ := h; simp [PyData.canLay0] at c
    | t => obtain ⟨_, ps, rfl, _⟩ := h; simp [PyData.canLay0] at c
end
section
variable {X : Cx}
/-- an answer that is a value without objects -/
theorem r2_val {K : PySem.W.Frag} {F H : Hp} {Q : VK} {k : Res → Prop} {d : D} {v : V} (s : Ex F H) (hk : k (.fz d)) (fin : ∀ z v F' H', k z → New K F H F' H' v z → Q v H') (dp : Dp K F v d) : Q v H := fin _ _ _ _ hk (New.val s dp)

/-! ### arithmetic -/
def okMul (a b : Int) : Prop := (-(2 ^ 64) < a ∧ a < 2 ^ 64) ∨ (-(2 ^ 64) < b ∧ b < 2 ^ 64)
@[simp] def gAdd : D → D → (Res → Prop) → Prop
  | .int a, .int b, k => k (.fz (.int (a + b)))
  | .str a, .str b, k => a.length + b.length ≤ sizeLine ∧ k (.fz (.str (a ++ b)))
  | .list a, .list b, k => a.length + b.length ≤ sizeLine ∧ k (.tm .l (.list (a ++ b)))
  | .tuple a, .tuple b, k => a.length + b.length ≤ sizeLine ∧ k (.fz (.tuple (a ++ b)))
  | _, _, _ => False
theorem op_gAdd : OpR X (binaryOp .Add) (r2 X.K gAdd) := by
  intro pins s σ H x y v u Q I rx ry ⟨F, dx, dy, k, se, hx, hy, g, fin⟩
  unfold gAdd at g
  split at g
  · rename_i a b
    cases hx.int; cases hy.int
    exact op_add pins s σ H _ _ v u Q I rx ry ⟨a, b, rfl, rfl, r2_val se g fin (.int _)⟩
  · rename_i a b
    cases hx.str; cases hy.str
    exact op_add_str pins s σ H _ _ v u Q I rx ry ⟨a, b, rfl, rfl, g.1, r2_val se g.2 fin (.str _)⟩
  · rename_i a b
    obtain ⟨la, xs, rfl, h1, h2⟩ := hx.list se
    obtain ⟨lb, ys, rfl, h3, h4⟩ := hy.list se
    exact op_cat pins s σ H _ _ v u Q I rx ry ⟨la, lb, xs, ys, rfl, rfl, h1, h3, by rw [dpAll_len h2, dpAll_len h4]; exact g.1, fun p hp => fin _ _ _ _ g.2 (New.list se hp (dpAll_app h2 h4))⟩
  · rename_i a b
    obtain ⟨la, xs, rfl, h1, h2, dx⟩ := hx.tuple
    obtain ⟨lb, ys, rfl, h3, h4, dy⟩ := hy.tuple
    refine op_catA pins s σ H _ _ v u Q I rx ry ⟨la, lb, xs, ys, rfl, rfl, Evl.st_of (se _ _ h1), Evl.st_of (se _ _ h3), by rw [dpAll_len h2, dpAll_len h4]; exact g.1, fun e => ?_, fun _ e => ?_, fun _ _ p hp => fin _ _ _ _ g.2 (New.tuple se hp (dpAll_app h2 h4))⟩
    · subst e
      cases h2
      exact fin _ _ _ _ g.2 (New.val se dy)
    · subst e
      cases h4
      rw [List.append_nil] at g
      exact fin _ _ _ _ g.2 (New.val se dx)
  · exact g.elim
theorem iop_of {op : Operator} {g : D → D → (Res → Prop) → Prop} (h : ∀ (pins : List (Addr × Obj)) (s : Shared) (σ : L2.St) (H : Hp) (x y : V) (v u : Value) (Q : VK), Inv X pins σ H s → RelV x v → RelV y u → r2 X.K g x y H Q → wpAny (model X.prog X.w) X.A (inplaceOp op v u) (EP X pins σ Q) X.xe s) : OpR X (inplaceOp op) (r2 X.K g) := h
@[simp] def gAddI : D → D → (Res → Prop) → Prop
  | .int a, .int b, k => k (.fz (.int (a + b)))
  | _, _, _ => False
theorem op_gAddI : OpR X (inplaceOp .Add) (r2 X.K gAddI) := by
  intro pins s σ H x y v u Q I rx ry ⟨F, dx, dy, k, se, hx, hy, g, fin⟩
  unfold gAddI at g
  split at g
  · rename_i a b
    cases hx.int; cases hy.int
    exact iop_add pins s σ H _ _ v u Q I rx ry ⟨a, b, rfl, rfl, r2_val se g fin (.int _)⟩
  · exact g.elim
@[simp] def gSub : D → D → (Res → Prop) → Prop
  | .int a, .int b, k => k (.fz (.int (a - b)))
  | _, _, _ => False
theorem op_gSub : OpR X (binaryOp .Sub) (r2 X.K gSub) := by
  intro pins s σ H x y v u Q I rx ry ⟨F, dx, dy, k, se, hx, hy, g, fin⟩
  unfold gSub at g
  split at g
  · rename_i a b
    cases hx.int; cases hy.int
    exact op_sub pins s σ H _ _ v u Q I rx ry ⟨a, b, rfl, rfl, r2_val se g fin (.int _)⟩
  · exact g.elim
@[simp] def gMul : D → D → (Res → Prop) → Prop
  | .int a, .int b, k => okMul a b ∧ k (.fz (.int (a * b)))
  | .list a, .int b, k => (-(2 ^ 63) ≤ b ∧ b < 2 ^ 63 ∧ a.length * b.toNat ≤ sizeLine) ∧ k (.tm .l (.list (List.replicate b.toNat a).flatten))
  | _, _, _ => False
theorem dpAll_rep {K : PySem.W.Frag} {F : Hp} {xs : List V} {ds : List D} (h : DpAll K F xs ds) : ∀ n : Nat, DpAll K F (List.replicate n xs).flatten (List.replicate n ds).flatten
  | 0 => .nil
  | n + 1 => by
    rw [List.replicate_succ, List.replicate_succ, List.flatten_cons, List.flatten_cons]
    exact dpAll_app h (dpAll_rep h n)
theorem op_gMul : OpR X (binaryOp .Mult) (r2 X.K gMul) := by
  intro pins s σ H x y v u Q I rx ry ⟨F, dx, dy, k, se, hx, hy, g, fin⟩
  unfold gMul at g
  split at g
  · rename_i a b
    cases hx.int; cases hy.int
    exact op_mul pins s σ H _ _ v u Q I rx ry ⟨a, b, rfl, rfl, g.1, r2_val se g.2 fin (.int _)⟩
  · rename_i a b
    obtain ⟨la, xs, rfl, h1, h2⟩ := hx.list se
    cases hy.int
    exact op_rep pins s σ H _ _ v u Q I rx ry ⟨la, b, xs, rfl, rfl, h1, g.1.1, g.1.2.1, by rw [dpAll_len h2]; exact g.1.2.2, fun p hp => fin _ _ _ _ g.2 (New.list se hp (dpAll_rep h2 _))⟩
  · exact g.elim
/-- by a divisor above 0 -/
@[simp] def gFdiv : D → D → (Res → Prop) → Prop
  | .int a, .int b, k => (0 < b ∧ b < 1073741824) ∧ k (.fz (.int (a / b)))
  | _, _, _ => False
theorem op_gFdiv : OpR X (binaryOp .FloorDiv) (r2 X.K gFdiv) := by
  intro pins s σ H x y v u Q I rx ry ⟨F, dx, dy, k, se, hx, hy, g, fin⟩
  unfold gFdiv at g
  split at g
  · rename_i a b
    cases hx.int; cases hy.int
    exact op_fdiv pins s σ H _ _ v u Q I rx ry ⟨a, b, rfl, rfl, g.1, r2_val se g.2 fin (.int _)⟩
  · exact g.elim
@[simp] def gMod : D → D → (Res → Prop) → Prop
  | .int a, .int b, k => 0 < b ∧ k (.fz (.int (a % b)))
  | _, _, _ => False
theorem op_gMod : OpR X (binaryOp .Mod) (r2 X.K gMod) := by
  intro pins s σ H x y v u Q I rx ry ⟨F, dx, dy, k, se, hx, hy, g, fin⟩
  unfold gMod at g
  split at g
  · rename_i a b
    cases hx.int; cases hy.int
    exact op_mod pins s σ H _ _ v u Q I rx ry ⟨a, b, rfl, rfl, g.1, r2_val se g.2 fin (.int _)⟩
  · exact g.elim
@[simp] def gPow : D → D → (Res → Prop) → Prop
  | .int a, .int b, k => (0 ≤ b ∧ b ≤ 1000000 ∧ a.natAbs < 2 ^ 64) ∧ k (.fz (.int (a ^ b.toNat)))
  | _, _, _ => False
theorem op_gPow : OpR X (binaryOp .Pow) (r2 X.K gPow) := by
  intro pins s σ H x y v u Q I rx ry ⟨F, dx, dy, k, se, hx, hy, g, fin⟩
  unfold gPow at g
  split at g
  · rename_i a b
    cases hx.int; cases hy.int
    exact op_pow pins s σ H _ _ v u Q I rx ry ⟨a, b, rfl, rfl, g.1, r2_val se g.2 fin (.int _)⟩
  · exact g.elim
@[simp] def gNeg : D → (Res → Prop) → Prop
  | .int a, k => k (.fz (.int (-a)))
  | _, _ => False
theorem un_gNeg : UnR X (unaryOp .USub) (r1 X.K gNeg) := by
  intro pins s σ H x v Q I rx ⟨F, dx, k, se, hx, g, fin⟩
  unfold gNeg at g
  split at g
  · rename_i a
    cases hx.int
    exact un_neg pins s σ H _ v Q I rx ⟨a, rfl, r2_val se g fin (.int _)⟩
  · exact g.elim

/-! ### comparisons -/
@[simp] def gCmp (p : Int → Int → Bool) : D → D → (Res → Prop) → Prop
  | .int a, .int b, k => k (.fz (.bool (p a b)))
  | _, _, _ => False
theorem op_gCmp {op : CmpOp} {p : Int → Int → Bool} (h : OpR X (compareOp op) (rI0 fun i j => .bl (p i j))) : OpR X (compareOp op) (r2 X.K (gCmp p)) := by
  intro pins s σ H x y v u Q I rx ry ⟨F, dx, dy, k, se, hx, hy, g, fin⟩
  unfold gCmp at g
  split at g
  · rename_i a b
    cases hx.int; cases hy.int
    exact h pins s σ H _ _ v u Q I rx ry ⟨a, b, rfl, rfl, r2_val se g fin (.bl _)⟩
  · exact g.elim
@[simp] abbrev gLt := gCmp fun i j => decide (i < j)
@[simp] abbrev gLe := gCmp fun i j => decide (i ≤ j)
@[simp] abbrev gGt := gCmp fun i j => decide (j < i)
@[simp] abbrev gGe := gCmp fun i j => decide (j ≤ i)
theorem op_gLt : OpR X (compareOp .Lt) (r2 X.K gLt) := op_gCmp op_lt
theorem op_gLe : OpR X (compareOp .LtE) (r2 X.K gLe) := op_gCmp op_le
theorem op_gGt : OpR X (compareOp .Gt) (r2 X.K gGt) := op_gCmp op_gt
theorem op_gGe : OpR X (compareOp .GtE) (r2 X.K gGe) := op_gCmp op_ge
/-- data without dicts, not too deep -/
def Sh (d : D) : Prop := SeqAt.shaped d = true
theorem Sh.nd {d : D} (h : Sh d) : ∀ ps, d ≠ .dict ps := fun ps e => by
  subst e
  have : (PyData.canLay0 (.dict ps) && decide (PyData.depth (.dict ps) ≤ 64)) = true := h
  simp [PyData.canLay0] at this
@[simp] def gEq (d e : D) (k : Res → Prop) : Prop := Sh d ∧ Sh e ∧ k (.fz (.bool (PyData.eqv d e)))
@[simp] def gNe (d e : D) (k : Res → Prop) : Prop := Sh d ∧ Sh e ∧ k (.fz (.bool (!PyData.eqv d e)))
theorem op_gEq (hu : X.A.units + 64 < cLine) : OpR X (compareOp .Eq) (r2 X.K gEq) := by
  intro pins s σ H x y v u Q I rx ry ⟨F, dx, dy, k, se, hx, hy, ⟨s1, s2, g⟩, fin⟩
  exact op_eqD hu pins s σ H _ _ v u Q I rx ry ⟨dx, dy, hx.l2 se s1, hy.l2 se s2, s1, s2, r2_val se g fin (.bl _)⟩
theorem op_gNe (hu : X.A.units + 64 < cLine) : OpR X (compareOp .NotEq) (r2 X.K gNe) := by
  intro pins s σ H x y v u Q I rx ry ⟨F, dx, dy, k, se, hx, hy, ⟨s1, s2, g⟩, fin⟩
  exact op_neD hu pins s σ H _ _ v u Q I rx ry ⟨dx, dy, hx.l2 se s1, hy.l2 se s2, s1, s2, r2_val se g fin (.bl _)⟩
end
/-! truth values compared by is -/
section
variable {X : Cx}
def gIsB (b : Bool) (d : D) (k : Res → Prop) : Prop := match d with
  | .bool c => k (.fz (.bool (c == b)))
  | _ => k (.fz (.bool false))
end
end TL

-- part TL9
/-! TL9: calls of built-ins, subscripts, slices, methods, stores over trees. -/
namespace TL
open PySem PySem.Spec L2
open Evl (Ex ex_l ex_t)

@[simp] def wcs : List Res → List Slot → (List D → Prop) → Prop
  | [], _, k => k []
  | r :: rs, ρ, k => wc r ρ fun d => wcs rs ρ fun ds => k (d :: ds)
section
variable {K : PySem.W.Frag} {F F' F0 H H' H0 H1 : Hp} {σ : L2.St} {ρ ρ' ρ0 : List Slot}
theorem wcs_rd {vs : List V} : ∀ {rs : List Res} {k : List D → Prop}, Sta K F H σ ρ → FitsAll K F H σ ρ H0 vs rs → wcs rs ρ k → ∃ ds, RdAll K F H vs ds ∧ k ds := by
  induction vs with
  | nil => intro rs k S f h; cases rs with
    | nil => exact ⟨[], .nil, h⟩
    | cons => exact f.elim
  | cons v vs ih => intro rs k S f h; cases rs with
    | nil => exact f.elim
    | cons r rs =>
      obtain ⟨d, h1, h⟩ := wc_rd S f.1 h
      obtain ⟨ds, h2, h⟩ := ih S f.2 h
      exact ⟨d :: ds, .cons h1 h2, h⟩
end
/-! ### f(..), f a built-in -/
@[simp] def dFn (g : List D → (Res → Prop) → Prop) (da : DTA) : DTE := fun ρ k => da ρ fun rs ρ1 => wcs rs ρ1 fun ds => g ds fun z => k z ρ1
section
variable {X : Cx} {x : Str} {id T : String} {e : Expr} {es : List Expr} {da : DTA} {d1 d2 : DTE} {p pos : Pos} {g : List D → (Res → Prop) → Prop}
theorem up_fn {K : PySem.W.Frag} {σ : L2.St} {H : Hp} {Q : VK} (h : up K (dFn g da) σ H Q) : tCB (rn K g) (upA K da) σ H Q := by
  obtain ⟨F, ρ, k, S, q, fin⟩ := h
  refine ⟨F, ρ, _, S, q, fun rs ρ1 vs F1 H1 q S1 T1 f => ?_⟩
  obtain ⟨ds, rd, q⟩ := wcs_rd S1 f q
  exact ⟨F1, ds, _, S1.sub, rd, q, fun z v F' H' kz n => fin z ρ1 v F' H' kz (n.sta S1) (T1.trans n.tr) (n.fits S1 fun _ z => T1.none z)⟩
theorem de_fnB (hc : CallR X (.builtin id) (rn X.K g)) (hg : Gl X x) (hm : X.mg x = none) (hv : bootBuiltins x = some (.builtin id)) (ha : DA X (e :: es) da) (hn : x ≠ "__name__" := by decide) (hdb : (x == ("__debug__" : Str)) = false := by decide)
    (he : starEach (e :: es) X.env = (false, eval e X.env) :: starEach es X.env := by rfl) (hpl : (backTo pos (starEach es X.env)).any (·.1) = false := by rfl) : DE X (.Call (.Name x p) (e :: es) [] pos) (dFn g da) :=
  PE.le (pe_callB hc hg hm hv ha hn hdb he hpl) fun σ H Q h => up_fn h
theorem de_fnT (hc : CallR X (.type T) (rn X.K g)) (hg : Gl X x) (hm : X.mg x = none) (hv : bootBuiltins x = some (.type T)) (ha : DA X (e :: es) da) (hn : x ≠ "__name__" := by decide) (hdb : (x == ("__debug__" : Str)) = false := by decide)
    (he : starEach (e :: es) X.env = (false, eval e X.env) :: starEach es X.env := by rfl) (hpl : (backTo pos (starEach es X.env)).any (·.1) = false := by rfl) : DE X (.Call (.Name x p) (e :: es) [] pos) (dFn g da) :=
  PE.le (pe_callTy hc hg hm hv ha hn hdb he hpl) fun σ H Q h => up_fn h
/-- a built-in of the module's own import (from math import gcd) -/
theorem RdAll.one {K : PySem.W.Frag} {F H : Hp} {vs : List V} {d : D} (h : RdAll K F H vs [d]) : ∃ v, vs = [v] ∧ RdAt K F H v d := by
  cases h with | cons h1 h2 => cases h2; exact ⟨_, rfl, h1⟩
theorem RdAll.two {K : PySem.W.Frag} {F H : Hp} {vs : List V} {d e : D} (h : RdAll K F H vs [d, e]) : ∃ v w, vs = [v, w] ∧ RdAt K F H v d ∧ RdAt K F H w e := by
  cases h with | cons h1 h2 => cases h2 with | cons h2 h3 => cases h3; exact ⟨_, _, rfl, h1, h2⟩

@[simp] def gLen : List D → (Res → Prop) → Prop
  | [.list ds], k => k (.fz (.int ds.length))
  | [.tuple ds], k => k (.fz (.int ds.length))
  | [.str z], k => z.length ≤ sizeLine ∧ k (.fz (.int z.length))
  | _, _ => False
theorem cr_gLen : CallR X (.builtin "len") (rn X.K gLen) := by
  intro pins s σ H xs us Q I r ⟨F, ds, k, se, rd, g, fin⟩
  unfold gLen at g
  split at g
  · obtain ⟨v, rfl, h⟩ := rd.one
    obtain ⟨a, ys, rfl, h1, h2⟩ := h.list se
    exact call_len_seq pins s σ H _ us Q I r ⟨a, ys, rfl, .inl (Evl.sq_of h1), by rw [dpAll_len h2]; exact r2_val se g fin (.int _)⟩
  · obtain ⟨v, rfl, h⟩ := rd.one
    obtain ⟨a, ys, rfl, h1, h2, _⟩ := h.tuple
    exact call_len_seq pins s σ H _ us Q I r ⟨a, ys, rfl, .inr (Evl.st_of (se _ _ h1)), by rw [dpAll_len h2]; exact r2_val se g fin (.int _)⟩
  · obtain ⟨v, rfl, h⟩ := rd.one
    cases h.str
    exact call_len_str pins s σ H _ us Q I r ⟨_, rfl, g.1, r2_val se g.2 fin (.int _)⟩
  · exact g.elim
@[simp] def gListOf : List D → (Res → Prop) → Prop
  | [.list ds], k => k (.tm .l (.list ds))
  | [.tuple ds], k => k (.tm .l (.list ds))
  | _, _ => False
theorem cr_gListOf : CallR X (.type "list") (rn X.K gListOf) := by
  intro pins s σ H xs us Q I r ⟨F, ds, k, se, rd, g, fin⟩
  unfold gListOf at g
  split at g
  · obtain ⟨v, rfl, h⟩ := rd.one
    obtain ⟨a, ys, rfl, h1, h2⟩ := h.list se
    exact call_list_of pins s σ H _ us Q I r ⟨a, ys, rfl, .inl (Evl.sq_of h1), fun l hl => fin _ _ _ _ g (New.list se hl h2)⟩
  · obtain ⟨v, rfl, h⟩ := rd.one
    obtain ⟨a, ys, rfl, h1, h2, _⟩ := h.tuple
    exact call_list_of pins s σ H _ us Q I r ⟨a, ys, rfl, .inr (Evl.st_of (se _ _ h1)), fun l hl => fin _ _ _ _ g (New.list se hl h2)⟩
  · exact g.elim
@[simp] def gTupleOf : List D → (Res → Prop) → Prop
  | [.list ds], k => k (.fz (.tuple ds))
  | [.tuple ds], k => k (.fz (.tuple ds))
  | _, _ => False
theorem cr_gTupleOf : CallR X (.type "tuple") (rn X.K gTupleOf) := by
  intro pins s σ H xs us Q I r ⟨F, ds, k, se, rd, g, fin⟩
  unfold gTupleOf at g
  split at g
  · obtain ⟨v, rfl, h⟩ := rd.one
    obtain ⟨a, ys, rfl, h1, h2⟩ := h.list se
    exact call_tuple_of pins s σ H _ us Q I r ⟨a, ys, rfl, .inl ⟨Evl.sq_of h1, fun l hl => fin _ _ _ _ g (New.tuple se hl h2)⟩⟩
  · obtain ⟨v, rfl, h⟩ := rd.one
    obtain ⟨a, ys, rfl, h1, h2, dp⟩ := h.tuple
    exact call_tuple_of pins s σ H _ us Q I r ⟨a, ys, rfl, .inr ⟨Evl.st_of (se _ _ h1), r2_val se g fin dp⟩⟩
  · exact g.elim
/-- int(n), int(flag) -/
@[simp] def gInt : List D → (Res → Prop) → Prop
  | [.int i], k => k (.fz (.int i))
  | [.bool b], k => k (.fz (.int (if b then 1 else 0)))
  | _, _ => False
theorem cr_gInt : CallR X (.type "int") (rn X.K gInt) := by
  intro pins s σ H xs us Q I r ⟨F, ds, k, se, rd, g, fin⟩
  unfold gInt at g
  split at g
  · obtain ⟨v, rfl, h⟩ := rd.one
    cases h.int
    exact call_int1 pins s σ H _ us Q I r (.inl ⟨_, rfl, r2_val se g fin (.int _)⟩)
  · obtain ⟨v, rfl, h⟩ := rd.one
    cases h.bool
    exact call_int1 pins s σ H _ us Q I r (.inr ⟨_, rfl, r2_val se g fin (.int _)⟩)
  · exact g.elim
@[simp] def gAbs : List D → (Res → Prop) → Prop
  | [.int i], k => k (.fz (.int (if i < 0 then -i else i)))
  | _, _ => False
theorem cr_gAbs : CallR X (.builtin "abs") (rn X.K gAbs) := by
  intro pins s σ H xs us Q I r ⟨F, ds, k, se, rd, g, fin⟩
  unfold gAbs at g
  split at g
  · obtain ⟨v, rfl, h⟩ := rd.one
    cases h.int
    exact call_abs pins s σ H _ us Q I r ⟨_, rfl, r2_val se g fin (.int _)⟩
  · exact g.elim
@[simp] def gStrI : List D → (Res → Prop) → Prop
  | [.int i], k => i.natAbs.log2 < 1920 ∧ k (.fz (.str (toString i)))
  | [.str z], k => k (.fz (.str z))
  | _, _ => False
theorem cr_gStrI : CallR X (.type "str") (rn X.K gStrI) := by
  intro pins s σ H xs us Q I r ⟨F, ds, k, se, rd, g, fin⟩
  unfold gStrI at g
  split at g
  · obtain ⟨v, rfl, h⟩ := rd.one
    cases h.int
    exact call_str_int pins s σ H _ us Q I r ⟨_, rfl, g.1, r2_val se g.2 fin (.str _)⟩
  · obtain ⟨v, rfl, h⟩ := rd.one
    cases h.str
    exact SkE.call_str_str pins s σ H _ us Q I r ⟨_, rfl, r2_val se g fin (.str _)⟩
  · exact g.elim
/-- the ints of a list, if it holds no other things -/
def intsOf : List D → Option (List Int)
  | [] => some []
  | .int i :: ds => (intsOf ds).map (i :: ·)
  | _ :: _ => none
theorem intsOf_eq : ∀ {ds : List D} {ns : List Int}, intsOf ds = some ns → ds = ns.map .int
  | [], ns, h => by cases h; rfl
  | d :: ds, ns, h => by
    cases d with
    | int i =>
      unfold intsOf at h
      cases e : intsOf ds with
      | none => rw [e] at h; cases h
      | some ms => rw [e] at h; cases h; rw [intsOf_eq e]; rfl
    | _ => cases h
@[simp] theorem intsOf_map : ∀ ns : List Int, intsOf (ns.map .int) = some ns
  | [] => rfl
  | n :: ns => by rw [List.map_cons, intsOf, intsOf_map ns]; rfl
def boolsOf : List D → Option (List Bool)
  | [] => some []
  | .bool i :: ds => (boolsOf ds).map (i :: ·)
  | _ :: _ => none
theorem boolsOf_eq : ∀ {ds : List D} {ns : List Bool}, boolsOf ds = some ns → ds = ns.map .bool
  | [], ns, h => by cases h; rfl
  | d :: ds, ns, h => by
    cases d with
    | bool i =>
      unfold boolsOf at h
      cases e : boolsOf ds with
      | none => rw [e] at h; cases h
      | some ms => rw [e] at h; cases h; rw [boolsOf_eq e]; rfl
    | _ => cases h
@[simp] theorem boolsOf_map : ∀ ns : List Bool, boolsOf (ns.map .bool) = some ns
  | [] => rfl
  | n :: ns => by rw [List.map_cons, boolsOf, boolsOf_map ns]; rfl
theorem dpAll_bools {K : PySem.W.Frag} {F : Hp} : ∀ {vs : List V} {ns : List Bool}, DpAll K F vs (ns.map .bool) → vs = ns.map .bl
  | _, [], .nil => rfl
  | _, n :: ns, .cons h hs => by cases h; rw [dpAll_bools hs]; rfl
@[simp] def gSum : List D → (Res → Prop) → Prop
  | [.list ds], k => ∃ ns, intsOf ds = some ns ∧ k (.fz (.int ns.sum))
  | _, _ => False
theorem cr_gSum (hc : X.calm = true) : CallR X (.builtin "sum") (rn X.K gSum) := by
  intro pins s σ H xs us Q I r ⟨F, ds, k, se, rd, g, fin⟩
  unfold gSum at g
  split at g
  · obtain ⟨v, rfl, h⟩ := rd.one
    obtain ⟨ns, e, g⟩ := g
    obtain ⟨a, ys, rfl, h1, h2⟩ := h.list se
    rw [intsOf_eq e] at h2
    rw [dpAll_ints h2] at h1
    exact cr_sum hc pins s σ H _ us Q I r ⟨a, ns, rfl, Evl.sq_of h1, r2_val se g fin (.int _)⟩
  · exact g.elim
@[simp] def gAll : List D → (Res → Prop) → Prop
  | [.list ds], k => ∃ ns, boolsOf ds = some ns ∧ k (.fz (.bool (ns.all fun b => b)))
  | _, _ => False
theorem cr_gAll (hc : X.calm = true) : CallR X (.builtin "all") (rn X.K gAll) := by
  intro pins s σ H xs us Q I r ⟨F, ds, k, se, rd, g, fin⟩
  unfold gAll at g
  split at g
  · obtain ⟨v, rfl, h⟩ := rd.one
    obtain ⟨ns, e, g⟩ := g
    obtain ⟨a, ys, rfl, h1, h2⟩ := h.list se
    rw [boolsOf_eq e] at h2
    rw [dpAll_bools h2] at h1
    exact cr_all hc pins s σ H _ us Q I r ⟨a, ns, rfl, Evl.sq_of h1, r2_val se g fin (.bl _)⟩
  · exact g.elim
@[simp] def gAny : List D → (Res → Prop) → Prop
  | [.list ds], k => ∃ ns, boolsOf ds = some ns ∧ k (.fz (.bool (ns.any fun b => b)))
  | _, _ => False
theorem cr_gAny (hc : X.calm = true) : CallR X (.builtin "any") (rn X.K gAny) := by
  intro pins s σ H xs us Q I r ⟨F, ds, k, se, rd, g, fin⟩
  unfold gAny at g
  split at g
  · obtain ⟨v, rfl, h⟩ := rd.one
    obtain ⟨ns, e, g⟩ := g
    obtain ⟨a, ys, rfl, h1, h2⟩ := h.list se
    rw [boolsOf_eq e] at h2
    rw [dpAll_bools h2] at h1
    exact cr_any hc pins s σ H _ us Q I r ⟨a, ns, rfl, Evl.sq_of h1, r2_val se g fin (.bl _)⟩
  · exact g.elim
/-- max, min of a list of ints, or of two ints -/
@[simp] def gMax : List D → (Res → Prop) → Prop
  | [.list ds], k => ∃ ns, intsOf ds = some ns ∧ 0 < ns.length ∧ ∀ m, m ∈ ns → (∀ y, y ∈ ns → y ≤ m) → k (.fz (.int m))
  | [.int i, .int j], k => k (.fz (.int (if j > i then j else i)))
  | _, _ => False
theorem cr_gMax (hc : X.calm = true) : CallR X (.builtin "max") (rn X.K gMax) := by
  intro pins s σ H xs us Q I r ⟨F, ds, k, se, rd, g, fin⟩
  unfold gMax at g
  split at g
  · obtain ⟨v, rfl, h⟩ := rd.one
    obtain ⟨ns, e, hl, g⟩ := g
    obtain ⟨a, ys, rfl, h1, h2⟩ := h.list se
    rw [intsOf_eq e] at h2
    rw [dpAll_ints h2] at h1
    exact cr_max hc pins s σ H _ us Q I r ⟨a, ns, rfl, Evl.sq_of h1, hl, fun m hm hy => r2_val se (g m hm hy) fin (.int _)⟩
  · obtain ⟨v, w, rfl, h, h'⟩ := rd.two
    cases h.int; cases h'.int
    exact call_max2 hc pins s σ H _ us Q I r ⟨_, _, rfl, r2_val se g fin (.int _)⟩
  · exact g.elim
@[simp] def gMin : List D → (Res → Prop) → Prop
  | [.list ds], k => ∃ ns, intsOf ds = some ns ∧ 0 < ns.length ∧ ∀ m, m ∈ ns → (∀ y, y ∈ ns → m ≤ y) → k (.fz (.int m))
  | [.int i, .int j], k => k (.fz (.int (if j < i then j else i)))
  | _, _ => False
theorem cr_gMin (hc : X.calm = true) : CallR X (.builtin "min") (rn X.K gMin) := by
  intro pins s σ H xs us Q I r ⟨F, ds, k, se, rd, g, fin⟩
  unfold gMin at g
  split at g
  · obtain ⟨v, rfl, h⟩ := rd.one
    obtain ⟨ns, e, hl, g⟩ := g
    obtain ⟨a, ys, rfl, h1, h2⟩ := h.list se
    rw [intsOf_eq e] at h2
    rw [dpAll_ints h2] at h1
    exact cr_min hc pins s σ H _ us Q I r ⟨a, ns, rfl, Evl.sq_of h1, hl, fun m hm hy => r2_val se (g m hm hy) fin (.int _)⟩
  · obtain ⟨v, w, rfl, h, h'⟩ := rd.two
    cases h.int; cases h'.int
    exact call_min2 hc pins s σ H _ us Q I r ⟨_, _, rfl, r2_val se g fin (.int _)⟩
  · exact g.elim
/-- sorted of ints -/
@[simp] def gSortI : List D → (Res → Prop) → Prop
  | [.list ds], k => ∃ ns, intsOf ds = some ns ∧ ∀ ms : List Int, ms.Perm ns → ms.Pairwise (· ≤ ·) → k (.tm .l (.list (ms.map .int)))
  | _, _ => False
theorem cr_gSortI : CallR X (.builtin "sorted") (rn X.K gSortI) := by
  intro pins s σ H xs us Q I r ⟨F, ds, k, se, rd, g, fin⟩
  unfold gSortI at g
  split at g
  · obtain ⟨v, rfl, h⟩ := rd.one
    obtain ⟨ns, e, g⟩ := g
    obtain ⟨a, ys, rfl, h1, h2⟩ := h.list se
    rw [intsOf_eq e] at h2
    rw [dpAll_ints h2] at h1
    exact cr_sortedI pins s σ H _ us Q I r ⟨a, ns, rfl, Evl.sq_of h1, fun ms p hm hs hp => fin _ _ _ _ (g ms hm hs) (New.list se hp (dpAll_ints_mk ms))⟩
  · exact g.elim

/-! ### subscripts -/
@[simp] def gIx : D → D → (Res → Prop) → Prop
  | .list ds, .int i, k => ∃ d, atI ds i = some d ∧ k (.fz d)
  | .tuple ds, .int i, k => ∃ d, atI ds i = some d ∧ k (.fz d)
  | .str z, .int i, k => z.length ≤ sizeLine ∧ ∃ c, atI z.cps.toList i = some c ∧ k (.fz (.str ⟨#[c]⟩))
  | _, _, _ => False
theorem atI_dp {K : PySem.W.Frag} {F : Hp} {xs : List V} {ds : List D} {i : Int} {d : D} (h : DpAll K F xs ds) (e : atI ds i = some d) : ∃ v, atI xs i = some v ∧ Dp K F v d := by
  unfold atI at e ⊢
  rw [dpAll_len h]
  cases hj : ixN ds.length i with
  | none => rw [hj] at e; cases e
  | some j =>
    rw [hj] at e
    obtain ⟨v, h1, h2⟩ := dpAll_get' h (show ds[j]? = some d from e)
    exact ⟨v, h1, h2⟩
theorem de_ix {a b : Expr} {da db : DTE} (ha : DE X a da) (hb : DE X b db) (hs : PlainIx b := by intro _ _; rfl) : DE X (.Subscript a b pos) (dBin gIx da db) :=
  PE.le (pe_ix ix_seq ha hb hs) fun σ H Q ⟨F, ρ, k, S, q, fin⟩ => up2 S q fun x y ρ' v u F' H' q S' T f1 f2 => by
    obtain ⟨dx, r1, q⟩ := wc_rd S' f1 q
    obtain ⟨dy, r2, q⟩ := wc_rd S' f2 q
    unfold gIx at q
    split at q
    · obtain ⟨d, e, q⟩ := q
      obtain ⟨l, xs, rfl, h1, h2⟩ := r1.list S'.sub
      cases r2.int
      obtain ⟨w, e', dp⟩ := atI_dp h2 e
      exact .inl ⟨l, xs, _, w, rfl, rfl, Evl.sq_of h1, e', fin _ _ _ _ _ q S' T dp⟩
    · obtain ⟨d, e, q⟩ := q
      obtain ⟨l, xs, rfl, h1, h2, _⟩ := r1.tuple
      cases r2.int
      obtain ⟨w, e', dp⟩ := atI_dp h2 e
      exact .inr (.inl ⟨l, xs, _, w, rfl, rfl, Evl.st_of (S'.sub _ _ h1), e', fin _ _ _ _ _ q S' T dp⟩)
    · obtain ⟨z, c, e, q⟩ := q
      cases r1.str
      cases r2.int
      exact .inr (.inr ⟨_, _, c, rfl, rfl, z, e, fin _ _ _ _ _ q S' T (.str _)⟩)
    · exact q.elim
/-! slices -/
abbrev DTO := List Slot → (Option Int → List Slot → Prop) → Prop
def upO (K : PySem.W.Frag) (d : DTO) : TO := fun σ H Q => ∃ F ρ k, Sta K F H σ ρ ∧ d ρ k ∧ ∀ o ρ' F' H', k o ρ' → Sta K F' H' σ ρ' → TrX F H σ ρ F' H' ρ' → Q o H'
def DO (X : Cx) (e : Option Expr) (d : DTO) : Prop := PO X e (upO X.K d)
theorem PO.le {e : Option Expr} {t u : TO} (h : PO X e t) (w : ∀ σ H Q, u σ H Q → t σ H Q) : PO X e u := ⟨fun pins s σ H Q I q => h.run pins s σ H Q I (w _ _ _ q)⟩
@[simp] def dNo : DTO := fun ρ k => k none ρ
@[simp] def dSo (da : DTE) : DTO := fun ρ k => da ρ fun r ρ1 => wc r ρ1 fun d => match d with | .int i => k (some i) ρ1 | _ => False
theorem do_none : DO X none dNo := PO.le po_none fun σ H Q ⟨F, ρ, k, S, q, fin⟩ => fin _ _ F H q S .refl
theorem do_some {da : DTE} (h : DE X e da) : DO X (some e) (dSo da) := PO.le (po_some h) fun σ H Q ⟨F, ρ, k, S, q, fin⟩ => ⟨F, ρ, _, S, q, fun r ρ1 v F1 H1 q S1 T1 f => by
  obtain ⟨d, rd, q⟩ := wc_rd S1 f q
  split at q
  · cases rd.int
    exact ⟨_, rfl, fin _ _ _ _ q S1 T1⟩
  · exact q.elim⟩
def cutD {α : Type} (xs : List α) (lo hi : Option Int) : List α := (xs.drop (HT.sIx xs.length 0 lo)).take (HT.sIx xs.length xs.length hi - HT.sIx xs.length 0 lo)
@[simp] def gSl (d : D) (lo hi : Option Int) (k : Res → Prop) : Prop := match d with
  | .list ds => k (.tm .l (.list (cutD ds lo hi)))
  | .tuple ds => k (.fz (.tuple (cutD ds lo hi)))
  | .str z => z.length ≤ sizeLine ∧ k (.fz (.str (cutS z lo hi)))
  | _ => False
@[simp] def dSl (da : DTE) (dl du : DTO) : DTE := fun ρ k => da ρ fun r ρ1 => dl ρ1 fun l ρ2 => du ρ2 fun u ρ3 => wc r ρ3 fun d => gSl d l u fun z => k z ρ3
theorem dpAll_take {K : PySem.W.Frag} {F : Hp} : ∀ {vs : List V} {ds : List D} (n : Nat), DpAll K F vs ds → DpAll K F (vs.take n) (ds.take n)
  | _, _, 0, _ => by simp; exact .nil
  | _, _, _ + 1, .nil => .nil
  | _, _, n + 1, .cons h hs => .cons h (dpAll_take n hs)
theorem dpAll_drop {K : PySem.W.Frag} {F : Hp} : ∀ {vs : List V} {ds : List D} (n : Nat), DpAll K F vs ds → DpAll K F (vs.drop n) (ds.drop n)
  | _, _, 0, h => h
  | _, _, _ + 1, .nil => .nil
  | _, _, n + 1, .cons h hs => dpAll_drop n hs
theorem dpAll_cut {K : PySem.W.Frag} {F : Hp} {vs : List V} {ds : List D} {lo hi : Option Int} (h : DpAll K F vs ds) : DpAll K F (cutV vs lo hi) (cutD ds lo hi) := by
  unfold cutV cutD
  rw [dpAll_len h]
  exact dpAll_take _ (dpAll_drop _ h)
theorem SlR.or3 {r r' r'' : V → Option Int → Option Int → Hp → VK → Prop} (h : SlR X r) (h' : SlR X r') (h'' : SlR X r'') : SlR X (fun x lo hi H Q => r x lo hi H Q ∨ r' x lo hi H Q ∨ r'' x lo hi H Q) :=
  L2.SlR.or h (L2.SlR.or h' h'')
theorem de_slice {lo hi : Option Expr} {da : DTE} {dl du : DTO} {p2 : Pos} (ha : DE X e da) (hl : DO X lo dl) (hu : DO X hi du) : DE X (.Subscript e (.Slice lo hi none p2) pos) (dSl da dl du) :=
  PE.le (pe_slice (SlR.or3 sl_list sl_tupA sl_str) ha hl hu) fun σ H Q ⟨F, ρ, k, S, q, fin⟩ =>
    ⟨F, ρ, _, S, q, fun r ρ1 v F1 H1 q S1 T1 f => ⟨F1, ρ1, _, S1, q, fun l ρ2 F2 H2 q S2 T2 => ⟨F2, ρ2, _, S2, q, fun u ρ3 F3 H3 q S3 T3 => by
      have T23 := T2.trans T3
      have f3 := f.later T23.toTr
      have T := T1.trans T23
      obtain ⟨d, rd, q⟩ := wc_rd S3 f3 q
      unfold gSl at q
      split at q
      · obtain ⟨a, xs, rfl, h1, h2⟩ := rd.list S3.sub
        refine .inl ⟨a, xs, rfl, Evl.sq_of h1, fun p hp => ?_⟩
        have n := New.list (K := X.K) S3.sub hp (dpAll_cut (lo := l) (hi := u) h2)
        exact fin _ _ _ _ _ q (n.sta S3) (T.trans n.tr) (n.fits S3 fun _ z => T.none z)
      · obtain ⟨a, xs, rfl, h1, h2, dp⟩ := rd.tuple
        refine .inr (.inl ⟨a, xs, rfl, Evl.st_of (S3.sub _ _ h1), fun hw => ?_, fun hw p hp => ?_⟩)
        · rename_i ds
          have e : cutD ds l u = ds := by
            unfold cutD
            rw [← dpAll_len h2, hw.1, hw.2]
            simp [dpAll_len h2]
          rw [e] at q
          exact fin _ _ _ _ _ q S3 T dp
        · have n := New.tuple (K := X.K) S3.sub hp (dpAll_cut (lo := l) (hi := u) h2)
          exact fin _ _ _ _ _ q (n.sta S3) (T.trans n.tr) (n.fits S3 fun _ z => T.none z)
      · cases rd.str
        exact .inr (.inr ⟨_, rfl, q.1, fin _ _ _ _ _ q.2 S3 T (.str _)⟩)
      · exact q.elim⟩⟩⟩
end
end TL

-- part TL10
/-! TL10: methods, stores by place, what is walked. -/
namespace TL
open PySem PySem.Spec L2
open Evl (Ex ex_l ex_t)

/-! ### methods that read -/
@[simp] def tyD (T : String) (d : D) : Prop := match d with
  | .list _ => T = "list"
  | .str _ => T = "str"
  | _ => False
@[simp] def dMt (T : String) (g : D → List D → (Res → Prop) → Prop) (dr : DTE) (da : DTA) : DTE := fun ρ k => dr ρ fun r ρ1 => wc r ρ1 (tyD T) ∧ da ρ1 fun rs ρ2 => wc r ρ2 fun d => wcs rs ρ2 fun ds => g d ds fun z => k z ρ2
section
variable {X : Cx} {o e : Expr} {es : List Expr} {dr : DTE} {da : DTA} {name : Str} {apos cpos pos : Pos} {T id : String}
theorem tyD_ok {K : PySem.W.Frag} {F H : Hp} {v : V} {d : D} (s : Ex F H) (r : RdAt K F H v d) (h : tyD T d) : tyV K T v H := by
  unfold tyD at h
  split at h
  · obtain ⟨a, xs, rfl, h1, _⟩ := r.list s
    exact .inl ⟨h, xs, Evl.sq_of h1⟩
  · cases r.str; exact h
  · exact h.elim
theorem de_mt {g : D → List D → (Res → Prop) → Prop} (pa : PlainAttrs T) (slot : PySem.Slot T name id) (hty : typeOf (.builtin id) = pure (.type "method_descriptor")) (hm : MtR X id (rm X.K g)) (ho : DE X o dr) (ha : DA X (e :: es) da)
    (hbase : attributeBase o name X.env (eval o X.env) = eval o X.env := by rfl)
    (hfew : ((backTo cpos (starEach (e :: es) X.env)).all (fun x => !x.1) && (backToKw cpos (keywordEach [] X.env)).all (fun x => x.1.isSome)
      && decide ((e :: es).length + ([] : List Keyword).length + (if ([] : List Keyword).isEmpty then 0 else 1) < 30)) = true := by rfl)
    (hline : (apos.endLine == cpos.line) = true := by rfl)
    (he : starEach (e :: es) X.env = (false, eval e X.env) :: starEach es X.env := by rfl) (hpl : (backTo cpos (starEach es X.env)).any (·.1) = false := by rfl) :
    DE X (.Call (.Attribute o name apos) (e :: es) [] cpos) (dMt T g dr da) :=
  PE.le (pe_bm pa slot hty hm ho ha hbase hfew hline he hpl) fun σ H Q ⟨F, ρ, k, S, q, fin⟩ => ⟨F, ρ, _, S, q, fun r ρ1 v F1 H1 q S1 T1 f => by
    obtain ⟨q0, q⟩ := q
    obtain ⟨d0, r0, q0⟩ := wc_rd S1 f q0
    refine ⟨tyD_ok S1.sub r0 q0, F1, ρ1, _, S1, q, fun rs ρ2 vs F2 H2 q S2 T2 f2 => ?_⟩
    have f' := f.later T2.toTr
    obtain ⟨d, rd, q⟩ := wc_rd S2 f' q
    obtain ⟨ds, rds, q⟩ := wcs_rd S2 f2 q
    have T := T1.trans T2
    exact ⟨F2, d, ds, _, S2.sub, rd, rds, q, fun z v F' H' kz n => fin z ρ2 v F' H' kz (n.sta S2) (T.trans n.tr) (n.fits S2 fun _ z => T.none z)⟩⟩
/-- xs.count(n), ints -/
@[simp] def gCount : D → List D → (Res → Prop) → Prop
  | .list ds, [.int i], k => ∃ ns, intsOf ds = some ns ∧ k (.fz (.int (ns.count i)))
  | _, _, _ => False
theorem mt_gCount : MtR X "list.count" (rm X.K gCount) := by
  intro pins s σ H x xs v us Q I rx rxs ⟨F, d, ds, k, se, hx, hxs, g, fin⟩
  unfold gCount at g
  split at g
  · obtain ⟨ns, e, g⟩ := g
    obtain ⟨a, ys, rfl, h1, h2⟩ := hx.list se
    rw [intsOf_eq e] at h2
    rw [dpAll_ints h2] at h1
    obtain ⟨w, rfl, hw⟩ := hxs.one
    cases hw.int
    exact mt_lcount pins s σ H _ _ v us Q I rx rxs ⟨a, ns, _, rfl, rfl, Evl.sq_of h1, r2_val se g fin (.int _)⟩
  · exact g.elim
end

/-! ### methods that change an owned list -/
section
variable (K : PySem.W.Frag)
def rmu (g : D → List D → (D → D → Prop) → Prop) : V → List V → Hp → VK → Prop := fun x xs H Q => ∃ F a d ds k, Ex F H ∧ x = .ref a ∧ OwAt K F H .l a d ∧ F a = none ∧ DpAll K F xs ds ∧ g d ds k ∧
  ∀ d' z v H', k d' z → (∀ b, b ≠ a → H' b = H b) → OwAt K F H' .l a d' → Dp K F v z → Q v H'
end
@[simp] def isOl (ρ : List Slot) (i : Nat) : Prop := match ρ[i]? with | some (.ow _ .l _) => True | _ => False
@[simp] def dMu (i : Nat) (g : D → List D → (D → D → Prop) → Prop) (da : DTA) : DTE := fun ρ k => isOl ρ i ∧ da ρ fun rs ρ1 => fzAll rs ρ1 fun ds ρ2 => match ρ2[i]? with
  | some (.ow t .l d) => g d ds fun d' z => k (.fz z) (ρ2.set i (.ow t .l d'))
  | _ => False
section
variable {K : PySem.W.Frag} {F F0 H H' H0 : Hp} {σ : L2.St} {ρ ρ0 : List Slot}
theorem Sta.updOwn {i : Nat} {t : Option Addr} {κ : Kd} {d d' : D} {a : Addr} (S : Sta K F H σ ρ) (e : ρ[i]? = some (.ow t κ d)) (ea : σ[i]? = some (some (.ref a))) (ne : ∀ b, b ≠ a → H' b = H b) (o : OwAt K F H' κ a d') :
    Sta K F H' σ (ρ.set i (.ow t κ d')) ∧ TrX F H σ ρ F H' (ρ.set i (.ow t κ d')) := by
  obtain ⟨a', e1, ho, fa, tt⟩ := S.ow i t κ d e
  rw [ea] at e1; cases e1
  have lt : i < ρ.length := (List.getElem?_eq_some_iff.mp e).1
  have fne : ∀ b u, F b = some u → b ≠ a := fun b u h z => by rw [z, fa] at h; cases h
  have own : ∀ {j : Nat} {t' : Option Addr} {κ' : Kd} {d'' : D}, (ρ.set i (.ow t κ d'))[j]? = some (Slot.ow t' κ' d'') → ∃ d0, ρ[j]? = some (Slot.ow t' κ' d0) := fun {j t' κ' d''} h => by
    rcases get_sets h with ⟨y, z⟩ | ⟨_, z⟩
    · cases z; exact ⟨d, by rw [← y]; exact e⟩
    · exact ⟨_, z⟩
  have oa : ∀ b, OA σ (ρ.set i (.ow t κ d')) b → OA σ ρ b := fun b ⟨j, t', κ', d'', h1, h2⟩ => by
    obtain ⟨d0, h⟩ := own h1
    exact ⟨j, t', κ', d0, h, h2⟩
  have oaA : OA σ ρ a := ⟨i, t, κ, d, e, ea⟩
  refine ⟨⟨fun b u h => by rw [ne b (fne b u h)]; exact S.sub b u h, by simpa using S.len, fun j d0 h => ?_, fun j d0 h => ?_, fun j t' κ' d0 h => ?_, fun j j' t1 t2 κ1 κ2 d1 d2 b h1 h2 h3 h4 => ?_⟩,
    ⟨⟨Ex.refl F, fun b u h n => by rw [ne b (fun z => n (by rw [z]; exact oaA))]; exact h, fun b u h => ?_, fun b h => .inl (oa b h), fun _ _ h => .inl h⟩, fun j t' κ' d0 h => own h, fun j d0 h => ?_⟩⟩
  · rcases get_sets h with ⟨_, z⟩ | ⟨_, z⟩
    · cases z
    · exact S.fz j d0 z
  · rcases get_sets h with ⟨_, z⟩ | ⟨_, z⟩
    · cases z
    · obtain ⟨v, g1, g2⟩ := S.rd j d0 z
      refine ⟨v, g1, ?_⟩
      rcases g2 with g2 | ⟨κ', b, e', g2, n⟩
      · exact .inl g2
      · exact .inr ⟨κ', b, e', g2.mono (Ex.refl F) fun u q => by rw [ne b (fun z => n (by rw [z]; exact oaA))]; exact q, fun z => n (oa b z)⟩
  · rcases get_sets h with ⟨y, z⟩ | ⟨y, z⟩
    · cases z
      rw [← y]
      exact ⟨a, ea, o, fa, tt⟩
    · obtain ⟨b, g1, g2, g3, g4⟩ := S.ow j t' κ' d0 z
      refine ⟨b, g1, g2.mono (Ex.refl F) fun u q => ?_, g3, g4⟩
      rw [ne b (fun w => y (S.inj i j _ _ _ _ _ _ a e z ea (by rw [← w]; exact g1)))]
      exact q
  · obtain ⟨d3, g1⟩ := own h1
    obtain ⟨d4, g2⟩ := own h2
    exact S.inj j j' _ _ _ _ _ _ b g1 g2 h3 h4
  · by_cases z : b = a
    · obtain ⟨u', hu⟩ := o.some
      exact ⟨u', by rw [z]; exact hu⟩
    · exact ⟨u, by rw [ne b z]; exact h⟩
  · rcases get_sets h with ⟨_, z⟩ | ⟨_, z⟩
    · cases z
    · exact .inl z
theorem isOl_get {i : Nat} (h : isOl ρ i) : ∃ t d, ρ[i]? = some (.ow t .l d) := by
  unfold isOl at h
  split at h
  · rename_i t d e; exact ⟨t, d, e⟩
  · exact h.elim
end
section
variable {X : Cx} {o e : Expr} {es : List Expr} {da : DTA} {name : Str} {apos cpos pos : Pos} {id : String} {i : Nat} {g : D → List D → (D → D → Prop) → Prop}
theorem mu_fin {K : PySem.W.Frag} {σ : L2.St} {H0 F1 H1 : Hp} {Q : VK} {k : Res → List Slot → Prop} {F0 : Hp} {ρ0 ρ1 : List Slot} {rs : List Res} {vs : List V} {a : Addr} (ea : σ[i]? = some (some (.ref a)))
    (q : fzAll rs ρ1 fun ds ρ2 => match ρ2[i]? with
      | some (.ow t .l d) => g d ds fun d' z => k (.fz z) (ρ2.set i (.ow t .l d'))
      | _ => False) (S1 : Sta K F1 H1 σ ρ1) (T1 : TrX F0 H0 σ ρ0 F1 H1 ρ1) (f : FitsAll K F1 H1 σ ρ1 H0 vs rs)
    (fin : ∀ r ρ' v F' H', k r ρ' → Sta K F' H' σ ρ' → TrX F0 H0 σ ρ0 F' H' ρ' → Fits K F' H' σ ρ' H0 v r → Q v H') : rmu K g (.ref a) vs H1 Q := by
  obtain ⟨ds, ρ2, F2, q, S2, T2, dp, _⟩ := fzAll_ok S1 f.w T1 q
  split at q
  · rename_i t d e
    obtain ⟨a', e1, ho, fa, _⟩ := S2.ow i t .l d e
    rw [ea] at e1; cases e1
    refine ⟨F2, a, d, ds, _, S2.sub, rfl, ho, fa, dp, q, fun d' z v H' kz ne o' dz => ?_⟩
    obtain ⟨S3, T3⟩ := S2.updOwn e ea ne o'
    exact fin _ _ _ _ _ kz S3 (T2.trans T3) dz
  · exact q.elim
theorem de_mu (slot : PySem.Slot "list" name id) (hty : typeOf (.builtin id) = pure (.type "method_descriptor")) (hm : MtR X id (rmu X.K g)) (ho : DE X o (dName i)) (ha : DA X (e :: es) da)
    (hbase : attributeBase o name X.env (eval o X.env) = eval o X.env := by rfl)
    (hfew : ((backTo cpos (starEach (e :: es) X.env)).all (fun x => !x.1) && (backToKw cpos (keywordEach [] X.env)).all (fun x => x.1.isSome)
      && decide ((e :: es).length + ([] : List Keyword).length + (if ([] : List Keyword).isEmpty then 0 else 1) < 30)) = true := by rfl)
    (hline : (apos.endLine == cpos.line) = true := by rfl)
    (he : starEach (e :: es) X.env = (false, eval e X.env) :: starEach es X.env := by rfl) (hpl : (backTo cpos (starEach es X.env)).any (·.1) = false := by rfl) :
    DE X (.Call (.Attribute o name apos) (e :: es) [] cpos) (dMu i g da) :=
  PE.le (pe_bm PySem.F.plainAttrs_list slot hty hm ho ha hbase hfew hline he hpl) fun σ H Q ⟨F, ρ, k, S, ⟨q0, q⟩, fin⟩ => by
    obtain ⟨t, d, e0⟩ := isOl_get q0
    refine ⟨F, ρ, fun r ρ' => r = .bo i ∧ ρ' = ρ, S, by unfold dName; rw [e0]; exact ⟨rfl, rfl⟩, fun r ρ1 v F1 H1 q1 S1 T1 f1 => ?_⟩
    obtain ⟨rfl, rfl⟩ := q1
    have f1 : σ[i]? = some (some v) := f1
    obtain ⟨a, e1, ho, _⟩ := S1.ow i t .l d e0
    rw [f1] at e1; cases e1
    have ho2 := ho
    obtain ⟨xs, _, _, hx, _⟩ := ho2
    exact ⟨.inl ⟨rfl, xs, Evl.sq_of hx⟩, F1, _, _, S1, q, fun rs ρ2 vs F2 H2 q S2 T2 f2 => mu_fin f1 q S2 (T1.trans T2) (f2.back fun _ z => T1.none z) fin⟩
theorem de_mu0 (slot : PySem.Slot "list" name id) (hty : typeOf (.builtin id) = pure (.type "method_descriptor")) (hm : MtR X id (rmu X.K g)) (ho : DE X o (dName i))
    (hbase : attributeBase o name X.env (eval o X.env) = eval o X.env := by rfl) (hline : (apos.endLine == cpos.line) = true := by rfl) :
    DE X (.Call (.Attribute o name apos) [] [] cpos) (dMu i g dNil) :=
  PE.le (pe_bm0 PySem.F.plainAttrs_list slot hty hm ho hbase hline) fun σ H Q ⟨F, ρ, k, S, ⟨q0, q⟩, fin⟩ => by
    obtain ⟨t, d, e0⟩ := isOl_get q0
    refine ⟨F, ρ, fun r ρ' => r = .bo i ∧ ρ' = ρ, S, by unfold dName; rw [e0]; exact ⟨rfl, rfl⟩, fun r ρ1 v F1 H1 q1 S1 T1 f1 => ?_⟩
    obtain ⟨rfl, rfl⟩ := q1
    have f1 : σ[i]? = some (some v) := f1
    obtain ⟨a, e1, ho, _⟩ := S1.ow i t .l d e0
    rw [f1] at e1; cases e1
    have ho2 := ho
    obtain ⟨xs, _, _, hx, _⟩ := ho2
    exact ⟨.inl ⟨rfl, xs, Evl.sq_of hx⟩, mu_fin (vs := []) (rs := []) f1 q S1 T1 trivial fin⟩
@[simp] def gAppend : D → List D → (D → D → Prop) → Prop
  | .list ds, [d], k => ds.length < sizeLine ∧ k (.list (ds ++ [d])) .none
  | _, _, _ => False
theorem mt_gAppend : MtR X "list.append" (rmu X.K gAppend) := by
  intro pins s σ H x xs v us Q I rx rxs ⟨F, a, d, ds, k, se, hx, ho, fa, dp, g, fin⟩
  subst hx
  obtain ⟨ys, es, rfl, h1, h2⟩ := ho
  unfold gAppend at g
  split at g
  · rename_i _ ds' d' e0
    cases e0
    cases dp with | cons p pr =>
      cases pr
      exact mt_append pins s σ H _ _ v us Q I rx rxs ⟨a, ys, _, rfl, rfl, h1, by rw [dpAll_len h2]; exact g.1, fin _ _ _ _ g.2 (fun b hb => upd_ne hb) ⟨_, _, rfl, upd_same, dpAll_app h2 (.cons p .nil)⟩ .non⟩
  · exact g.elim
@[simp] def gExtend : D → List D → (D → D → Prop) → Prop
  | .list ds, [.list es], k => ds.length + es.length ≤ sizeLine ∧ k (.list (ds ++ es)) .none
  | _, _, _ => False
theorem mt_gExtend : MtR X "list.extend" (rmu X.K gExtend) := by
  intro pins s σ H x xs v us Q I rx rxs ⟨F, a, d, ds, k, se, hx, ho, fa, dp, g, fin⟩
  subst hx
  obtain ⟨ys, es, rfl, h1, h2⟩ := ho
  unfold gExtend at g
  split at g
  · rename_i _ _ ds' es' e0
    cases e0
    cases dp with | cons p pr =>
      cases pr
      cases p with | lst p1 p2 =>
        exact mt_extend pins s σ H _ _ v us Q I rx rxs ⟨a, _, ys, _, rfl, rfl, h1, se _ _ p1, by rw [dpAll_len h2, dpAll_len p2]; exact g.1, fin _ _ _ _ g.2 (fun b hb => upd_ne hb) ⟨_, _, rfl, upd_same, dpAll_app h2 p2⟩ .non⟩
  · exact g.elim
/-- pop(), pop(i) -/
@[simp] def gPop : D → List D → (D → D → Prop) → Prop
  | .list ds, [], k => ∃ d, ds[ds.length - 1]? = some d ∧ k (.list ds.dropLast) d
  | .list ds, [.int i], k => ∃ d, (-(2 ^ 63) ≤ i ∧ i < 2 ^ 63) ∧ ∃ j, seqIndex? i ds.length = some j ∧ ds[j]? = some d ∧ k (.list (ds.eraseIdx j)) d
  | _, _, _ => False
theorem dpAll_dropLast {K : PySem.W.Frag} {F : Hp} {vs : List V} {ds : List D} (h : DpAll K F vs ds) : DpAll K F vs.dropLast ds.dropLast := by
  rw [List.dropLast_eq_take, List.dropLast_eq_take, dpAll_len h]
  exact dpAll_take _ h
theorem dpAll_erase {K : PySem.W.Frag} {F : Hp} : ∀ {vs : List V} {ds : List D} (j : Nat), DpAll K F vs ds → DpAll K F (vs.eraseIdx j) (ds.eraseIdx j)
  | _, _, _, .nil => .nil
  | _, _, 0, .cons _ h => h
  | _, _, j + 1, .cons p h => .cons p (dpAll_erase j h)
theorem mt_gPop : MtR X "list.pop" (rmu X.K gPop) := by
  intro pins s σ H x xs v us Q I rx rxs ⟨F, a, d, ds, k, se, hx, ho, fa, dp, g, fin⟩
  subst hx
  obtain ⟨ys, es, rfl, h1, h2⟩ := ho
  unfold gPop at g
  split at g
  · rename_i _ _ ds' e0
    cases e0
    cases dp
    obtain ⟨d, e, g⟩ := g
    obtain ⟨w, e', dw⟩ := dpAll_get' h2 e
    exact mt_pop pins s σ H _ _ v us Q I rx rxs ⟨a, ys, w, rfl, rfl, h1, by rw [dpAll_len h2]; exact e', fin _ _ _ _ g (fun b hb => upd_ne hb) ⟨_, _, rfl, upd_same, dpAll_dropLast h2⟩ dw⟩
  · rename_i _ _ ds' i e0
    cases e0
    cases dp with | cons p pr =>
      cases pr
      cases p
      obtain ⟨d, ⟨g1, g2⟩, j, g3, g4, g⟩ := g
      obtain ⟨w, e', dw⟩ := dpAll_get' h2 g4
      exact mt_popAt pins s σ H _ _ v us Q I rx rxs ⟨a, ys, i, j, w, rfl, rfl, h1, g1, g2, by rw [dpAll_len h2]; exact g3, e', fin _ _ _ _ g (fun b hb => upd_ne hb) ⟨_, _, rfl, upd_same, dpAll_erase j h2⟩ dw⟩
  · exact g.elim

/-! ### a store by place -/
end
section
variable (K : PySem.W.Frag)
def rset (g : Kd → D → D → D → (D → Prop) → Prop) : TSet := fun o i v H Q => ∃ F a κ d di dv k, Ex F H ∧ o = .ref a ∧ OwAt K F H κ a d ∧ F a = none ∧ RdAt K F H i di ∧ Dp K F v dv ∧ g κ d di dv k ∧
  ∀ d' H', k d' → (∀ b, b ≠ a → H' b = H b) → OwAt K F H' κ a d' → Q H'
end
@[simp] def dStI (i : Nat) (g : Kd → D → D → D → (D → Prop) → Prop) (da di : DTE) : DTS := fun E ρ => da ρ fun r ρ1 => isOw ρ1 i ∧ di ρ1 fun rj ρ2 => fzR r ρ2 fun dv ρ3 => wc rj ρ3 fun dj => match ρ3[i]? with
  | some (.ow t κ d) => g κ d dj dv fun d' => E.nx (ρ3.set i (.ow t κ d'))
  | _ => False
@[simp] def gSetL : Kd → D → D → D → (D → Prop) → Prop
  | .l, .list ds, .int i, v, k => ∃ j, ixN ds.length i = some j ∧ k (.list (ds.set j v))
  | _, _, _, _, _ => False
section
variable {X : Cx}
theorem dpAll_set {K : PySem.W.Frag} {F : Hp} {v : V} {d : D} (p : Dp K F v d) : ∀ {vs : List V} {ds : List D} (j : Nat), DpAll K F vs ds → DpAll K F (vs.set j v) (ds.set j d)
  | _, _, _, .nil => .nil
  | _, _, 0, .cons _ h => .cons p h
  | _, _, j + 1, .cons q h => .cons q (dpAll_set p j h)
theorem set_gSetL : PSet X (rset X.K gSetL) := by
  intro pins s σ H o i v ov iv u Q I ro ri rv ⟨F, a, κ, d, di, dv, k, se, e, ho, fa, hi, dp, g, fin⟩
  subst e
  unfold gSetL at g
  split at g
  · obtain ⟨xs, ds, e, h1, h2⟩ := ho
    cases e
    cases hi.int
    obtain ⟨j, hj, g⟩ := g
    exact set_list pins s σ H _ _ v ov iv u Q I ro ri rv ⟨a, xs, _, j, rfl, rfl, h1, by rw [dpAll_len h2]; exact hj, fin _ _ g (fun b hb => upd_ne hb) ⟨_, _, rfl, upd_same, dpAll_set dp j h2⟩⟩
  · exact g.elim
theorem ds_stI {o ix e : Expr} {pos spos : Pos} {i : Nat} {g : Kd → D → D → D → (D → Prop) → Prop} {da di : DTE} (he : DE X e da) (ho : DE X o (dName i)) (hi : DE X ix di) (hs : PSet X (rset X.K g))
    (ha : ∀ v, assign (.Subscript o ix pos) X.env v = (do
      let ov ← holding [v] (eval o X.env)
      let iv ← holding [v, ov] (eval ix X.env)
      standAt pos
      holding [v, ov, iv] (setItem ov iv v)
      release [v, ov, iv] []) := by intro _; rfl)
    (hw0 : swapsWithSole [.Subscript o ix pos] e spos.line X.env = pure false := by rfl) (hw : swappedStores [.Subscript o ix pos] e X.env = pure none := by rfl)
    (h1 : (assignEach [.Subscript o ix pos] X.env).map (·.2) = [assign (.Subscript o ix pos) X.env] := by rfl) : DS X (.Assign [.Subscript o ix pos] e spos) (dStI i g da di) :=
  PS.le (ps_asg he (pg_sub ho hi hs ha) hw0 hw h1) fun E σ H ⟨F, ρ, G, S, q, f1, f2, f3, f4⟩ => ⟨F, ρ, _, S, q, fun r ρ1 v F1 H1 q S1 T1 f => by
    obtain ⟨q0, q⟩ := q
    obtain ⟨t, κ, d, e0⟩ := isOw_get q0
    refine ⟨F1, ρ1, fun r' ρ' => r' = .bo i ∧ ρ' = ρ1, S1, by unfold dName; rw [e0]; exact ⟨rfl, rfl⟩, fun r' ρ1' w F2 H2 q1 S2 T2 g1 => ?_⟩
    obtain ⟨rfl, rfl⟩ := q1
    have g1 : σ[i]? = some (some w) := g1
    refine ⟨F2, _, _, S2, q, fun rj ρ3 u F3 H3 q S3 T3 g2 => ?_⟩
    have T13 := T2.trans T3
    have T03 := T1.trans T13
    obtain ⟨dv, ρ4, F4, q, S4, T4, dp, e4, o4⟩ := fzR_ok S3 (f.later T13.toTr).w T03 q
    have g2 : Fits X.K F3 H3 σ ρ3 H2 u rj := g2
    -- the index
    have fj : ∃ dj, RdAt X.K F4 H3 u dj ∧ match ρ4[i]? with
        | some (.ow t κ d) => g κ d dj dv fun d' => G.nx (ρ4.set i (.ow t κ d'))
        | _ => False := by
      have w4 := g2.w.frz (ρ' := ρ4) e4 o4
      cases rj with
      | fz d => exact ⟨d, .inl w4, q⟩
      | tm κ d => obtain ⟨a, e, h, _⟩ := w4; exact ⟨d, .inr ⟨κ, a, e, h⟩, q⟩
      | rd d => exact ⟨d, RdN.at w4, q⟩
      | bo j =>
        exact wc_rd (H0 := H2) S4 (show Fits X.K F4 H3 σ ρ4 H2 u (.bo j) from w4) q
    obtain ⟨dj, rj', q⟩ := fj
    split at q
    · rename_i t' κ' d' e5
      obtain ⟨a, e6, ho, fa, _⟩ := S4.ow i t' κ' d' e5
      rw [g1] at e6; cases e6
      refine ⟨F4, a, κ', d', dj, dv, _, S4.sub, rfl, ho, fa, rj', dp, q, fun d2 H' kd ne o' => ?_⟩
      obtain ⟨S5, T5⟩ := S4.updOwn e5 g1 ne o'
      exact f1 _ _ _ _ kd S5 (T4.trans T5).toTr
    · exact q.elim⟩
end
end TL

-- part TL11
/-! TL11: what is walked. -/
namespace TL
open PySem PySem.Spec L2
open Evl (Ex ex_l ex_t)

@[simp] def srcOf (r : Res) (d : D) : List (Nat × D) := match r with
  | .bo i => [(i, d)]
  | _ => []
section
variable {K : PySem.W.Frag} {F F0 H H0 Hs : Hp} {σ σ0 : L2.St} {ρ ρ0 : List Slot}
/-- a walked thing stands as it stood -/
theorem later_rd {v : V} {r : Res} {d : D} (S0 : Sta K F0 H0 σ0 ρ0) (f : Fits K F0 H0 σ0 ρ0 Hs v r) (hw : wc r ρ0 fun d' => d' = d) (S : Sta K F H σ ρ) (T : Tr F0 H0 σ0 ρ0 F H σ ρ)
    (hs : ∀ p ∈ srcOf r d, σ[p.1]? = σ0[p.1]? ∧ cont ρ p.1 = some p.2) : RdAt K F H v d := by
  cases r with
  | fz d' => cases hw; exact .inl (dp_mono T.fext f)
  | tm κ d' =>
    cases hw
    obtain ⟨a, e, h, n, o, _⟩ := f
    exact .inr ⟨κ, a, e, h.mono T.fext fun u q => T.keep _ _ q o⟩
  | rd d' => cases hw; exact RdN.at (RdN.later f T)
  | bo i =>
    have f : σ0[i]? = some (some v) := f
    obtain ⟨h1, h2⟩ := hs (i, d) (by simp [srcOf])
    have h1 : σ[i]? = σ0[i]? := h1
    have h2 : cont ρ i = some d := h2
    rw [f] at h1
    unfold cont at h2
    split at h2
    · rename_i t κ d' e
      cases h2
      obtain ⟨a, e1, q, _⟩ := S.ow i t κ d e
      rw [h1] at e1; cases e1
      exact .inr ⟨κ, a, rfl, q⟩
    · rename_i d' e
      cases h2
      obtain ⟨w, e1, q⟩ := S.fz i d e
      rw [h1] at e1; cases e1
      exact .inl q
    · rename_i d' e
      cases h2
      obtain ⟨w, e1, q⟩ := S.rd i d e
      rw [h1] at e1; cases e1
      exact RdN.at q
    · cases h2
theorem wc_eq {r : Res} {k : D → Prop} (h : wc r ρ k) : ∃ d, k d ∧ wc r ρ fun d' => d' = d := by
  cases r with
  | fz d => exact ⟨d, h, rfl⟩
  | tm κ d => exact ⟨d, h, rfl⟩
  | rd d => exact ⟨d, h, rfl⟩
  | bo i =>
    unfold wc at h ⊢
    simp only at h ⊢
    split at h
    · rename_i t κ d e; exact ⟨d, h, rfl⟩
    · rename_i d e; exact ⟨d, h, rfl⟩
    · exact h.elim
end
@[simp] def dItL (da : DTE) : DTI := fun ρ k => da ρ fun r ρ1 => wc r ρ1 fun d => match d with
  | .list ds => k ds (srcOf r d) ρ1
  | _ => False
@[simp] def dItT (da : DTE) : DTI := fun ρ k => da ρ fun r ρ1 => wc r ρ1 fun d => match d with
  | .tuple ds => k ds (srcOf r d) ρ1
  | _ => False
def signs (z : Str) : List D := z.cps.toList.map fun c => .str ⟨#[c]⟩
@[simp] def dItS (da : DTE) : DTI := fun ρ k => da ρ fun r ρ1 => wc r ρ1 fun d => match d with
  | .str z => k (signs z) [] ρ1
  | _ => False
def rangeD (lo c : Int) (n : Nat) : List D := (List.range n).map fun (i : Nat) => .int (lo + (i : Int) * c)
def okRg (i : Int) : Prop := -(2 ^ 62) ≤ i ∧ i < 2 ^ 62
@[simp] def dItR1 (da : DTA) : DTI := fun ρ k => da ρ fun rs ρ1 => wcs rs ρ1 fun ds => match ds with
  | [.int n] => okRg n ∧ k (rangeD 0 1 n.toNat) [] ρ1
  | _ => False
@[simp] def dItR2 (da : DTA) : DTI := fun ρ k => da ρ fun rs ρ1 => wcs rs ρ1 fun ds => match ds with
  | [.int a, .int b] => (okRg a ∧ okRg b) ∧ k (rangeD a 1 (b - a).toNat) [] ρ1
  | _ => False
@[simp] def dItR3 (da : DTA) : DTI := fun ρ k => da ρ fun rs ρ1 => wcs rs ρ1 fun ds => match ds with
  | [.int a, .int b, .int c] => ∃ n, RgC a b c n ∧ k (rangeD a c n) [] ρ1
  | _ => False
def enumD (i : Int) : List D → List D
  | [] => []
  | d :: ds => .tuple [.int i, d] :: enumD (i + 1) ds
@[simp] def dItE (da : DTA) : DTI := fun ρ k => da ρ fun rs ρ1 => match rs with
  | [r] => wc r ρ1 fun d => match d with
    | .list ds => k (enumD 0 ds) (srcOf r d) ρ1
    | _ => False
  | _ => False
def zipD : List D → List D → List D
  | a :: as, b :: bs => .tuple [a, b] :: zipD as bs
  | _, _ => []
@[simp] def dItZ (da : DTA) : DTI := fun ρ k => da ρ fun rs ρ1 => match rs with
  | [r, r'] => wc r ρ1 fun d => wc r' ρ1 fun d' => match d, d' with
    | .list ds, .list es => k (zipD ds es) (srcOf r d ++ srcOf r' d') ρ1
    | .tuple ds, .tuple es => k (zipD ds es) (srcOf r d ++ srcOf r' d') ρ1
    | _, _ => False
  | _ => False
/-- reversed of a list -/
@[simp] def dItV (da : DTE) : DTI := fun ρ k => da ρ fun r ρ1 => wc r ρ1 fun d => match d with
  | .list ds => k ds.reverse (srcOf r d) ρ1
  | .tuple ds => k ds.reverse (srcOf r d) ρ1
  | _ => False
/-- a name that a loop walks: the slot is given up -/
@[simp] def dLend (i : Nat) : DTE := fun ρ k => match ρ[i]? with
  | some (.fz d) => k (.fz d) ρ
  | some (.rd d) => k (.rd d) ρ
  | some (.ow none .l d) => k (.fz d) (ρ.set i (.fz d))
  | some (.ow none _ d) => k (.rd d) (ρ.set i (.rd d))
  | _ => False
theorem enumD_get : ∀ {ds : List D} {i : Int} {j : Nat} {d : D}, (enumD i ds)[j]? = some d → ∃ x, ds[j]? = some x ∧ d = .tuple [.int (i + j), x]
  | [], i, j, d, h => by simp [enumD] at h
  | x :: ds, i, 0, d, h => by simp [enumD] at h; subst h; exact ⟨x, rfl, by simp⟩
  | x :: ds, i, j + 1, d, h => by
    obtain ⟨y, h1, h2⟩ := enumD_get (ds := ds) (i := i + 1) (j := j) (d := d) (by simpa [enumD] using h)
    refine ⟨y, by simpa using h1, ?_⟩
    rw [h2]
    have : i + 1 + (j : Int) = i + ((j + 1 : Nat) : Int) := by omega
    rw [this]
theorem enumD_len : ∀ {ds : List D} {i : Int}, (enumD i ds).length = ds.length
  | [], _ => rfl
  | _ :: ds, i => by simp [enumD, enumD_len]
theorem zipD_get : ∀ {ds es : List D} {j : Nat} {d : D}, (zipD ds es)[j]? = some d → ∃ x y, ds[j]? = some x ∧ es[j]? = some y ∧ d = .tuple [x, y]
  | [], es, j, d, h => by simp [zipD] at h
  | _ :: _, [], j, d, h => by simp [zipD] at h
  | x :: ds, y :: es, 0, d, h => by simp [zipD] at h; subst h; exact ⟨x, y, rfl, rfl, rfl⟩
  | x :: ds, y :: es, j + 1, d, h => by
    obtain ⟨x', y', h1, h2, h3⟩ := zipD_get (ds := ds) (es := es) (j := j) (d := d) (by simpa [zipD] using h)
    exact ⟨x', y', by simpa using h1, by simpa using h2, h3⟩
theorem zipD_len : ∀ {ds es : List D}, (zipD ds es).length = min ds.length es.length
  | [], es => by simp [zipD]
  | _ :: _, [] => by simp [zipD]
  | _ :: ds, _ :: es => by simp [zipD, zipD_len (ds := ds) (es := es), Nat.succ_min_succ]
theorem wc_rdeq {K : PySem.W.Frag} {F H H0 : Hp} {σ : L2.St} {ρ : List Slot} {v : V} {r : Res} {d : D} (S : Sta K F H σ ρ) (f : Fits K F H σ ρ H0 v r) (h : wc r ρ fun d' => d' = d) : RdAt K F H v d := by
  obtain ⟨d', h1, rfl⟩ := wc_rd S f h
  exact h1
section
variable {X : Cx} {tg l : Expr} {da : DTE} {ea : DTA} {pos p : Pos}
theorem di_list (h : DE X l da) : DI X tg l (dItL da) := PI.le (pi_list h) fun σ H R ⟨F, ρ, k, S, q, fin⟩ => ⟨F, ρ, _, S, q, fun r ρ1 v F1 H1 q S1 T1 f => by
  obtain ⟨d, q, hw⟩ := wc_eq q
  split at q
  · rename_i ds
    obtain ⟨a, xs, rfl, h1, h2⟩ := (wc_rdeq S1 f hw).list S1.sub
    refine ⟨a, rfl, ⟨xs, Evl.sq_of h1⟩, fin _ _ _ _ _ _ q S1 T1 fun F2 H2 σ2 ρ2 S2 T2 hs => ?_⟩
    obtain ⟨a', ys, e, h3, h4⟩ := (later_rd S1 f hw S2 T2 hs).list S2.sub
    cases e
    refine ⟨fun i hi => ⟨ys, Evl.sq_of h3, by rw [dpAll_len h4]; exact hi⟩, fun i d hd => ?_⟩
    obtain ⟨w, e1, dw⟩ := dpAll_get' h4 hd
    refine ⟨⟨ys, w, Evl.sq_of h3, e1⟩, fun x H' hy => ?_⟩
    obtain ⟨rfl, hy⟩ := hy
    have := hy ys (Evl.sq_of h3)
    rw [e1] at this; cases this
    exact ⟨F2, Ex.refl _, Ex.refl _, S2.sub, fun _ _ z => .inl z, dw⟩
  · exact q.elim⟩
theorem di_tup (h : DE X l da) : DI X tg l (dItT da) := PI.le (pi_tup h) fun σ H R ⟨F, ρ, k, S, q, fin⟩ => ⟨F, ρ, _, S, q, fun r ρ1 v F1 H1 q S1 T1 f => by
  obtain ⟨d, q, hw⟩ := wc_eq q
  split at q
  · rename_i ds
    obtain ⟨a, xs, rfl, h1, h2, _⟩ := (wc_rdeq S1 f hw).tuple
    refine ⟨a, rfl, ⟨xs, Evl.st_of (S1.sub _ _ h1)⟩, fin _ _ _ _ _ _ q S1 T1 fun F2 H2 σ2 ρ2 S2 T2 hs => ?_⟩
    obtain ⟨a', ys, e, h3, h4, _⟩ := (later_rd S1 f hw S2 T2 hs).tuple
    cases e
    have h3 := S2.sub _ _ h3
    refine ⟨fun i hi => ⟨ys, Evl.st_of h3, by rw [dpAll_len h4]; exact hi⟩, fun i d hd => ?_⟩
    obtain ⟨w, e1, dw⟩ := dpAll_get' h4 hd
    refine ⟨⟨ys, w, Evl.st_of h3, e1⟩, fun x H' hy => ?_⟩
    obtain ⟨rfl, hy⟩ := hy
    have := hy ys (Evl.st_of h3)
    rw [e1] at this; cases this
    exact ⟨F2, Ex.refl _, Ex.refl _, S2.sub, fun _ _ z => .inl z, dw⟩
  · exact q.elim⟩
theorem di_str (h : DE X l da) : DI X tg l (dItS da) := PI.le (pi_str h) fun σ H R ⟨F, ρ, k, S, q, fin⟩ => ⟨F, ρ, _, S, q, fun r ρ1 v F1 H1 q S1 T1 f => by
  obtain ⟨d, q, hw⟩ := wc_eq q
  split at q
  · rename_i z
    cases (wc_rdeq S1 f hw).str
    refine ⟨z, rfl, fin _ _ _ _ _ _ q S1 T1 fun F2 H2 σ2 ρ2 S2 T2 hs => ⟨fun i hi => (by simpa [signs] using hi : z.cps.size ≤ i), fun i d hd => ?_⟩⟩
    unfold signs at hd
    rw [List.getElem?_map] at hd
    cases e : z.cps.toList[i]? with
    | none => rw [e] at hd; cases hd
    | some c =>
      rw [e] at hd
      cases hd
      have e' : z.cps[i]? = some c := by simpa using e
      refine ⟨(Array.getElem?_eq_some_iff.mp e').1, fun x H' hy => ?_⟩
      obtain ⟨rfl, c', h1, rfl⟩ := hy
      rw [e'] at h1; cases h1
      exact ⟨F2, Ex.refl _, Ex.refl _, S2.sub, fun _ _ z => .inl z, .str _⟩
  · exact q.elim⟩
theorem wk_range {K : PySem.W.Frag} {F H : Hp} {σ : L2.St} {ρ : List Slot} {lo c : Int} {n : Nat} {J : It} (h1 : ∀ i H, n ≤ i → J.stop i H) (h2 : ∀ i H, i < n → J.go i H ∧ ∀ x H', J.yld i H x H' → H' = H ∧ x = .int (lo + (i : Int) * c)) : Wk K J (rangeD lo c n) [] F H σ ρ := by
  intro F2 H2 σ2 ρ2 S2 T2 _
  refine ⟨fun i hi => h1 i H2 (by simpa [rangeD] using hi), fun i d hd => ?_⟩
  unfold rangeD at hd
  rw [List.getElem?_map] at hd
  cases e : (List.range n)[i]? with
  | none => rw [e] at hd; cases hd
  | some j =>
    rw [e] at hd
    obtain ⟨hl, e'⟩ := List.getElem?_eq_some_iff.mp e
    rw [List.getElem_range] at e'
    subst e'
    cases hd
    have hi : i < n := by simpa using hl
    refine ⟨(h2 i H2 hi).1, fun x H' hy => ?_⟩
    obtain ⟨rfl, rfl⟩ := (h2 i H2 hi).2 x H' hy
    exact ⟨F2, Ex.refl _, Ex.refl _, S2.sub, fun _ _ z => .inl z, .int _⟩
theorem wk_Itr {K : PySem.W.Frag} {F H : Hp} {σ : L2.St} {ρ : List Slot} {lo : Int} {n : Nat} : Wk K (Itr lo n) (rangeD lo 1 n) [] F H σ ρ :=
  wk_range (fun i H h => h) fun i H h => ⟨h, fun x H' hy => ⟨hy.1, by rw [hy.2, Int.mul_one]⟩⟩
theorem RdAll.three {K : PySem.W.Frag} {F H : Hp} {vs : List V} {d e f : D} (h : RdAll K F H vs [d, e, f]) : ∃ v w u, vs = [v, w, u] ∧ RdAt K F H v d ∧ RdAt K F H w e ∧ RdAt K F H u f := by
  cases h with | cons h1 h2 => cases h2 with | cons h2 h3 => cases h3 with | cons h3 h4 => cases h4; exact ⟨_, _, _, rfl, h1, h2, h3⟩
theorem di_range1 {a : Expr} (hg : Gl X "range") (hm : X.mg "range" = none) (ha : DA X [a] ea) (hs : starEach [a] X.env = [(false, eval a X.env)] := by rfl) : DI X tg (.Call (.Name "range" p) [a] [] pos) (dItR1 ea) :=
  PI.le (pi_range1 hg hm ha hs) fun σ H R ⟨F, ρ, k, S, q, fin⟩ => ⟨F, ρ, _, S, q, fun rs ρ1 vs F1 H1 q S1 T1 f => by
    obtain ⟨ds, rd, q⟩ := wcs_rd S1 f q
    split at q
    · obtain ⟨v, rfl, h⟩ := rd.one
      cases h.int
      exact ⟨_, rfl, q.1.1, q.1.2, fin _ _ _ _ _ _ q.2 S1 T1 wk_Itr⟩
    · exact q.elim⟩
theorem di_range2 {a b : Expr} (hg : Gl X "range") (hm : X.mg "range" = none) (ha : DA X [a, b] ea) (hs : starEach [a, b] X.env = [(false, eval a X.env), (false, eval b X.env)] := by rfl) (hs2 : starEach [b] X.env = [(false, eval b X.env)] := by rfl) :
    DI X tg (.Call (.Name "range" p) [a, b] [] pos) (dItR2 ea) :=
  PI.le (pi_range2 hg hm ha hs hs2) fun σ H R ⟨F, ρ, k, S, q, fin⟩ => ⟨F, ρ, _, S, q, fun rs ρ1 vs F1 H1 q S1 T1 f => by
    obtain ⟨ds, rd, q⟩ := wcs_rd S1 f q
    split at q
    · obtain ⟨v, w, rfl, h, h'⟩ := rd.two
      cases h.int; cases h'.int
      exact ⟨_, _, rfl, ⟨q.1.1.1, q.1.1.2, q.1.2.1, q.1.2.2⟩, fin _ _ _ _ _ _ q.2 S1 T1 wk_Itr⟩
    · exact q.elim⟩
theorem di_range3 {a b c : Expr} (hg : Gl X "range") (hm : X.mg "range" = none) (ha : DA X [a, b, c] ea)
    (hs : starEach [a, b, c] X.env = (false, eval a X.env) :: starEach [b, c] X.env := by rfl) (hpl : (backTo pos (starEach [b, c] X.env)).any (·.1) = false := by rfl) :
    DI X tg (.Call (.Name "range" p) [a, b, c] [] pos) (dItR3 ea) :=
  PI.le (pi_range3 hg hm ha hs hpl) fun σ H R ⟨F, ρ, k, S, q, fin⟩ => ⟨F, ρ, _, S, q, fun rs ρ1 vs F1 H1 q S1 T1 f => by
    obtain ⟨ds, rd, q⟩ := wcs_rd S1 f q
    split at q
    · obtain ⟨v, w, u, rfl, h, h', h''⟩ := rd.three
      cases h.int; cases h'.int; cases h''.int
      obtain ⟨n, q1, q⟩ := q
      exact ⟨_, _, _, n, rfl, q1, fin _ _ _ _ _ _ q S1 T1 (wk_range (fun i H h => h) fun i H h => ⟨h, fun x H' hy => hy⟩)⟩
    · exact q.elim⟩
/-- a new pair of two frozen things -/
theorem pair_new {K : PySem.W.Frag} {F H : Hp} {T : Addr} {x y : V} {d e : D} (s : Ex F H) (hT : H T = none) (dx : Dp K F x d) (dy : Dp K F y e) :
    ∃ F', Ex F F' ∧ Ex H (upd H T (.tup [x, y])) ∧ Ex F' (upd H T (.tup [x, y])) ∧ (∀ b o, F' b = some o → F b = some o ∨ H b = none) ∧ Dp K F' (.ref T) (.tuple [d, e]) := by
  have n := New.tuple (K := K) s hT (.cons dx (.cons dy .nil))
  exact ⟨_, n.fext, n.hext, n.sub, n.fnew, n.fit⟩
theorem di_enum {e : Expr} {tpos : Pos} {elts : List Expr} {kk : Nat} (hg : Gl X "enumerate") (hm : X.mg "enumerate" = none) (ha : DA X [e] ea) (hs : starEach [e] X.env = [(false, eval e X.env)] := by rfl) :
    DI X (.Tuple elts kk tpos) (.Call (.Name "enumerate" p) [e] [] pos) (dItE ea) :=
  PI.le (pi_enum hg hm ha hs) fun σ H R ⟨F, ρ, k, S, q, fin⟩ => ⟨F, ρ, _, S, q, fun rs ρ1 vs F1 H1 q S1 T1 f => by
    split at q
    · rename_i r
      obtain ⟨d, q, hw⟩ := wc_eq q
      match vs, f with
      | [v], ⟨f, _⟩ =>
        split at q
        · rename_i ds
          obtain ⟨a, xs, rfl, h1, h2⟩ := (wc_rdeq S1 f hw).list S1.sub
          refine ⟨a, xs, rfl, Evl.sq_of h1, fin _ _ _ _ _ _ q S1 T1 fun F2 H2 σ2 ρ2 S2 T2 hs => ?_⟩
          obtain ⟨a', ys, e, h3, h4⟩ := (later_rd S1 f hw S2 T2 hs).list S2.sub
          cases e
          refine ⟨fun i hi => ⟨ys, Evl.sq_of h3, by rw [dpAll_len h4]; rw [enumD_len] at hi; exact hi⟩, fun i d hd => ?_⟩
          obtain ⟨x, e1, rfl⟩ := enumD_get hd
          obtain ⟨w, e2, dw⟩ := dpAll_get' h4 e1
          refine ⟨⟨ys, w, Evl.sq_of h3, e2⟩, fun x' H' hy => ?_⟩
          obtain ⟨T, x2, rfl, hT, rfl, hy⟩ := hy
          have := hy ys (Evl.sq_of h3)
          rw [e2] at this; cases this
          have e0 : (0 : Int) + (i : Int) = (i : Int) := by omega
          rw [e0]
          exact pair_new S2.sub hT (.int _) dw
        · exact q.elim
    · exact q.elim⟩
theorem di_zip {e e2 : Expr} {tpos : Pos} {elts : List Expr} {kk : Nat} (hg : Gl X "zip") (hm : X.mg "zip" = none) (ha : DA X [e, e2] ea)
    (hs : starEach [e, e2] X.env = (false, eval e X.env) :: starEach [e2] X.env := by rfl) (hpl : (backTo pos (starEach [e2] X.env)).any (·.1) = false := by rfl) :
    DI X (.Tuple elts kk tpos) (.Call (.Name "zip" p) [e, e2] [] pos) (dItZ ea) :=
  PI.le (RZ.pi_zipA hg hm ha hs hpl) fun σ H R ⟨F, ρ, k, S, q, fin⟩ => ⟨F, ρ, _, S, q, fun rs ρ1 vs F1 H1 q S1 T1 f => by
    split at q
    · rename_i r r'
      obtain ⟨d, q, hw⟩ := wc_eq q
      obtain ⟨d', q, hw'⟩ := wc_eq q
      match vs, f with
      | [v, w], ⟨f, f', _⟩ =>
        split at q
        · rename_i ds es
          obtain ⟨a, xs, rfl, h1, h2⟩ := (wc_rdeq S1 f hw).list S1.sub
          obtain ⟨b, zs, rfl, g1, g2⟩ := (wc_rdeq S1 f' hw').list S1.sub
          refine ⟨a, b, xs, zs, rfl, .inl ⟨Evl.sq_of h1, Evl.sq_of g1, fin _ _ _ _ _ _ q S1 T1 fun F2 H2 σ2 ρ2 S2 T2 hs => ?_⟩⟩
          obtain ⟨a', xs', e, h3, h4⟩ := (later_rd S1 f hw S2 T2 fun p hp => hs p (List.mem_append_left _ hp)).list S2.sub
          cases e
          obtain ⟨b', zs', e, g3, g4⟩ := (later_rd S1 f' hw' S2 T2 fun p hp => hs p (List.mem_append_right _ hp)).list S2.sub
          cases e
          refine ⟨fun i hi => ⟨xs', zs', Evl.sq_of h3, Evl.sq_of g3, by rw [dpAll_len h4, dpAll_len g4]; rw [zipD_len] at hi; omega⟩, fun i d hd => ?_⟩
          obtain ⟨x, y, e1, e2, rfl⟩ := zipD_get hd
          obtain ⟨x1, e3, dx⟩ := dpAll_get' h4 e1
          obtain ⟨y1, e4, dy⟩ := dpAll_get' g4 e2
          refine ⟨⟨xs', zs', x1, y1, Evl.sq_of h3, Evl.sq_of g3, e3, e4⟩, fun x' H' hy => ?_⟩
          obtain ⟨T, x2, y2, rfl, hT, rfl, hx, hy⟩ := hy
          have := hx xs' (Evl.sq_of h3)
          rw [e3] at this; cases this
          have := hy zs' (Evl.sq_of g3)
          rw [e4] at this; cases this
          exact pair_new S2.sub hT dx dy
        · rename_i ds es
          obtain ⟨a, xs, rfl, h1, h2, _⟩ := (wc_rdeq S1 f hw).tuple
          obtain ⟨b, zs, rfl, g1, g2, _⟩ := (wc_rdeq S1 f' hw').tuple
          refine ⟨a, b, xs, zs, rfl, .inr ⟨Evl.st_of (S1.sub _ _ h1), Evl.st_of (S1.sub _ _ g1), fin _ _ _ _ _ _ q S1 T1 fun F2 H2 σ2 ρ2 S2 T2 hs => ?_⟩⟩
          obtain ⟨a', xs', e, h3, h4, _⟩ := (later_rd S1 f hw S2 T2 fun p hp => hs p (List.mem_append_left _ hp)).tuple
          cases e
          obtain ⟨b', zs', e, g3, g4, _⟩ := (later_rd S1 f' hw' S2 T2 fun p hp => hs p (List.mem_append_right _ hp)).tuple
          cases e
          have h3 := S2.sub _ _ h3
          have g3 := S2.sub _ _ g3
          refine ⟨fun i hi => ⟨xs', zs', Evl.st_of h3, Evl.st_of g3, by rw [dpAll_len h4, dpAll_len g4]; rw [zipD_len] at hi; omega⟩, fun i d hd => ?_⟩
          obtain ⟨x, y, e1, e2, rfl⟩ := zipD_get hd
          obtain ⟨x1, e3, dx⟩ := dpAll_get' h4 e1
          obtain ⟨y1, e4, dy⟩ := dpAll_get' g4 e2
          refine ⟨⟨xs', zs', x1, y1, Evl.st_of h3, Evl.st_of g3, e3, e4⟩, fun x' H' hy => ?_⟩
          obtain ⟨T, x2, y2, rfl, hT, rfl, hx, hy⟩ := hy
          have := hx xs' (Evl.st_of h3)
          rw [e3] at this; cases this
          have := hy zs' (Evl.st_of g3)
          rw [e4] at this; cases this
          exact pair_new S2.sub hT dx dy
        · exact q.elim
    · exact q.elim⟩
theorem di_rev {e : Expr} (hg : Gl X "reversed") (hm : X.mg "reversed" = none) (he : DE X e da) (hs : starEach [e] X.env = (false, eval e X.env) :: starEach [] X.env := by rfl) : DI X tg (.Call (.Name "reversed" p) [e] [] pos) (dItV da) :=
  PI.le (RT.pi_revA hg hm he hs) fun σ H R ⟨F, ρ, k, S, q, fin⟩ => ⟨F, ρ, _, S, q, fun r ρ1 v F1 H1 q S1 T1 f => by
    obtain ⟨d, q, hw⟩ := wc_eq q
    have rv : ∀ {ys : List V} {ds : List D} {i : Nat} {d : D}, ys.length = ds.length → ds.reverse[i]? = some d → i < ds.length ∧ ds[ds.length - 1 - i]? = some d := fun {ys ds i d} _ h => by
      have hi : i < ds.length := by
        have := (List.getElem?_eq_some_iff.mp h).1
        simpa using this
      rw [List.getElem?_reverse hi] at h
      exact ⟨hi, h⟩
    split at q
    · rename_i ds
      obtain ⟨a, xs, rfl, h1, h2⟩ := (wc_rdeq S1 f hw).list S1.sub
      refine ⟨a, xs, rfl, .inl ⟨Evl.sq_of h1, fin _ _ _ _ _ _ q S1 T1 fun F2 H2 σ2 ρ2 S2 T2 hs => ?_⟩⟩
      obtain ⟨a', ys, e, h3, h4⟩ := (later_rd S1 f hw S2 T2 hs).list S2.sub
      cases e
      refine ⟨fun i hi => (by rw [dpAll_len h2]; simpa using hi : xs.length ≤ i), fun i d hd => ?_⟩
      obtain ⟨hi, hd⟩ := rv (dpAll_len h4) hd
      obtain ⟨w, e1, dw⟩ := dpAll_get' h4 hd
      refine ⟨⟨by rw [dpAll_len h2]; exact hi, ys, w, Evl.sq_of h3, by rw [dpAll_len h2]; exact e1⟩, fun x H' hy => ?_⟩
      obtain ⟨rfl, hy⟩ := hy
      have := hy ys (Evl.sq_of h3)
      rw [dpAll_len h2, e1] at this; cases this
      exact ⟨F2, Ex.refl _, Ex.refl _, S2.sub, fun _ _ z => .inl z, dw⟩
    · rename_i ds
      obtain ⟨a, xs, rfl, h1, h2, _⟩ := (wc_rdeq S1 f hw).tuple
      refine ⟨a, xs, rfl, .inr ⟨Evl.st_of (S1.sub _ _ h1), fin _ _ _ _ _ _ q S1 T1 fun F2 H2 σ2 ρ2 S2 T2 hs => ?_⟩⟩
      obtain ⟨a', ys, e, h3, h4, _⟩ := (later_rd S1 f hw S2 T2 hs).tuple
      cases e
      have h3 := S2.sub _ _ h3
      refine ⟨fun i hi => (by rw [dpAll_len h2]; simpa using hi : xs.length ≤ i), fun i d hd => ?_⟩
      obtain ⟨hi, hd⟩ := rv (dpAll_len h4) hd
      obtain ⟨w, e1, dw⟩ := dpAll_get' h4 hd
      refine ⟨⟨by rw [dpAll_len h2]; exact hi, ys, w, Evl.st_of h3, by rw [dpAll_len h2]; exact e1⟩, fun x H' hy => ?_⟩
      obtain ⟨rfl, hy⟩ := hy
      have := hy ys (Evl.st_of h3)
      rw [dpAll_len h2, e1] at this; cases this
      exact ⟨F2, Ex.refl _, Ex.refl _, S2.sub, fun _ _ z => .inl z, dw⟩
    · exact q.elim⟩
/-- a name that a loop walks -/
theorem de_lend {x : Str} {i : Nat} (h : PE X (.Name x pos) (tVar i)) : DE X (.Name x pos) (dLend i) := PE.le h fun σ H Q ⟨F, ρ, k, S, q, fin⟩ => by
  unfold dLend at q
  split at q
  · rename_i d e
    obtain ⟨v, e1, r⟩ := S.fz i d e
    exact ⟨v, e1, fin _ _ v F H q S .refl r⟩
  · rename_i d e
    obtain ⟨v, e1, r⟩ := S.rd i d e
    exact ⟨v, e1, fin _ _ v F H q S .refl r⟩
  · rename_i d e
    obtain ⟨a, e1, _⟩ := S.ow i _ _ d e
    have fr : fzR (.bo i) ρ fun d' ρ' => d' = d ∧ ρ' = ρ.set i (.fz d) := by unfold fzR; simp [e]
    obtain ⟨d', ρ', F', ⟨rfl, rfl⟩, S', T', dp, _⟩ := fzR_ok S (show FitsW X.K F H σ ρ H (.ref a) (.bo i) from e1) .refl fr
    exact ⟨.ref a, e1, fin _ _ _ F' H q S' T' dp⟩
  · rename_i κ d _ e
    obtain ⟨a, e1, ho, fa, _⟩ := S.ow i _ _ d e
    have hs : ∀ t κ' d', Slot.rd d ≠ .ow t κ' d' := fun _ _ _ z => by cases z
    have n : ¬ OA σ (ρ.set i (.rd d)) a := fun ⟨j, t, κ', d', q1, q2⟩ => by
      rcases get_set_cases q1 with ⟨e', z⟩ | ⟨e', z⟩
      · cases z
      · exact e' (S.inj i j _ _ _ _ _ _ a e z e1 q2)
    have rd : RdN X.K F H (OA σ (ρ.set i (.rd d))) (.ref a) d := .inr ⟨κ, a, rfl, ho, n⟩
    have S' : Sta X.K F H σ (ρ.set i (.rd d)) := S.drop hs (fun _ z => by cases z) (fun d' z => by cases z; exact ⟨_, e1, rd⟩)
    refine ⟨.ref a, e1, fin _ _ _ F H q S' ⟨⟨Ex.refl F, fun b u h _ => ?_, fun b u h => ⟨u, h⟩, fun b z => .inl (oa_set hs z), fun _ _ z => .inl z⟩, fun j t κ' d' z => ?_, fun j d' z => ?_⟩ rd⟩
    · exact h
    · rcases get_set_cases z with ⟨_, y⟩ | ⟨_, y⟩
      · cases y
      · exact ⟨d', y⟩
    · rcases get_set_cases z with ⟨y1, y⟩ | ⟨_, y⟩
      · cases y; exact .inr ⟨_, _, _, by rw [← y1]; exact e⟩
      · exact .inl y
  · exact q.elim
end
end TL

-- part TL12
/-! TL12: callees in one word; scopes of a text; the end of a law; gcd; the script's cells; more stores. -/
namespace TL
open PySem PySem.Spec L2
open Evl (Ex ex_l ex_t)

/-- a def of the module, its promise, its place -/
structure Cal (P : Program) (w : World) (K : PySem.W.Frag) (mg : Str → Option Value) (base : Heap) (k : Nat) (x : Str) (ms : List Md) (ts : TSp) : Prop where
  ex : ∃ (f : Addr) (fd : FuncData) (ps : List Str), FnOk P w K mg base CX0 k f fd ps (spT K ms ts) ∧ mg x = some (.ref f) ∧ PySem.W.keepIn K (.ref f) = true ∧ Binds K fd ps []
section
variable {X : Cx} {k : Nat} {x : Str} {ms : List Md} {ts : TSp} {e : Expr} {es : List Expr} {da : DTA} {p pos : Pos}
theorem de_own (C : Cal X.prog X.w X.K X.mg X.base k x ms ts) (hr : Room k X.A) (hg : Gl X x) (ha : DA X (e :: es) da) (hdb : (x == ("__debug__" : Str)) = false := by decide)
    (he : starEach (e :: es) X.env = (false, eval e X.env) :: starEach es X.env := by rfl) (hpl : (backTo pos (starEach es X.env)).any (·.1) = false := by rfl) : DE X (.Call (.Name x p) (e :: es) [] pos) (dCall ms ts da) := by
  obtain ⟨f, fd, ps, F, hm, hk, hb⟩ := C.ex
  exact de_call F hr hg hm hk hb ha hdb he hpl
end
section
variable {P : Program} {w : World} {K : PySem.W.Frag} {mg : Str → Option Value} {base : Heap}
theorem Cal.weak {k j : Nat} {x : Str} {ms : List Md} {ts : TSp} (C : Cal P w K mg base k x ms ts) (h : k ≤ j) : Cal P w K mg base j x ms ts := by
  obtain ⟨f, fd, ps, F, r⟩ := C.ex
  exact ⟨f, fd, ps, F.mono h, r⟩
theorem cal_mk {x : Str} {st : Stmt} {f : Addr} {fd : FuncData} {N ps : List Str} {k : Nat} {ms : List Md} {ts : TSp} (Fu : Fun K x x st f fd) (hm : mg x = some (.ref f)) (hb0 : Binds K fd ps []) (S : FnScope N ps (defScope st)) (hl : ms.length = ps.length) (b : DTS)
    (hb : ∀ cdv A outer s H E, Room k (A.deeper (PyProof.Rows.envOfC x (defScope st) s.heap.objs.size f cdv)) → DSs (cxOf CX0 P w K mg base N x (defScope st) f cdv A outer s H E).nox (defBody st) b)
    (sp : ∀ ds k as, ts ds k → ds.length = ms.length → as.length = nio ms → b { nx := finR ms as k (.fz .none), rt := finR ms as k } (entryR ms ds as ++ List.replicate (N.length - ms.length) .un)) : Cal P w K mg base (k + 1) x ms ts :=
  ⟨f, fd, ps, fn_ok Fu S hl b hb sp, hm, Fu.kp, hb0⟩
end
/-! ### scopes of a text, in the order in which they stand -/
def colE : Nat → Expr → List Scope
  | 0, _ => []
  | n + 1, e => match e with
    | .BoolOp _ es _ => es.flatMap (colE n)
    | .BinOp a _ b _ => colE n a ++ colE n b
    | .UnaryOp _ a _ => colE n a
    | .Lambda _ b s _ => s :: colE n b
    | .IfExp c a b _ => colE n c ++ (colE n a ++ colE n b)
    | .Dict ks vs _ => ks.flatMap (fun o => match o with | some e => colE n e | none => []) ++ vs.flatMap (colE n)
    | .ListComp e gs s _ => s :: (colE n e ++ gs.flatMap fun g => colE n g.iter ++ g.ifs.flatMap (colE n))
    | .SetComp e gs s _ => s :: (colE n e ++ gs.flatMap fun g => colE n g.iter ++ g.ifs.flatMap (colE n))
    | .DictComp a b gs s _ => s :: (colE n a ++ (colE n b ++ gs.flatMap fun g => colE n g.iter ++ g.ifs.flatMap (colE n)))
    | .Compare a _ bs _ => colE n a ++ bs.flatMap (colE n)
    | .Call f as ks _ => colE n f ++ (as.flatMap (colE n) ++ ks.flatMap fun k => colE n k.value)
    | .Attribute a _ _ => colE n a
    | .Subscript a b _ => colE n a ++ colE n b
    | .List es _ => es.flatMap (colE n)
    | .Tuple es _ _ => es.flatMap (colE n)
    | .Starred a _ => colE n a
    | .Slice a b c _ => (match a with | some e => colE n e | none => []) ++ ((match b with | some e => colE n e | none => []) ++ (match c with | some e => colE n e | none => []))
    | .JoinedStr es _ => es.flatMap (colE n)
    | .FormattedValue a _ _ _ => colE n a
    | _ => []
def colS : Nat → Stmt → List Scope
  | 0, _ => []
  | n + 1, s => match s with
    | .Return (some e) _ => colE 40 e
    | .Assign ts e _ => colE 40 e ++ ts.flatMap (colE 40)
    | .AugAssign t _ e _ => colE 40 t ++ colE 40 e
    | .For _ it b o _ => colE 40 it ++ (b.flatMap (colS n) ++ o.flatMap (colS n))
    | .While c b o _ => colE 40 c ++ (b.flatMap (colS n) ++ o.flatMap (colS n))
    | .If c b o _ => colE 40 c ++ (b.flatMap (colS n) ++ o.flatMap (colS n))
    | .Expr e _ => colE 40 e
    | _ => []
def scopeAt (st : Stmt) (i : Nat) : Scope := ((defBody st).flatMap (colS 20)).getD i (defScope st)

/-! ### gcd, imported by its name -/
@[simp] def gGcd : List D → (Res → Prop) → Prop
  | [.int a, .int b], k => k (.fz (.int (Nat.gcd a.natAbs b.natAbs)))
  | _, _ => False
section
variable {X : Cx} {x : Str} {id : String} {e : Expr} {es : List Expr} {da : DTA} {p pos : Pos} {g : List D → (Res → Prop) → Prop}
theorem cr_gGcd : CallR X (.builtin "math.gcd") (rn X.K gGcd) := by
  intro pins s σ H xs us Q I r ⟨F, ds, k, se, rd, g, fin⟩
  unfold gGcd at g
  split at g
  · obtain ⟨v, w, rfl, h, h'⟩ := rd.two
    cases h.int; cases h'.int
    exact cr_gcd pins s σ H _ us Q I r ⟨_, _, rfl, r2_val se g fin (.int _)⟩
  · exact g.elim
/-! ### the script -/
@[simp] def scrD (ns : List Int) : D := .dict [(.list (ns.map .int), .none)]
theorem scr_get {K : PySem.W.Frag} {F H : Hp} {v : V} {ns : List Int} (h : Dp K F v (scrD ns)) : ∃ a ms, v = .ref a ∧ ms = ns ∧ SqL K F a (ms.map V.int) := by
  unfold scrD at h
  generalize e : PyData.dict [(.list (ns.map .int), .none)] = d at h
  cases h with
  | @scr a ms h =>
    refine ⟨a, ms, rfl, ?_, h⟩
    injection e with e
    injection e with e _
    injection e with e _
    injection e with e
    have : ∀ l m : List Int, l.map PyData.int = m.map PyData.int → m = l := fun l => by
      induction l with
      | nil => intro m h; cases m with
        | nil => rfl
        | cons => simp at h
      | cons a l ih => intro m h; cases m with
        | nil => simp at h
        | cons b m =>
          simp only [List.map_cons, List.cons.injEq, PyData.int.injEq] at h
          rw [h.1, ih m h.2]
    exact this _ _ e
  | _ => cases e
end
end TL

-- part TL13
/-! TL13: list(reversed(..)), list(range(..)), names of the module that are built-ins, op= by place. -/
namespace TL
open PySem PySem.Spec L2
open Evl (Ex ex_l ex_t)
section
variable {prog : Program} {w : World} {A : Around} {E : Value → Shared → Prop} {s : Shared}
/-- a reversed list runs into an empty new list at S -/
theorem ext_rev {R : Result → Shared → Prop} {it l S : Addr} {items : Array Value} {c₀ : Nat} {res : Value} (hh : A.handled = none) (hit : s.heap.IsRevIter it l ((items.size : Int) - 1)) (hl : s.heap.IsList l items) (hne : l ≠ it) (hn : items.size ≤ sizeLine)
    (hSi : S ≠ it) (hSl : S ≠ l) (hS : s.heap.get? S = some { cls := .type "list", data := .seq #[] c₀ })
    (hR : ∀ (h' : Heap) (tk : Nat) (acc : Array Value) (c' : Nat), (∀ b o, b ≠ it → b ≠ S → s.heap.get? b = some o → h'.get? b = some o) → h'.get? S = some { cls := .type "list", dict := none, data := .seq acc c', slots := #[] } →
      ItemsOf (fun i v => items[items.size - 1 - i]? = some v) acc items.size → R (.ok (.ret res)) { s with heap := h', toks := tk }) :
    wpAny (model prog w) A.in1 (Builtin.List.listExtendWith (.ref S) (.ref it) res)
      (fun fin s' => match fin with | .done f => R (.ok f) s' | .again c' => c'.quiet = true ∧ codeAny (model prog w) A c' R s') (fun e s' => R (.error e) s') s := by
  have W := (Walks.listRev (prog := prog) (w := w) (A := A.in1) hh it l hne items).toS
  have hSf : S ∉ [it, l] := by
    intro z
    rcases List.mem_cons.mp z with z | z
    · exact hSi z
    · exact hSl (List.mem_singleton.mp z)
  have hT : s.TypeIs (.ref it) "list_reverseiterator" := hit.typeIs
  have hx : Builtin.List.listSameRef (.ref S) (.ref it) = false := by simp [Builtin.List.listSameRef, hSi]
  unfold Builtin.List.listExtendWith
  refine wpAny_bind (wpAny_typeOf hT ?_)
  rw [if_neg (by rw [hx]; decide)]
  refine wpAny_bind (wpAny_pyIter_revIter hit (wpAny_bind (wpAny_holding ?_)))
  unfold Builtin.List.listLengthHint
  refine wpAny_bind (wpAny_specialOf hT RT.nolen_lri ?_)
  show wpAny _ _ (specialOf (Value.ref it) (Str.ofString "__length_hint__") >>= _) _ _ s
  refine wpAny_bind (wpAny_specialOf hT RT.hint_lri ?_)
  generalize hq : ("list_reverseiterator.__length_hint__" : String) = q0
  wp_delta
  rw [show splitId q0 = some ("list_reverseiterator", "__length_hint__") from by subst hq; decide +kernel]
  subst hq
  refine wpAny_bind (wpAny_isInstance (b := true) hT (by rw [isSubtype_type]; kernel_rfl) (wpAny_pure ?_))
  rw [if_neg (by decide)]
  have e0 : ((items.size : Nat) : Int) - 1 - ((0 : Nat) : Int) = (items.size : Int) - 1 := by omega
  refine wpAny_pure ⟨plainId_quiet F.plain_extend_loop _, codeAny_extend_loopS W hn _ hSf _ items.size 0 _ _ _ rfl (Nat.zero_le _) ⟨Nat.zero_le _, by rw [e0]; exact hit, hl⟩ hS (ItemsOf.nil _) fun s' acc' c' hm hS' hacc => ?_⟩
  rw [Moved.eq_with hm]
  refine hR s'.heap s'.toks acc' c' (fun b o hb hbS e => hm.heap b o (fun z => ?_) e) hS' hacc
  rcases List.mem_cons.mp z with z | z
  · exact hbS z
  · exact hb (List.mem_singleton.mp z)
theorem call_list_rev {Q : Value → Shared → Prop} {it l : Addr} {items : Array Value} (hh : A.handled = none) (hit : s.heap.IsRevIter it l ((items.size : Int) - 1)) (hl : s.heap.IsList l items) (hne : l ≠ it) (hn : items.size ≤ sizeLine)
    (hQ : ∀ (h' : Heap) (tk : Nat) (acc : Array Value) (c' : Nat), (∀ b o, b ≠ it → s.heap.get? b = some o → h'.get? b = some o) → h'.get? s.heap.objs.size = some { cls := .type "list", dict := none, data := .seq acc c', slots := #[] } →
      ItemsOf (fun i v => items[items.size - 1 - i]? = some v) acc items.size → Q (.ref s.heap.objs.size) { s with heap := h', toks := tk }) : wpAny (model prog w) A (call (.type "list") [.ref it]) Q E s := by
  have hit0 := hit
  have hl0 := hl
  obtain ⟨oi, hoi, _⟩ := hit0
  obtain ⟨ol, hol, _⟩ := hl0
  refine callType_codes (Q₁ := fun obj s₁ => obj = .ref s.heap.objs.size ∧ s₁ = { s with heap := s.heap.push { cls := .type "list", data := .seq #[] } }) F.called_list (F.typeCall_list_1 _) F.entry_list_init (code_list_new _ ⟨rfl, rfl⟩) fun obj s₁ ⟨e1, e2⟩ => ?_
  subst e1 e2
  have hS : (s.heap.push { cls := .type "list", data := .seq #[] }).get? s.heap.objs.size = some { cls := .type "list", data := .seq #[] } := Heap.get?_push_size _ rfl
  refine ⟨⟨_, hS, rfl⟩, F.args_list_init_2 _ _, ?_⟩
  show wpAny _ A.in1.in1 (Builtin.List.listItems (.ref s.heap.objs.size) >>= fun old => Builtin.List.listUpdate (.ref s.heap.objs.size) (fun _ => #[]) >>= fun _ => letGo old.toList.reverse >>= fun _ => Builtin.List.listExtendWith (.ref s.heap.objs.size) (.ref it) .none) _ _ _
  refine wpAny_bind ?_
  unfold Builtin.List.listItems
  refine wpAny_bind (wpAny_seqItems hS rfl (wpAny_pure ?_))
  show wpAny _ A.in1.in1 (updateSeq s.heap.objs.size (fun _ => #[]) >>= fun _ => letGo (#[] : Array Value).toList.reverse >>= fun _ => Builtin.List.listExtendWith (.ref s.heap.objs.size) (.ref it) .none) _ _ _
  refine wpAny_bind (wpAny_updateSeq hS rfl ?_)
  have hS₂ := Heap.get?_update_self (Obj.mapSeq (fun _ => (#[] : Array Value))) hS rfl
  have oth : ∀ b o, b ≠ s.heap.objs.size → s.heap.get? b = some o → ((s.heap.push { cls := .type "list", data := .seq #[] }).update s.heap.objs.size (Obj.mapSeq (fun _ => (#[] : Array Value)))).get? b = some o :=
    fun b o hb e => (Heap.get?_update_other _ _ (Ne.symm hb)).trans (Heap.get?_push_of_some _ e)
  have n1 : s.heap.objs.size ≠ it := Nat.ne_of_gt (Heap.lt_size hoi)
  have n2 : s.heap.objs.size ≠ l := Nat.ne_of_gt (Heap.lt_size hol)
  refine wpAny_bind (wpAny_letGo (ext_rev (A := A.in1) hh (hit.at fun o e => oth _ o (Ne.symm n1) e) (hl.at fun o e => oth _ o (Ne.symm n2) e) hne hn n1 n2 hS₂ fun h' tk acc c' hk hS' hi => ?_))
  exact ⟨rfl, hQ h' tk acc c' (fun b o hb e => hk b o hb (Nat.ne_of_lt (Heap.lt_size e)) (oth b o (Nat.ne_of_lt (Heap.lt_size e)) e)) hS' hi⟩
end
section
variable {X : Cx} {x : Str} {id : String} {e : Expr} {es : List Expr} {da : DTE} {ea : DTA} {p p2 pos pos2 : Pos} {g : List D → (Res → Prop) → Prop}
/-- list(reversed(x)), x a list -/
@[simp] def dRevL (da : DTE) : DTE := fun ρ k => da ρ fun r ρ1 => wc r ρ1 fun d => match d with
  | .list ds => k (.tm .l (.list ds.reverse)) ρ1
  | _ => False
theorem dpAll_rev {K : PySem.W.Frag} {F : Hp} {vs : List V} {ds : List D} (h : DpAll K F vs ds) : DpAll K F vs.reverse ds.reverse := by
  induction vs generalizing ds with
  | nil => cases h; exact .nil
  | cons v vs ih => cases h with | cons p r => rw [List.reverse_cons, List.reverse_cons]; exact dpAll_app (ih r) (.cons p .nil)
theorem pe_listRev {te : TE} (hc : X.calm = true) (hg : Gl X "list") (hm : X.mg "list" = none) (hg2 : Gl X "reversed") (hm2 : X.mg "reversed" = none) (he : PE X e te)
    (hs : starEach [e] X.env = (false, eval e X.env) :: starEach [] X.env := by rfl)
    (hs2 : starEach [.Call (.Name "reversed" p2) [e] [] pos2] X.env = (false, eval (.Call (.Name "reversed" p2) [e] [] pos2) X.env) :: starEach [] X.env := by rfl) :
    PE X (.Call (.Name "list" p) [.Call (.Name "reversed" p2) [e] [] pos2] [] pos) (fun σ H Q => te σ H fun v H1 => ∃ (a : Addr) (xs : List V), v = .ref a ∧ SqL X.K H1 a xs ∧ ∀ q, H1 q = none → Q (.ref q) (upd H1 q (.lst xs.reverse))) := by
  refine ⟨fun pins s σ H Q I h => PyProof.Rows.Call_ (ld_blt I hg hm PyProof.Rows.boot_list (PyProof.Rows.callWith_type1 (PyProof.Rows.args_cons (PyProof.Rows.Call_ (ld_blt I hg2 hm2 PyProof.Rows.boot_reversed (PyProof.Rows.callWith_type1 (PyProof.Rows.args_cons (thn (he.run pins s σ H _ I h) fun u s1 ⟨v, H1, I1, r1, a, xs, ev, hq, q⟩ => PyProof.Rows.args_nil ?_) hs) hs rfl))) hs2) hs2 rfl))⟩
  subst ev
  obtain rfl : u = Value.ref a := r1
  obtain ⟨its, rv, p', hz⟩ := I1.list hq
  refine call_reversed_list p'.isList (PyProof.Rows.args_nil ?_)
  have k0 : ∀ b o, s1.heap.get? b = some o → (s1.heap.push (revObj a ((its.toArray.size : Int) - 1))).get? b = some o := fun b o e => Heap.get?_push_of_some _ e
  have I2 : Inv X pins σ H1 { s1 with heap := s1.heap.push (revObj a ((its.toArray.size : Int) - 1)) } := I1.kept (t' := s1.toks) k0
  obtain ⟨f0, f1, f2, f3, f4, f5⟩ := I1.fpOk (H' := H1) (b := s1.heap.objs.size) (Nat.le_refl _) (I1.hok.fresh (Nat.le_refl _))
  have hl := p'.isList
  have hl0 := hl
  obtain ⟨ol, hol, _⟩ := hl0
  have hn : its.toArray.size ≤ sizeLine := by rw [List.size_toArray, ← rv.length]; exact hz
  refine call_list_rev (s := { s1 with heap := s1.heap.push (revObj a ((its.toArray.size : Int) - 1)) }) (I1.ok.hd hc) ⟨_, Heap.get?_push_size _ rfl, rfl, rfl⟩ (hl.push _) (Nat.ne_of_lt (Heap.lt_size hol)) hn fun h' tk acc c' hk hS hi => ?_
  have hT : (s1.heap.push (revObj a ((its.toArray.size : Int) - 1))).objs.size ≤ (s1.heap.push (revObj a ((its.toArray.size : Int) - 1))).objs.size := Nat.le_refl _
  have nw : ObjOk X.prog X.w (upd H1 (s1.heap.push (revObj a ((its.toArray.size : Int) - 1))).objs.size (.lst xs.reverse)) h' (s1.heap.push (revObj a ((its.toArray.size : Int) - 1))).objs.size (.lst xs.reverse) :=
    ⟨by rw [List.length_reverse]; exact hz, acc.toList, c', RT.vals_rev rv hi, by rw [Array.toArray_toList]; exact hS⟩
  have I3 := I2.turnedNew (t' := tk) (ch := [s1.heap.objs.size]) (fun b o hb e => hk b o (fun z => hb (by rw [z]; exact List.mem_singleton.mpr rfl)) e) (fun b hb => by
    obtain rfl := List.mem_singleton.mp hb
    exact ⟨f0, f1, f2, f3, f4, f5⟩) hT nw
  exact ⟨.ref _, _, I3, rfl, q _ (I2.hok.fresh (Nat.le_refl _))⟩
theorem de_listRev (hc : X.calm = true) (hg : Gl X "list") (hm : X.mg "list" = none) (hg2 : Gl X "reversed") (hm2 : X.mg "reversed" = none) (he : DE X e da)
    (hs : starEach [e] X.env = (false, eval e X.env) :: starEach [] X.env := by rfl)
    (hs2 : starEach [.Call (.Name "reversed" p2) [e] [] pos2] X.env = (false, eval (.Call (.Name "reversed" p2) [e] [] pos2) X.env) :: starEach [] X.env := by rfl) :
    DE X (.Call (.Name "list" p) [.Call (.Name "reversed" p2) [e] [] pos2] [] pos) (dRevL da) :=
  PE.le (pe_listRev hc hg hm hg2 hm2 he hs hs2) fun σ H Q ⟨F, ρ, k, S, q, fin⟩ => ⟨F, ρ, _, S, q, fun r ρ1 v F1 H1 q S1 T1 f => by
    obtain ⟨d, rd, q⟩ := wc_rd S1 f q
    split at q
    · obtain ⟨a, xs, rfl, h1, h2⟩ := rd.list S1.sub
      refine ⟨a, xs, rfl, Evl.sq_of h1, fun p hp => ?_⟩
      have n := New.list (K := X.K) S1.sub hp (dpAll_rev h2)
      exact fin _ _ _ _ _ q (n.sta S1) (T1.trans n.tr) (n.fits S1 fun _ z => T1.none z)
    · exact q.elim⟩
/-- list(range(n)), list(range(a, b)) -/
def okLen (a b : Int) : Prop := okRg a ∧ okRg b ∧ (b - a).toNat ≤ 16777216
@[simp] def dRgL1 (da : DTE) : DTE := fun ρ k => da ρ fun r ρ1 => wc r ρ1 fun d => match d with
  | .int n => okLen 0 n ∧ k (.tm .l (.list (rangeD 0 1 (n - 0).toNat))) ρ1
  | _ => False
@[simp] def dRgL2 (da db : DTE) : DTE := fun ρ k => da ρ fun r ρ1 => db ρ1 fun r' ρ2 => wc r ρ2 fun d => wc r' ρ2 fun d' => match d, d' with
  | .int a, .int b => okLen a b ∧ k (.tm .l (.list (rangeD a 1 (b - a).toNat))) ρ2
  | _, _ => False
theorem dp_rg {K : PySem.W.Frag} {F : Hp} (a : Int) (n : Nat) : DpAll K F ((List.range n).map fun (i : Nat) => V.int (a + (i : Int))) (rangeD a 1 n) := by
  unfold rangeD
  have : ∀ l : List Nat, DpAll K F (l.map fun (i : Nat) => V.int (a + (i : Int))) (l.map fun (i : Nat) => .int (a + (i : Int) * 1)) := fun l => by
    induction l with
    | nil => exact .nil
    | cons i l ih => rw [List.map_cons, List.map_cons]; exact .cons (by rw [Int.mul_one]; exact .int _) ih
  exact this _
theorem de_listRg1 {a : Expr} (hc : X.calm = true) (hg : Gl X "list") (hm : X.mg "list" = none) (hg2 : Gl X "range") (hm2 : X.mg "range" = none) (ha : DE X a da) (na : starEach [a] X.env = (false, eval a X.env) :: starEach [] X.env := by rfl)
    (nb : starEach [.Call (.Name "range" p2) [a] [] pos2] X.env = (false, eval (.Call (.Name "range" p2) [a] [] pos2) X.env) :: starEach [] X.env := by rfl) : DE X (.Call (.Name "list" p) [.Call (.Name "range" p2) [a] [] pos2] [] pos) (dRgL1 da) :=
  PE.le (pe_listRg hc hg hm (prg_1 hg2 hm2 ha na) nb) fun σ H Q ⟨F, ρ, k, S, q, fin⟩ => ⟨F, ρ, _, S, q, fun r ρ1 v F1 H1 q S1 T1 f => by
    obtain ⟨d, rd, q⟩ := wc_rd S1 f q
    split at q
    · rename_i m
      cases rd.int
      obtain ⟨⟨o1, o2, o3⟩, q⟩ := q
      refine ⟨_, rfl, ⟨o1.1, o1.2, o2.1, o2.2, o3⟩, fun p hp => ?_⟩
      have n := New.list (K := X.K) S1.sub hp (dp_rg 0 (m - 0).toNat)
      exact fin _ _ _ _ _ q (n.sta S1) (T1.trans n.tr) (n.fits S1 fun _ z => T1.none z)
    · exact q.elim⟩
theorem de_listRg2 {a b : Expr} {db : DTE} (hc : X.calm = true) (hg : Gl X "list") (hm : X.mg "list" = none) (hg2 : Gl X "range") (hm2 : X.mg "range" = none) (ha : DE X a da) (hb : DE X b db) (na : starEach [a, b] X.env = (false, eval a X.env) :: starEach [b] X.env := by rfl)
    (nb : starEach [b] X.env = (false, eval b X.env) :: starEach [] X.env := by rfl) (hp : (backTo pos2 (starEach [b] X.env)).any (·.1) = false := by rfl)
    (nc : starEach [.Call (.Name "range" p2) [a, b] [] pos2] X.env = (false, eval (.Call (.Name "range" p2) [a, b] [] pos2) X.env) :: starEach [] X.env := by rfl) : DE X (.Call (.Name "list" p) [.Call (.Name "range" p2) [a, b] [] pos2] [] pos) (dRgL2 da db) :=
  PE.le (pe_listRg hc hg hm (prg_2 hg2 hm2 ha hb na nb hp) nc) fun σ H Q ⟨F, ρ, k, S, q, fin⟩ => up2 S q fun x y ρ' v u F1 H1 q S1 T1 f1 f2 => by
    obtain ⟨d, rd, q⟩ := wc_rd S1 f1 q
    obtain ⟨d', rd', q⟩ := wc_rd S1 f2 q
    split at q
    · rename_i i j _
      cases rd.int; cases rd'.int
      obtain ⟨⟨o1, o2, o3⟩, q⟩ := q
      refine ⟨_, _, rfl, rfl, ⟨o1.1, o1.2, o2.1, o2.2, o3⟩, fun p hp => ?_⟩
      have n := New.list (K := X.K) S1.sub hp (dp_rg i (j - i).toNat)
      exact fin _ _ _ _ _ q (n.sta S1) (T1.trans n.tr) (n.fits S1 fun _ z => T1.none z)
    · exact q.elim
/-- f(..), f the module's name of a built-in function -/
theorem de_fnG (hc : CallR X (.builtin id) (rn X.K g)) (hg : Gl X x) (hm : X.mg x = some (.builtin id)) (ha : DA X (e :: es) ea) (hdb : (x == ("__debug__" : Str)) = false := by decide)
    (he : starEach (e :: es) X.env = (false, eval e X.env) :: starEach es X.env := by rfl) (hpl : (backTo pos (starEach es X.env)).any (·.1) = false := by rfl) : DE X (.Call (.Name x p) (e :: es) [] pos) (dFn g ea) :=
  PE.le (pe_callBfun hc hg hm ha hdb he hpl) fun σ H Q h => up_fn h
end
end TL

-- part TL14
/-! TL14: isinstance, repr, is of bools, the script's cells, x[i] op= e. -/
namespace TL
open PySem PySem.Spec L2
open Evl (Ex ex_l ex_t)

/-! ### isinstance(x, T) -/
def tyS : D → String
  | .none => "NoneType"
  | .bool _ => "bool"
  | .int _ => "int"
  | .str _ => "str"
  | .list _ => "list"
  | .tuple _ => "tuple"
  | .dict _ => "dict"
@[irreducible] def isT (T : String) (d : D) : Option Bool := match d with
  | .dict _ => none
  | _ => kitB (tyS d) T
@[simp] theorem isT_int_int {i : Int} : isT "int" (.int i) = some true := by unfold isT; show kitB "int" "int" = _; decide +kernel
@[simp] theorem isT_int_bool {i : Bool} : isT "int" (.bool i) = some true := by unfold isT; show kitB "bool" "int" = _; decide +kernel
@[simp] theorem isT_int_str {i : Str} : isT "int" (.str i) = some false := by unfold isT; show kitB "str" "int" = _; decide +kernel
@[simp] theorem isT_int_list {i : List D} : isT "int" (.list i) = some false := by unfold isT; show kitB "list" "int" = _; decide +kernel
@[simp] theorem isT_int_tuple {i : List D} : isT "int" (.tuple i) = some false := by unfold isT; show kitB "tuple" "int" = _; decide +kernel
@[simp] theorem isT_int_none : isT "int" .none = some false := by unfold isT; show kitB "NoneType" "int" = _; decide +kernel
@[simp] theorem isT_bool_int {i : Int} : isT "bool" (.int i) = some false := by unfold isT; show kitB "int" "bool" = _; decide +kernel
@[simp] theorem isT_bool_bool {i : Bool} : isT "bool" (.bool i) = some true := by unfold isT; show kitB "bool" "bool" = _; decide +kernel
@[simp] theorem isT_str_int {i : Int} : isT "str" (.int i) = some false := by unfold isT; show kitB "int" "str" = _; decide +kernel
@[simp] theorem isT_str_bool {i : Bool} : isT "str" (.bool i) = some false := by unfold isT; show kitB "bool" "str" = _; decide +kernel
@[simp] theorem isT_str_str {i : Str} : isT "str" (.str i) = some true := by unfold isT; show kitB "str" "str" = _; decide +kernel
@[simp] theorem isT_str_list {i : List D} : isT "str" (.list i) = some false := by unfold isT; show kitB "list" "str" = _; decide +kernel
@[simp] theorem isT_str_tuple {i : List D} : isT "str" (.tuple i) = some false := by unfold isT; show kitB "tuple" "str" = _; decide +kernel
@[simp] theorem isT_str_none : isT "str" .none = some false := by unfold isT; show kitB "NoneType" "str" = _; decide +kernel
@[simp] theorem isT_list_list {i : List D} : isT "list" (.list i) = some true := by unfold isT; show kitB "list" "list" = _; decide +kernel
@[simp] theorem isT_list_tuple {i : List D} : isT "list" (.tuple i) = some false := by unfold isT; show kitB "tuple" "list" = _; decide +kernel
@[simp] theorem isT_list_int {i : Int} : isT "list" (.int i) = some false := by unfold isT; show kitB "int" "list" = _; decide +kernel
@[simp] theorem isT_list_str {i : Str} : isT "list" (.str i) = some false := by unfold isT; show kitB "str" "list" = _; decide +kernel
@[simp] theorem isT_list_none : isT "list" .none = some false := by unfold isT; show kitB "NoneType" "list" = _; decide +kernel
@[simp] theorem isT_tuple_list {i : List D} : isT "tuple" (.list i) = some false := by unfold isT; show kitB "list" "tuple" = _; decide +kernel
@[simp] theorem isT_tuple_tuple {i : List D} : isT "tuple" (.tuple i) = some true := by unfold isT; show kitB "tuple" "tuple" = _; decide +kernel
@[simp] theorem isT_tuple_int {i : Int} : isT "tuple" (.int i) = some false := by unfold isT; show kitB "int" "tuple" = _; decide +kernel
@[simp] theorem isT_tuple_str {i : Str} : isT "tuple" (.str i) = some false := by unfold isT; show kitB "str" "tuple" = _; decide +kernel
@[simp] theorem isT_tuple_none : isT "tuple" .none = some false := by unfold isT; show kitB "NoneType" "tuple" = _; decide +kernel
@[simp] def dIsI (T : String) (da : DTE) : DTE := fun ρ k => da ρ fun r ρ1 => wc r ρ1 fun d => match isT T d with
  | some b => k (.fz (.bool b)) ρ1
  | none => False
section
variable {X : Cx} {e : Expr} {es : List Expr} {da db : DTE} {p p2 pos : Pos} {T : String}
theorem rd_ty {K : PySem.W.Frag} {F H : Hp} {v : V} {d : D} (s : Ex F H) (h : RdAt K F H v d) (hd : ∀ ps, d ≠ .dict ps) : TyX K H v (.type (tyS d)) := by
  rcases h with h | ⟨κ, a, rfl, h⟩
  · cases h with
    | non => exact .base .non
    | bl b => exact .base (.bl b)
    | int i => exact .base (.int i)
    | str x => exact .base (.str x)
    | lst h _ => exact .base (.lst (s _ _ h))
    | tup h _ => exact .base (.tup (s _ _ h))
    | scr h => exact absurd rfl (hd _)
  · cases κ with
    | l => obtain ⟨xs, ds, rfl, h1, _⟩ := h; exact .base (.lst h1)
    | k => obtain ⟨_, ps, rfl, _⟩ := h; exact absurd rfl (hd _)
    | t => obtain ⟨_, ps, rfl, _⟩ := h; exact absurd rfl (hd _)
theorem de_isI {x : Str} {y : Str} (hg : Gl X x) (hm : X.mg x = none) (hv : bootBuiltins x = some (.builtin "isinstance")) (hg2 : Gl X y) (hm2 : X.mg y = none) (hv2 : bootBuiltins y = some (.type T)) (ha : DE X e da)
    (hn : x ≠ "__name__" := by decide) (hdb : (x == ("__debug__" : Str)) = false := by decide) (hn2 : y ≠ "__name__" := by decide) (hdb2 : (y == ("__debug__" : Str)) = false := by decide)
    (he : starEach [e, .Name y p2] X.env = (false, eval e X.env) :: starEach [.Name y p2] X.env := by rfl) (he2 : starEach [.Name y p2] X.env = (false, eval (.Name y p2) X.env) :: starEach [] X.env := by rfl) (hpl : (backTo pos (starEach [.Name y p2] X.env)).any (·.1) = false := by rfl) :
    DE X (.Call (.Name x p) [e, .Name y p2] [] pos) (dIsI T da) :=
  PE.le (pe_callB call_isi hg hm hv (pa_cons ha (pa_cons (pe_bltn (v := .ty T) hg2 hm2 hv2 rfl hn2 hdb2) pa_nil he2) he) hn hdb he hpl) fun σ H Q ⟨F, ρ, k, S, q, fin⟩ => ⟨F, ρ, _, S, q, fun r ρ1 v F1 H1 q S1 T1 f => by
    obtain ⟨d, rd, q⟩ := wc_rd S1 f q
    split at q
    · rename_i b e0
      have hd : ∀ ps, d ≠ .dict ps := fun ps z => by subst z; unfold isT at e0; cases e0
      refine ⟨v, .ty T, .type (tyS d), .type T, b, rfl, .ty T, rd_ty S1.sub rd hd, kit_ty ?_, fin _ _ _ _ _ q S1 T1 (.bl b)⟩
      unfold isT at e0
      split at e0
      · cases e0
      · exact e0
    · exact q.elim⟩
/-- repr of an int, of a text -/
@[simp] def gRepr : List D → (Res → Prop) → Prop
  | [.int i], k => i.natAbs.log2 < 1920 ∧ k (.fz (.str (toString i)))
  | [.str z], k => (reprText z).length ≤ sizeLine ∧ k (.fz (.str (reprText z)))
  | [.bool b], k => k (.fz (.str (if b = true then "True" else "False")))
  | _, _ => False
theorem call_repr_str : CallR X (.builtin "repr") (fun xs H Q => ∃ i, xs = [.str i] ∧ (reprText i).length ≤ sizeLine ∧ Q (.str (reprText i)) H) := by
  intro pins s σ H xs us Q I r h
  obtain ⟨i, rfl, hz, q⟩ := h
  obtain ⟨u, rfl, t, rfl⟩ := vals1 r
  exact PySem.P.repr_of_str ⟨.str _, H, I.tok _, ⟨_, rfl⟩, q⟩ hz
/-! ### is True, is False -/
theorem cr_gRepr : CallR X (.builtin "repr") (rn X.K gRepr) := by
  intro pins s σ H xs us Q I r ⟨F, ds, k, se, rd, g, fin⟩
  unfold gRepr at g
  split at g
  · obtain ⟨v, rfl, h⟩ := rd.one
    cases h.int
    exact SkE.call_repr_int pins s σ H _ us Q I r ⟨_, rfl, g.1, r2_val se g.2 fin (.str _)⟩
  · obtain ⟨v, rfl, h⟩ := rd.one
    cases h.str
    exact call_repr_str pins s σ H _ us Q I r ⟨_, rfl, g.1, r2_val se g.2 fin (.str _)⟩
  · rename_i b
    obtain ⟨v, rfl, h⟩ := rd.one
    cases h.bool
    obtain ⟨u, rfl, ru⟩ := vals1 r
    cases (show u = Value.bool b from ru)
    exact PySem.P.repr_of_bool ⟨.str _, H, I.tok _, by cases b <;> exact ⟨_, rfl⟩, r2_val se g fin (.str _)⟩
  · exact g.elim
theorem val_isB {v : V} {u : Value} {b : Bool} (r : RelV v u) (hv : ∀ c, v ≠ .bl c) : plainIs u (.bool b) = true ∧ u ≠ .bool b := by
  cases v with
  | non => cases (show u = Value.none from r); exact ⟨rfl, fun z => by cases z⟩
  | bl c => exact absurd rfl (hv c)
  | int i => obtain ⟨t, q⟩ := (show ∃ t, u = Value.int i t from r); cases q; exact ⟨rfl, fun z => by cases z⟩
  | str i => obtain ⟨t, q⟩ := (show ∃ t, u = Value.str i t from r); cases q; exact ⟨rfl, fun z => by cases z⟩
  | byt i => obtain ⟨t, q⟩ := (show ∃ t, u = Value.bytes i t from r); cases q; exact ⟨rfl, fun z => by cases z⟩
  | flt i => obtain ⟨t, q⟩ := (show ∃ t, u = Value.float i t from r); cases q; exact ⟨rfl, fun z => by cases z⟩
  | ref a => cases (show u = Value.ref a from r); exact ⟨rfl, fun z => by cases z⟩
  | ty n => cases (show u = Value.type n from r); exact ⟨rfl, fun z => by cases z⟩
@[simp] def isBl (d : D) (b : Bool) : Bool := match d with | .bool c => c == b | _ => false
@[simp] def gIs : D → D → (Res → Prop) → Prop
  | d, .bool b, k => k (.fz (.bool (isBl d b)))
  | _, _, _ => False
@[simp] def gIsNot : D → D → (Res → Prop) → Prop
  | d, .bool b, k => k (.fz (.bool (!isBl d b)))
  | _, _, _ => False
theorem RdAt.notB {K : PySem.W.Frag} {F H : Hp} {v : V} {d : D} (h : RdAt K F H v d) (hd : ∀ c, d ≠ .bool c) : ∀ c, v ≠ .bl c := by
  intro c e
  subst e
  rcases h with h | ⟨κ, a, e, _⟩
  · cases h; exact hd _ rfl
  · cases e
theorem op_gIs : OpR X (compareOp .Is) (r2 X.K gIs) := by
  intro pins s σ H x y v u Q I rx ry ⟨F, dx, dy, k, se, hx, hy, g, fin⟩
  unfold gIs at g
  split at g
  · rename_i b
    cases hy.bool
    cases (show u = Value.bool b from ry)
    have go : ∀ c, c = isBl dx b → EP X pins σ Q (.bool c) s := fun c hc => ⟨.bl c, H, I, rfl, r2_val se g fin (by rw [hc]; exact .bl _)⟩
    by_cases hb : ∃ c, dx = .bool c
    · obtain ⟨c, rfl⟩ := hb
      cases hx.bool
      cases (show v = Value.bool c from rx)
      by_cases e : c = b
      · subst e
        exact wpAny_is_self rfl (go true (by simp [isBl]))
      · exact wpAny_is_other rfl (fun z => e (Value.bool.inj z)) (go false (by simp [isBl, e]))
    · obtain ⟨h1, h2⟩ := val_isB (b := b) rx (hx.notB fun c z => hb ⟨c, z⟩)
      refine wpAny_is_other h1 h2 (go false ?_)
      cases dx with
      | bool c => exact absurd ⟨c, rfl⟩ hb
      | _ => rfl
  · exact g.elim
theorem op_gIsNot : OpR X (compareOp .IsNot) (r2 X.K gIsNot) := by
  intro pins s σ H x y v u Q I rx ry ⟨F, dx, dy, k, se, hx, hy, g, fin⟩
  unfold gIsNot at g
  split at g
  · rename_i b
    cases hy.bool
    cases (show u = Value.bool b from ry)
    have go : ∀ c, c = !isBl dx b → EP X pins σ Q (.bool c) s := fun c hc => ⟨.bl c, H, I, rfl, r2_val se g fin (by rw [hc]; exact .bl _)⟩
    by_cases hb : ∃ c, dx = .bool c
    · obtain ⟨c, rfl⟩ := hb
      cases hx.bool
      cases (show v = Value.bool c from rx)
      by_cases e : c = b
      · subst e
        exact wpAny_isNot_self rfl (go false (by simp [isBl]))
      · exact wpAny_isNot_other rfl (fun z => e (Value.bool.inj z)) (go true (by simp [isBl, e]))
    · obtain ⟨h1, h2⟩ := val_isB (b := b) rx (hx.notB fun c z => hb ⟨c, z⟩)
      refine wpAny_isNot_other h1 h2 (go true ?_)
      cases dx with
      | bool c => exact absurd ⟨c, rfl⟩ hb
      | _ => rfl
  · exact g.elim
/-! ### the script -/
@[simp] def gLenS : List D → (Res → Prop) → Prop
  | [.dict [(.list ds, .none)]], k => ∃ ns, intsOf ds = some ns ∧ k (.fz (.int ns.length))
  | _, _ => False
theorem RdAt.scr {K : PySem.W.Frag} {F H : Hp} {v : V} {ns : List Int} (s : Ex F H) (h : RdAt K F H v (scrD ns)) (hn : ∀ κ a, ¬ OwAt K F H κ a (scrD ns)) : ∃ a, v = .ref a ∧ SqL K H a (ns.map V.int) := by
  rcases h with h | ⟨κ, a, _, h⟩
  · obtain ⟨a, ms, e1, e2, h'⟩ := scr_get (H := H) h
    rw [e2] at h'
    exact ⟨a, e1, ex_l s h'⟩
  · exact absurd h (hn κ a)
theorem no_ow {K : PySem.W.Frag} {F H : Hp} {κ : Kd} {a : Addr} {ns : List Int} : ¬ OwAt K F H κ a (scrD ns) := fun h => by
  cases κ with
  | l => obtain ⟨_, _, e, _⟩ := h; cases e
  | k =>
    obtain ⟨kvs, ps, e, _, h⟩ := h
    unfold scrD at e
    cases e
    cases h with | cons h1 _ =>
      have h1 := h1.1
      revert h1
      generalize (_ : Key × V).1 = k
      intro h1
      cases k <;> cases h1
  | t =>
    obtain ⟨kvs, ps, e, _, h⟩ := h
    unfold scrD at e
    cases e
    cases h with | cons h1 _ => exact absurd h1.1 (by intro z; cases z)
theorem cr_gLenS : CallR X (.builtin "len") (rn X.K gLenS) := by
  intro pins s σ H xs us Q I r ⟨F, ds, k, se, rd, g, fin⟩
  unfold gLenS at g
  split at g
  · obtain ⟨ns, e, g⟩ := g
    cases intsOf_eq e
    obtain ⟨v, rfl, h⟩ := rd.one
    obtain ⟨a, rfl, h1⟩ := RdAt.scr se h fun _ _ => no_ow
    exact call_len_seq pins s σ H _ us Q I r ⟨a, _, rfl, .inl h1, by rw [List.length_map]; exact r2_val se g fin (.int _)⟩
  · exact g.elim
@[simp] def gIxS : D → D → (Res → Prop) → Prop
  | .dict [(.list ds, .none)], .int i, k => ∃ ns, intsOf ds = some ns ∧ ∃ n, atI ns i = some n ∧ k (.fz (.int n))
  | _, _, _ => False
theorem atI_map {α β : Type} {f : α → β} {xs : List α} {i : Int} {n : α} (h : atI xs i = some n) : atI (xs.map f) i = some (f n) := by
  unfold atI at h ⊢
  rw [List.length_map]
  cases hj : ixN xs.length i with
  | none => rw [hj] at h; cases h
  | some j =>
    rw [hj] at h
    show (xs.map f)[j]? = _
    rw [List.getElem?_map, show xs[j]? = some n from h]
    rfl
theorem de_ixS {a b : Expr} (ha : DE X a da) (hb : DE X b db) (hs : PlainIx b := by intro _ _; rfl) : DE X (.Subscript a b pos) (dBin gIxS da db) :=
  PE.le (pe_ix ix_list ha hb hs) fun σ H Q ⟨F, ρ, k, S, q, fin⟩ => up2 S q fun x y ρ' v u F' H' q S' T f1 f2 => by
    obtain ⟨dx, r1, q⟩ := wc_rd S' f1 q
    obtain ⟨dy, r2', q⟩ := wc_rd S' f2 q
    unfold gIxS at q
    split at q
    · obtain ⟨ns, e, n, hn, q9⟩ := q
      cases intsOf_eq e
      obtain ⟨a, rfl, h1⟩ := RdAt.scr S'.sub r1 fun _ _ => no_ow
      cases r2'.int
      exact ⟨a, _, _, _, rfl, rfl, h1, atI_map hn, fin _ _ _ _ _ q9 S' T (.int _)⟩
    · exact q.elim
/-! ### x[i] op= e: x a name that owns a list -/
def rGetL (K : PySem.W.Frag) : V → V → Hp → VK → Prop := fun o i H Q => ∃ a xs n z, o = .ref a ∧ i = .int n ∧ SqL K H a xs ∧ atI xs n = some z ∧ Q z H
theorem get_list : PGet X (rGetL X.K) := by
  intro pins s σ H o i ov iv Q I ro ri h
  obtain ⟨p, xs, i, z, rfl, rfl, hq, he, q⟩ := h
  cases ro
  obtain ⟨t, rfl⟩ := ri
  obtain ⟨its, r, pl, hz⟩ := I.list hq
  obtain ⟨j, h1, h2, h3, h4, h5⟩ := atI_get he
  obtain ⟨w, ew, rw'⟩ := r.get h2
  have hl := r.length
  have hn := line63
  have fin : EP X pins σ Q w s := ⟨z, H, I, rw', q⟩
  by_cases h0 : 0 ≤ i
  · have hj : i.toNat = j := by
      rw [seqIndex_of h0 h5] at h1
      exact Option.some.inj h1
    exact wpAny_getItem_list pl.isList h0 (by omega) (by simpa [hj] using ew) fin
  · have hj : (i + (its.toArray.size : Int)).toNat = j := by
      rw [seqIndex_neg (by omega) h4] at h1
      rw [List.size_toArray, ← hl]
      exact Option.some.inj h1
    exact wpAny_getItem_list_neg pl.isList (by omega) (by rw [List.size_toArray] <;> omega) (by omega) (by rw [hj]; simpa using ew) fin
@[simp] def dAugI (i : Nat) (f : Int → Int → Int) (di da : DTE) : DTS := fun E ρ => isOl ρ i ∧ di ρ fun rj ρ1 => wc rj ρ1 fun dj => match dj, ρ1[i]? with
  | .int j, some (.ow _ .l (.list ds)) => ∃ n, atI ds j = some (.int n) ∧ da ρ1 fun r ρ2 => wc r ρ2 fun d => match d, ρ2[i]? with
    | .int m, some (.ow t .l (.list es)) => ∃ jj, ixN es.length j = some jj ∧ E.nx (ρ2.set i (.ow t .l (.list (es.set jj (.int (f n m))))))
    | _, _ => False
  | _, _ => False
theorem ds_augI {o ix : Expr} {pos tpos : Pos} {op : Operator} {i : Nat} {f : Int → Int → Int} {di : DTE} (ho : DE X o (dName i)) (hi : DE X ix di) (he : DE X e da) (hp : PIp X op (ipI f)) 
    (ha : ∀ ov iv new, augStore ix ov iv new = (do holding [new, ov, iv] (setItem ov iv new); release [new, ov, iv] []; pure .next) := by intros; rfl) : DS X (.AugAssign (.Subscript o ix tpos) op e pos) (dAugI i f di da) :=
  PS.le (ps_augS ho hi get_list he hp set_list ha) fun E σ H ⟨F, ρ, G, S, ⟨q0, q⟩, f1, f2, f3, f4⟩ => by
    obtain ⟨t, d, e0⟩ := isOl_get q0
    refine ⟨F, ρ, fun r' ρ' => r' = .bo i ∧ ρ' = ρ, S, by unfold dName; rw [e0]; exact ⟨rfl, rfl⟩, fun r' ρ1' w F1 H1 q1 S1 T1 g1 => ?_⟩
    obtain ⟨rfl, rfl⟩ := q1
    have g1 : σ[i]? = some (some w) := g1
    refine ⟨F1, _, _, S1, q, fun rj ρ1 v F2 H2 q S2 T2 fj => ?_⟩
    obtain ⟨dj, rd, q⟩ := wc_rd S2 fj q
    split at q
    · rename_i j t' ds e2
      cases rd.int
      obtain ⟨n, hn, q⟩ := q
      obtain ⟨a, g3, ⟨xs, _, hd, h1, h2⟩, _⟩ := S2.ow i _ _ _ e2
      cases hd
      rw [g1] at g3; cases g3
      obtain ⟨z, ez, dz⟩ := atI_dp h2 hn
      cases dz
      refine ⟨a, xs, j, _, rfl, rfl, Evl.sq_of h1, ez, F2, ρ1, _, S2, q, fun r ρ2 u F3 H3 q S3 T3 f' => ?_⟩
      obtain ⟨d, rd', q⟩ := wc_rd S3 f' q
      split at q
      · rename_i m t2 es e3
        cases rd'.int
        obtain ⟨jj, hj, q⟩ := q
        refine ⟨n, m, rfl, rfl, ?_⟩
        obtain ⟨a', g3, ⟨ys, _, hd, h3, h4⟩, _⟩ := S3.ow i _ _ _ e3
        cases hd
        rw [g1] at g3; cases g3
        refine ⟨a, ys, j, jj, rfl, rfl, h3, by rw [dpAll_len h4]; exact hj, ?_⟩
        obtain ⟨S5, T5⟩ := S3.updOwn e3 g1 (fun b hb => upd_ne hb) (show OwAt X.K F3 (upd H3 a (.lst (ys.set jj (.int (f n m))))) .l a (.list (es.set jj (.int (f n m)))) from ⟨_, _, rfl, upd_same, dpAll_set (.int _) jj h4⟩)
        exact f1 _ _ _ _ q S5 (T1.trans (T2.trans (T3.trans T5))).toTr
      · exact q.elim
    · exact q.elim
end
end TL

-- part TL15
/-! TL15: more tests, op=, callees without a promise. -/
namespace TL
open PySem PySem.Spec L2
open Evl (Ex ex_l ex_t)
section
variable {X : Cx} {a b c e : Expr} {es : List Expr} {da db dc : DTE} {p p2 pos : Pos} {T : String}
theorem dt_isN {j pos'} (ha : DE X a da) : DT X (.Compare a [.Is] [.Constant .none j pos'] pos) (dTest (dUn gIsN da)) :=
  PT.le (pt_cmp (pc_isN ha) rfl) fun σ H Q h => by
    obtain ⟨F, ρ, k, S, q, fin⟩ := h
    refine ⟨F, ρ, _, S, q, fun x ρ1 v F1 H1 q1 S1 T1 f1 => ?_⟩
    obtain ⟨dx, r1, q1⟩ := wc_rd S1 f1 q1
    rw [r1.non_iff]
    exact ⟨_, rfl, fin _ _ _ _ q1 S1 T1⟩
theorem dt_notN {j pos'} (ha : DE X a da) : DT X (.Compare a [.IsNot] [.Constant .none j pos'] pos) (dTest (dUn gNotN da)) :=
  PT.le (pt_cmp (pc_notN ha) rfl) fun σ H Q h => by
    obtain ⟨F, ρ, k, S, q, fin⟩ := h
    refine ⟨F, ρ, _, S, q, fun x ρ1 v F1 H1 q1 S1 T1 f1 => ?_⟩
    obtain ⟨dx, r1, q1⟩ := wc_rd S1 f1 q1
    rw [r1.non_iff]
    exact ⟨_, rfl, fin _ _ _ _ q1 S1 T1⟩
theorem dt_chain {op op' : CmpOp} {g g' : D → D → (Res → Prop) → Prop} (ho : OpR X (compareOp op) (r2 X.K g)) (ho' : OpR X (compareOp op') (r2 X.K g')) (ha : DE X a da) (hb : DE X b db) (hc : DE X c dc)
    (hm : lastMarks [op, op'] [b, c] = false := by with_unfolding_all rfl) : DT X (.Compare a [op, op'] [b, c] pos) (dTest (dChain g g' da db dc)) :=
  PT.le (pt_chain ho ho' ha hb hc hm) fun σ H Q h => by
    obtain ⟨F, ρ, k, S, q, fin⟩ := up_test h
    refine up2 S q fun x y ρ1 v u F1 H1 q S1 T1 f1 f2 => ?_
    obtain ⟨dx, r1, q⟩ := wc_rd S1 f1 q
    obtain ⟨dy, r2, q⟩ := wc_rd S1 f2 q
    refine ⟨F1, dx, dy, _, S1.sub, r1, r2, q, fun z w F2 H2 kz n => ?_⟩
    have S2 := n.sta S1
    have T2 := T1.trans n.tr
    have f3 := n.fit
    split at kz
    · rename_i bb
      have f3 : Dp X.K F2 w (.bool bb) := f3
      cases f3
      refine ⟨bb, rfl, ?_⟩
      cases bb with
      | true =>
        refine ⟨F2, ρ1, _, S2, kz, fun z ρ3 w3 F3 H3 q3 S3 T3 f4 => ?_⟩
        exact op2_fin q3 S3 (T2.trans T3) ((f2.later n.tr.toTr).later T3.toTr) (f4.back fun _ z => T2.none z) fin
      | false => exact fin _ _ _ _ _ kz S2 T2 (.bl false)
    · exact kz.elim
@[simp] def gSubI : D → D → (Res → Prop) → Prop
  | .int a, .int b, k => k (.fz (.int (a - b)))
  | _, _, _ => False
theorem op_gSubI : OpR X (inplaceOp .Sub) (r2 X.K gSubI) := by
  intro pins s σ H x y v u Q I rx ry ⟨F, dx, dy, k, se, hx, hy, g, fin⟩
  unfold gSubI at g
  split at g
  · rename_i a b
    cases hx.int; cases hy.int
    exact iop_sub pins s σ H _ _ v u Q I rx ry ⟨a, b, rfl, rfl, r2_val se g fin (.int _)⟩
  · exact g.elim
@[simp] def gMulI : D → D → (Res → Prop) → Prop
  | .int a, .int b, k => okMul a b ∧ k (.fz (.int (a * b)))
  | _, _, _ => False
theorem op_gMulI : OpR X (inplaceOp .Mult) (r2 X.K gMulI) := by
  intro pins s σ H x y v u Q I rx ry ⟨F, dx, dy, k, se, hx, hy, g, fin⟩
  unfold gMulI at g
  split at g
  · rename_i a b
    cases hx.int; cases hy.int
    exact iop_mul pins s σ H _ _ v u Q I rx ry ⟨a, b, rfl, rfl, g.1, r2_val se g.2 fin (.int _)⟩
  · exact g.elim
@[simp] def gFdivI : D → D → (Res → Prop) → Prop
  | .int a, .int b, k => (0 < b ∧ b < 1073741824) ∧ k (.fz (.int (a / b)))
  | _, _, _ => False
theorem op_gFdivI : OpR X (inplaceOp .FloorDiv) (r2 X.K gFdivI) := by
  intro pins s σ H x y v u Q I rx ry ⟨F, dx, dy, k, se, hx, hy, g, fin⟩
  unfold gFdivI at g
  split at g
  · rename_i a b
    cases hx.int; cases hy.int
    exact iop_fdiv pins s σ H _ _ v u Q I rx ry ⟨a, b, rfl, rfl, g.1, r2_val se g.2 fin (.int _)⟩
  · exact g.elim
/-- texts -/
@[simp] def gEqS : D → D → (Res → Prop) → Prop
  | .str a, .str b, k => k (.fz (.bool (decide (a = b))))
  | _, _, _ => False
theorem op_gEqS : OpR X (compareOp .Eq) (r2 X.K gEqS) := by
  intro pins s σ H x y v u Q I rx ry ⟨F, dx, dy, k, se, hx, hy, g, fin⟩
  unfold gEqS at g
  split at g
  · rename_i a b
    cases hx.str; cases hy.str
    have e : decide (V.str a = V.str b) = decide (a = b) := by simp
    exact op_eq pins s σ H _ _ v u Q I rx ry ⟨rfl, by rw [e]; exact r2_val se g fin (.bl _)⟩
  · exact g.elim
@[simp] def gNeS : D → D → (Res → Prop) → Prop
  | .str a, .str b, k => k (.fz (.bool (!decide (a = b))))
  | _, _, _ => False
theorem op_gNeS : OpR X (compareOp .NotEq) (r2 X.K gNeS) := by
  intro pins s σ H x y v u Q I rx ry ⟨F, dx, dy, k, se, hx, hy, g, fin⟩
  unfold gNeS at g
  split at g
  · rename_i a b
    cases hx.str; cases hy.str
    have e : decide (V.str a = V.str b) = decide (a = b) := by simp
    exact op_ne pins s σ H _ _ v u Q I rx ry ⟨rfl, by rw [e]; exact r2_val se g fin (.bl _)⟩
  · exact g.elim
end
section
variable {P : Program} {w : World} {K : PySem.W.Frag} {mg : Str → Option Value} {base : Heap}
theorem cal_no {x : Str} {st : Stmt} {f : Addr} {fd : FuncData} {ps : List Str} {ms : List Md} (Fu : Fun K x x st f fd) (hm : mg x = some (.ref f)) (hb0 : Binds K fd ps []) : Cal P w K mg base 0 x ms (fun _ _ => False) :=
  ⟨f, fd, ps, ⟨fun vs H Q E h => by obtain ⟨_, _, _, _, _, _, h, _⟩ := h; exact h.elim, fun A outer s H args us vs Q E hr he hb hv h => by obtain ⟨_, _, _, _, _, _, h, _⟩ := h; exact h.elim⟩, hm, Fu.kp, hb0⟩
theorem Cal.imp {k : Nat} {x : Str} {ms : List Md} {ts ts' : TSp} (C : Cal P w K mg base k x ms ts) (h : ∀ ds k, ts' ds k → ts ds k) : Cal P w K mg base k x ms ts' := by
  obtain ⟨f, fd, ps, F, r⟩ := C.ex
  exact ⟨f, fd, ps, F.imp fun vs H Q E ⟨F, ds, k, a, b, c, d, e⟩ => ⟨F, ds, k, a, b, c, h _ _ d, e⟩, r⟩
end
end TL

-- part TL16
/-! TL16: loops and comprehensions by invariants. -/
namespace TL
open PySem PySem.Spec L2
section
variable {g : DTG} {s : DTS} {E : DEnds} {t : DTT} {tt : DTT} {te : DTE} {src : List (Nat × D)} {vs : List Nat} {k : List D → List Slot → Prop}
theorem loop_ind {items : List D} {ρ : List Slot} (I : List D → List D → List Slot → Prop) (h0 : I [] items ρ) (hnil : ∀ ρ, I items [] ρ → E.nx ρ)
    (hcons : ∀ done d rest ρ, items = done ++ d :: rest → I done (d :: rest) ρ → (∀ ρ', I (done ++ [d]) rest ρ' → dLoop g s E rest ρ') → g d ρ fun ρ1 => s { nx := dLoop g s E rest, rt := E.rt, bk := E.nx, ct := dLoop g s E rest } ρ1) : dLoop g s E items ρ := by
  have key : ∀ rest done ρ, items = done ++ rest → I done rest ρ → dLoop g s E rest ρ := fun rest => by
    induction rest with
    | nil => intro done ρ e h; rw [List.append_nil] at e; subst e; exact hnil ρ h
    | cons d rest ih => exact fun done ρ e h => hcons done d rest ρ e h fun ρ' h' => ih (done ++ [d]) ρ' (by rw [e]; simp) h'
  exact key items [] ρ rfl h0
theorem comp_ind {items : List D} {ρ : List Slot} (I : List D → List D → List D → List Slot → Prop) (h0 : I [] [] items ρ) (hnil : ∀ acc ρ, I acc items [] ρ → stl src ρ ∧ k acc ρ)
    (hcons : ∀ acc done d rest ρ, items = done ++ d :: rest → I acc done (d :: rest) ρ → (∀ acc' ρ', I acc' (done ++ [d]) rest ρ' → dCompL g tt te src vs k rest acc' ρ') → stl src ρ ∧ g d ρ fun ρ1 => tt ρ1 fun b ρ2 => if b = true then te ρ2 fun r ρ3 => fzR r ρ3 fun v ρ4 => acc.length < sizeLine ∧ dCompL g tt te src vs k rest (acc ++ [v]) (wipeR ρ4 vs)
      else dCompL g tt te src vs k rest acc (wipeR ρ2 vs)) : dCompL g tt te src vs k items [] ρ := by
  have key : ∀ rest done acc ρ, items = done ++ rest → I acc done rest ρ → dCompL g tt te src vs k rest acc ρ := fun rest => by
    induction rest with
    | nil => intro done acc ρ e h; rw [List.append_nil] at e; subst e; exact hnil acc ρ h
    | cons d rest ih => exact fun done acc ρ e h => hcons acc done d rest ρ e h fun acc' ρ' h' => ih (done ++ [d]) acc' ρ' (by rw [e]; simp) h'
  exact key items [] [] ρ rfl h0
theorem comp_pure {items : List D} {ρ : List Slot} (p : D → Bool) (f : D → D) (hl : items.length ≤ sizeLine) (hs : stl src ρ)
    (step : ∀ d, d ∈ items → ∀ (kk : D → List Slot → Prop) (kn : List Slot → Prop), (p d = true → kk (f d) ρ) → (p d = false → kn ρ) → g d ρ fun ρ1 => tt ρ1 fun b ρ2 => if b = true then te ρ2 fun r ρ3 => fzR r ρ3 fun v ρ4 => kk v (wipeR ρ4 vs) else kn (wipeR ρ2 vs))
    (fin : k ((items.filter p).map f) ρ) : dCompL g tt te src vs k items [] ρ := by
  refine comp_ind (fun acc done rest ρ' => ρ' = ρ ∧ acc = (done.filter p).map f) ⟨rfl, rfl⟩ (fun acc ρ' ⟨e, e'⟩ => by rw [e, e']; exact ⟨hs, fin⟩) fun acc done d rest ρ' he ⟨e, e'⟩ ih => ?_
  subst e
  refine ⟨hs, step d (by rw [he]; simp) (fun v ρ4 => acc.length < sizeLine ∧ dCompL g tt te src vs k rest (acc ++ [v]) ρ4) (fun ρ2 => dCompL g tt te src vs k rest acc ρ2) (fun hp => ⟨?_, ih _ _ ⟨rfl, ?_⟩⟩) fun hp => ih _ _ ⟨rfl, ?_⟩⟩
  · rw [e', List.length_map]
    have h1 := List.length_filter_le p done
    have h2 : items.length = done.length + (rest.length + 1) := by rw [he]; simp
    omega
  · rw [e', List.filter_append, List.map_append]; simp [hp]
  · rw [e', List.filter_append, List.map_append]; simp [hp]
theorem comp_of {α : Type} {items : List D} {ρ : List Slot} {l : List α} {c : α → D} (he : items = l.map c) (p : α → Bool) (f : α → D) (hl : l.length ≤ sizeLine) (hs : stl src ρ)
    (step : ∀ x, x ∈ l → ∀ (kk : D → List Slot → Prop) (kn : List Slot → Prop), (p x = true → kk (f x) ρ) → (p x = false → kn ρ) → g (c x) ρ fun ρ1 => tt ρ1 fun b ρ2 => if b = true then te ρ2 fun r ρ3 => fzR r ρ3 fun v ρ4 => kk v (wipeR ρ4 vs) else kn (wipeR ρ2 vs))
    (fin : k ((l.filter p).map f) ρ) : dCompL g tt te src vs k items [] ρ := by
  subst he
  have key : ∀ (rest done : List α), l = done ++ rest → dCompL g tt te src vs k (rest.map c) ((done.filter p).map f) ρ := fun rest => by
    induction rest with
    | nil => intro done e; rw [List.append_nil] at e; subst e; exact ⟨hs, fin⟩
    | cons x rest ih =>
      intro done e
      have n : dCompL g tt te src vs k (rest.map c) (((done ++ [x]).filter p).map f) ρ := ih (done ++ [x]) (by rw [e]; simp)
      refine ⟨hs, step x (by rw [e]; simp) (fun v ρ4 => ((done.filter p).map f).length < sizeLine ∧ dCompL g tt te src vs k (rest.map c) ((done.filter p).map f ++ [v]) ρ4) (fun ρ2 => dCompL g tt te src vs k (rest.map c) ((done.filter p).map f) ρ2) (fun hp => ⟨?_, ?_⟩) fun hp => ?_⟩
      · rw [List.length_map]
        have h1 := List.length_filter_le p done
        have h2 : l.length = done.length + (rest.length + 1) := by rw [e]; simp
        omega
      · rw [List.filter_append, List.map_append] at n
        simpa [hp] using n
      · rw [List.filter_append, List.map_append] at n
        simpa [hp] using n
  exact key l [] rfl
/-- no test, ints -/
theorem comp_ints {α : Type} {items : List D} {ρ : List Slot} {l : List α} {c : α → D} (he : items = l.map c) (f : α → Int) (hl : l.length ≤ sizeLine) (hs : stl src ρ)
    (step : ∀ x, x ∈ l → ∀ (kk : D → List Slot → Prop), kk (.int (f x)) ρ → g (c x) ρ fun ρ1 => te ρ1 fun r ρ3 => fzR r ρ3 fun v ρ4 => kk v (wipeR ρ4 vs))
    (fin : k ((l.map f).map .int) ρ) : dCompL g dYes te src vs k items [] ρ := by
  refine comp_of he (fun _ => true) (fun x => .int (f x)) hl hs (fun x hx kk kn hk _ => step x hx kk (hk rfl)) ?_
  rw [List.filter_eq_self.mpr fun _ _ => rfl]
  rw [List.map_map] at fin
  exact fin
/-- a test, ints -/
theorem comp_fints {α : Type} {items : List D} {ρ : List Slot} {l : List α} {c : α → D} (he : items = l.map c) (p : α → Bool) (f : α → Int) (hl : l.length ≤ sizeLine) (hs : stl src ρ)
    (step : ∀ x, x ∈ l → ∀ (kk : D → List Slot → Prop) (kn : List Slot → Prop), (p x = true → kk (.int (f x)) ρ) → (p x = false → kn ρ) → g (c x) ρ fun ρ1 => tt ρ1 fun b ρ2 => if b = true then te ρ2 fun r ρ3 => fzR r ρ3 fun v ρ4 => kk v (wipeR ρ4 vs) else kn (wipeR ρ2 vs))
    (fin : k (((l.filter p).map f).map .int) ρ) : dCompL g tt te src vs k items [] ρ := by
  refine comp_of he p (fun x => .int (f x)) hl hs step ?_
  rw [List.map_map] at fin
  exact fin
theorem while_ind {ρ : List Slot} (I : Nat → List Slot → Prop) (h0 : ∃ m, I m ρ)
    (step : ∀ m ρ (kk : List Slot → Prop), I m ρ → (∀ ρ' m', m' < m → I m' ρ' → kk ρ') → t ρ fun b ρ1 => if b = true then s { nx := kk, rt := E.rt, bk := E.nx, ct := kk } ρ1 else E.nx ρ1) : dWhile t s E ρ := by
  have key : ∀ n m ρ, I m ρ → m < n → dWhileN t s E n ρ := fun n => by
    induction n with
    | zero => intro m ρ _ h; omega
    | succ n ih => exact fun m ρ h hm => step m ρ _ h fun ρ' m' h1 h2 => ih m' ρ' h2 (by omega)
  obtain ⟨m, h⟩ := h0
  exact ⟨m + 1, key _ m ρ h (Nat.lt_succ_self m)⟩
end
end TL

-- part TL17
/-! TL17: small words for the pure proofs. -/
namespace TL
open PySem PySem.Spec L2
theorem ifd {c A B : Prop} [Decidable c] (h1 : c → A) (h2 : ¬ c → B) : if decide c = true then A else B := by
  by_cases h : c
  · rw [if_pos (decide_eq_true h)]; exact h1 h
  · rw [if_neg (by simpa using h)]; exact h2 h
theorem ifnd {c A B : Prop} [Decidable c] (h1 : ¬ c → A) (h2 : c → B) : if (!decide c) = true then A else B := by
  by_cases h : c
  · rw [if_neg (by simpa using h)]; exact h2 h
  · rw [if_pos (by simpa using h)]; exact h1 h
theorem ifb {b : Bool} {A B : Prop} (h1 : b = true → A) (h2 : b = false → B) : if b = true then A else B := by
  cases b with
  | true => exact h1 rfl
  | false => exact h2 rfl
theorem ifnb {b : Bool} {A B : Prop} (h1 : b = false → A) (h2 : b = true → B) : if (!b) = true then A else B := by
  cases b with
  | true => exact h2 rfl
  | false => exact h1 rfl
theorem atI_of {α : Type} {xs : List α} {i : Int} {d : α} (h0 : 0 ≤ i) (h : xs[i.toNat]? = some d) : atI xs i = some d := by
  have hl := (List.getElem?_eq_some_iff.mp h).1
  unfold atI ixN
  rw [if_pos h0, if_pos (by omega)]
  exact h
theorem atI_ints {ns : List Int} {i : Int} {n : Int} (h0 : 0 ≤ i) (h : ns[i.toNat]? = some n) : atI (ns.map PyData.int) i = some (.int n) :=
  atI_of h0 (by rw [List.getElem?_map, h]; rfl)
theorem ixN_of {n : Nat} {i : Int} (h0 : 0 ≤ i) (h : i < n) : ixN n i = some i.toNat := by
  unfold ixN
  rw [if_pos h0, if_pos h]
theorem get_lt {ns : List Int} {i : Int} (h0 : 0 ≤ i) (h : i < ns.length) : ∃ n, ns[i.toNat]? = some n ∧ n ∈ ns := by
  have hl : i.toNat < ns.length := by omega
  exact ⟨_, List.getElem?_eq_getElem hl, List.getElem_mem hl⟩
/-- behind a statement any state that fits M -/
theorem seq_join {s u : DTS} {E : DEnds} {ρ : List Slot} (M : List Slot → Prop) (hs : ∀ kk : List Slot → Prop, (∀ ρ, M ρ → kk ρ) → s { E with nx := kk } ρ) (hu : ∀ ρ, M ρ → u E ρ) : dSeq s u E ρ := hs _ hu
theorem seq_to {s u : DTS} {E : DEnds} {ρ : List Slot} (ρ' : List Slot) (hs : ∀ kk : List Slot → Prop, kk ρ' → s { E with nx := kk } ρ) (hu : u E ρ') : dSeq s u E ρ := hs _ hu
theorem okio0 {ms : List Md} {rs : List Res} {ρ : List Slot} (h : idx ms rs = []) : okIo ms rs ρ := by
  unfold okIo
  rw [h]
  exact ⟨List.nodup_nil, fun _ _ => List.not_mem_nil, fun _ z => absurd z List.not_mem_nil⟩
theorem okio1 {ms : List Md} {rs : List Res} {ρ : List Slot} {i : Nat} (h : idx ms rs = [i]) (h2 : i ∉ rbo ms rs) (h3 : isOw ρ i) : okIo ms rs ρ := by
  unfold okIo
  rw [h]
  refine ⟨by simp, fun j hj z => ?_, fun j z => ?_⟩
  · rw [List.mem_singleton.mp z] at hj; exact h2 hj
  · rw [List.mem_singleton.mp z]; exact h3
theorem as1 {as : List Addr} (h : as.length = 1) : ∃ a, as = [a] := by
  match as, h with
  | [a], _ => exact ⟨a, rfl⟩
theorem as0 {as : List Addr} (h : as.length = 0) : as = [] := by
  match as, h with
  | [], _ => rfl
theorem mulSmall {a b : Int} (h : -(2 ^ 64) < b ∧ b < 2 ^ 64) : okMul a b := .inr h
theorem mulSmall' {a b : Int} (h : -(2 ^ 64) < a ∧ a < 2 ^ 64) : okMul a b := .inl h
theorem sh_int {i : Int} : Sh (.int i) := by show (PyData.canLay0 (.int i) && decide (PyData.depth (.int i) ≤ 64)) = true; simp [PyData.canLay0, PyData.depth]
theorem sh_bool {i : Bool} : Sh (.bool i) := by show (PyData.canLay0 (.bool i) && decide (PyData.depth (.bool i) ≤ 64)) = true; simp [PyData.canLay0, PyData.depth]
theorem sh_none : Sh .none := by show (PyData.canLay0 .none && decide (PyData.depth .none ≤ 64)) = true; simp [PyData.canLay0, PyData.depth]
/-- data without dicts of a depth of at most n -/
def ShN (n : Nat) (d : D) : Prop := PyData.canLay0 d = true ∧ PyData.depth d ≤ n
theorem ShN.sh {n : Nat} {d : D} (h : ShN n d) (hn : n ≤ 64 := by decide) : Sh d := by
  show (PyData.canLay0 d && decide (PyData.depth d ≤ 64)) = true
  rw [h.1, Bool.true_and, decide_eq_true_eq]
  exact Nat.le_trans h.2 hn
theorem shn_int {i : Int} {n : Nat} : ShN n (.int i) := ⟨by simp [PyData.canLay0], by simp [PyData.depth]⟩
theorem shn_bool {i : Bool} {n : Nat} : ShN n (.bool i) := ⟨by simp [PyData.canLay0], by simp [PyData.depth]⟩
theorem shn_none {n : Nat} : ShN n .none := ⟨by simp [PyData.canLay0], by simp [PyData.depth]⟩
theorem shn_str {n : Nat} {z : Str} (h : PyData.strOk z = true) : ShN n (.str z) := ⟨by simpa [PyData.canLay0] using h, by simp [PyData.depth]⟩
theorem shn_all {n : Nat} : ∀ {ds : List D}, (∀ d ∈ ds, ShN n d) → PyData.canLayAll0 ds = true ∧ PyData.depthAll ds ≤ n
  | [], _ => ⟨by simp [PyData.canLayAll0], by simp [PyData.depthAll]⟩
  | d :: ds, h => by
    obtain ⟨h1, h2⟩ := shn_all (ds := ds) fun e he => h e (List.mem_cons_of_mem _ he)
    obtain ⟨h3, h4⟩ := h d List.mem_cons_self
    refine ⟨by simp [PyData.canLayAll0, h1, h3], ?_⟩
    simp only [PyData.depthAll]
    exact Nat.max_le.mpr ⟨h4, h2⟩
theorem shn_list {n : Nat} {ds : List D} (h : ∀ d ∈ ds, ShN n d) : ShN (n + 1) (.list ds) := by
  obtain ⟨h1, h2⟩ := shn_all h
  exact ⟨by simpa [PyData.canLay0] using h1, by simp only [PyData.depth]; omega⟩
theorem shn_tuple {n : Nat} {ds : List D} (h : ∀ d ∈ ds, ShN n d) : ShN (n + 1) (.tuple ds) := by
  obtain ⟨h1, h2⟩ := shn_all h
  exact ⟨by simpa [PyData.canLay0] using h1, by simp only [PyData.depth]; omega⟩
theorem shn_ints {n : Nat} {ns : List Int} : ShN (n + 1) (.list (ns.map .int)) := shn_list fun d hd => by
  obtain ⟨i, _, rfl⟩ := List.mem_map.mp hd
  exact shn_int
theorem sh_ints {ns : List Int} : Sh (.list (ns.map .int)) := (shn_ints (n := 0)).sh
/-! data without bools and dicts: == is = -/
mutual
def Nb : D → Bool
  | .none => true
  | .bool _ => false
  | .int _ => true
  | .str _ => true
  | .list ds => NbAll ds
  | .tuple ds => NbAll ds
  | .dict _ => false
def NbAll : List D → Bool
  | [] => true
  | d :: ds => Nb d && NbAll ds
end
mutual
theorem eqv_iff : ∀ {d e : D}, Nb d = true → Nb e = true → (PyData.eqv d e = true ↔ d = e)
  | .none, e, _, h => by cases e <;> simp [PyData.eqv, Nb] at h ⊢
  | .bool _, _, h, _ => by simp [Nb] at h
  | .int i, e, _, h => by cases e <;> simp [PyData.eqv, Nb] at h ⊢
  | .str i, e, _, h => by cases e <;> simp [PyData.eqv, Nb] at h ⊢
  | .list ds, e, h, h' => by
    cases e with
    | list es =>
      simp only [PyData.eqv, PyData.list.injEq]
      exact eqvAll_iff (by simpa [Nb] using h) (by simpa [Nb] using h')
    | _ => simp [PyData.eqv, Nb] at h' ⊢
  | .tuple ds, e, h, h' => by
    cases e with
    | tuple es =>
      simp only [PyData.eqv, PyData.tuple.injEq]
      exact eqvAll_iff (by simpa [Nb] using h) (by simpa [Nb] using h')
    | _ => simp [PyData.eqv, Nb] at h' ⊢
  | .dict _, _, h, _ => by simp [Nb] at h
theorem eqvAll_iff : ∀ {ds es : List D}, NbAll ds = true → NbAll es = true → (PyData.eqvAll ds es = true ↔ ds = es)
  | [], [], _, _ => by simp [PyData.eqvAll]
  | [], _ :: _, _, _ => by simp [PyData.eqvAll]
  | _ :: _, [], _, _ => by simp [PyData.eqvAll]
  | d :: ds, e :: es, h, h' => by
    simp only [NbAll, Bool.and_eq_true] at h h'
    simp only [PyData.eqvAll, Bool.and_eq_true, List.cons.injEq]
    rw [eqv_iff h.1 h'.1, eqvAll_iff h.2 h'.2]
end
theorem nbAll_of : ∀ {ds : List D}, (∀ d ∈ ds, Nb d = true) → NbAll ds = true
  | [], _ => rfl
  | d :: ds, h => by simp only [NbAll, Bool.and_eq_true]; exact ⟨h d List.mem_cons_self, nbAll_of fun e he => h e (List.mem_cons_of_mem _ he)⟩
theorem nb_list {ds : List D} (h : ∀ d ∈ ds, Nb d = true) : Nb (.list ds) = true := by simp only [Nb]; exact nbAll_of h
theorem nb_tuple {ds : List D} (h : ∀ d ∈ ds, Nb d = true) : Nb (.tuple ds) = true := by simp only [Nb]; exact nbAll_of h
theorem nb_int {i : Int} : Nb (.int i) = true := by simp [Nb]
theorem nb_str {i : Str} : Nb (.str i) = true := by simp [Nb]
theorem nb_none : Nb .none = true := by simp [Nb]
theorem nb_ints {ns : List Int} : Nb (.list (ns.map .int)) = true := nb_list fun d hd => by
  obtain ⟨i, _, rfl⟩ := List.mem_map.mp hd
  exact nb_int
theorem eqv_self {d : D} (h : Nb d = true) : PyData.eqv d d = true := (eqv_iff h h).mpr rfl
theorem eqv_int {i j : Int} : PyData.eqv (.int i) (.int j) = decide (i = j) := by
  by_cases h : i = j
  · simp [PyData.eqv, h]
  · simp [PyData.eqv, h]
theorem mem_range {lo : Int} {n : Nat} {d : D} (h : d ∈ rangeD lo 1 n) : ∃ i : Nat, i < n ∧ d = .int (lo + i) := by
  unfold rangeD at h
  obtain ⟨i, hi, rfl⟩ := List.mem_map.mp h
  exact ⟨i, List.mem_range.mp hi, by rw [Int.mul_one]⟩
theorem rangeD_len {lo c : Int} {n : Nat} : (rangeD lo c n).length = n := by unfold rangeD; simp
/-- an item of a range by its place -/
theorem range_at {lo : Int} {n : Nat} {done rest : List D} {d : D} (h : rangeD lo 1 n = done ++ d :: rest) : d = .int (lo + done.length) ∧ done.length < n := by
  have hl : done.length < n := by
    have := congrArg List.length h
    rw [rangeD_len] at this
    simp at this
    omega
  have h1 : (rangeD lo 1 n)[done.length]? = some d := by rw [h]; simp
  unfold rangeD at h1
  rw [List.getElem?_map, List.getElem?_range hl] at h1
  simp at h1
  exact ⟨h1.symm, hl⟩
theorem zipD_ints (ns ws : List Int) : zipD (ns.map .int) (ws.map .int) = (List.zip ns ws).map fun p => .tuple [.int p.1, .int p.2] := by
  induction ns generalizing ws with
  | nil => simp [zipD]
  | cons n ns ih => cases ws with
    | nil => simp [zipD]
    | cons w ws => simp [zipD, ih]
theorem enumD_map {α : Type} (c : α → D) (l : List α) : ∀ i : Nat, enumD (i : Int) (l.map c) = (l.zipIdx i).map fun p => .tuple [.int (p.2 : Int), c p.1] := by
  induction l with
  | nil => intro i; rfl
  | cons x l ih => intro i; simp only [List.map_cons, enumD, List.zipIdx_cons, List.cons.injEq, true_and]; exact ih (i + 1)
theorem range_map (lo : Int) (n : Nat) : rangeD lo 1 n = (List.range n).map fun i => .int (lo + (i : Int)) := by
  unfold rangeD
  simp
theorem cut_to {α : Type} {xs : List α} {i : Int} (h : 0 ≤ i) : cutD xs none (some i) = xs.take i.toNat := by
  unfold cutD HT.sIx
  simp only [List.drop_zero, Nat.sub_zero]
  rw [if_neg (by omega)]
  by_cases hl : i.toNat ≤ xs.length
  · rw [Nat.min_eq_left hl]
  · rw [Nat.min_eq_right (by omega), List.take_of_length_le (Nat.le_refl _), List.take_of_length_le (by omega)]
theorem cut_from {α : Type} {xs : List α} {i : Int} (h : 0 ≤ i) : cutD xs (some i) none = xs.drop i.toNat := by
  unfold cutD HT.sIx
  simp only
  rw [if_neg (by omega)]
  by_cases hl : i.toNat ≤ xs.length
  · rw [Nat.min_eq_left hl, List.take_of_length_le (by rw [List.length_drop]; omega)]
  · rw [Nat.min_eq_right (by omega), Nat.sub_self, List.take_zero, List.drop_eq_nil_of_le (by omega)]
theorem cut_mid {α : Type} {xs : List α} {i j : Int} (h : 0 ≤ i) (h' : i ≤ j) (hl : j ≤ xs.length) : cutD xs (some i) (some j) = (xs.drop i.toNat).take (j - i).toNat := by
  unfold cutD HT.sIx
  simp only
  rw [if_neg (by omega), if_neg (by omega), Nat.min_eq_left (by omega), Nat.min_eq_left (by omega)]
  congr 1
  omega
/-- sorted ints -/
def srt (ns : List Int) : List Int := ns.mergeSort (fun a b => decide (a ≤ b))
theorem srt_perm (ns : List Int) : (srt ns).Perm ns := List.mergeSort_perm ..
theorem srt_le (ns : List Int) : (srt ns).Pairwise (· ≤ ·) := by
  have := List.pairwise_mergeSort (le := fun a b : Int => decide (a ≤ b)) (fun a b c h1 h2 => by simp at *; omega) (fun a b => by simp; omega) ns
  exact this.imp fun h => by simpa using h
theorem sorted_uniq : ∀ {l m : List Int}, l.Perm m → l.Pairwise (· ≤ ·) → m.Pairwise (· ≤ ·) → l = m
  | [], m, p, _, _ => (List.Perm.nil_eq p)
  | x :: l, [], p, _, _ => absurd p.length_eq (by simp)
  | x :: l, y :: m, p, h, h' => by
    rw [List.pairwise_cons] at h h'
    have e : x = y := by
      have h1 : x ∈ y :: m := p.mem_iff.mp List.mem_cons_self
      have h2 : y ∈ x :: l := p.mem_iff.mpr List.mem_cons_self
      rcases List.mem_cons.mp h1 with z | z
      · exact z
      · rcases List.mem_cons.mp h2 with z' | z'
        · exact z'.symm
        · have := h.1 y z'; have := h'.1 x z; omega
    subst e
    rw [sorted_uniq (List.Perm.cons_inv p) h.2 h'.2]
theorem srt_eq {ms ns : List Int} (p : ms.Perm ns) (h : ms.Pairwise (· ≤ ·)) : ms = srt ns := sorted_uniq (p.trans (srt_perm ns).symm) h (srt_le ns)
theorem srt_len (ns : List Int) : (srt ns).length = ns.length := (srt_perm ns).length_eq
theorem srt_mem {ns : List Int} {x : Int} : x ∈ srt ns ↔ x ∈ ns := (srt_perm ns).mem_iff
theorem perm_sum {a b : List Int} (p : a.Perm b) : a.sum = b.sum := by
  induction p with
  | nil => rfl
  | cons x _ ih => simp [ih]
  | swap x y l => simp only [List.sum_cons]; omega
  | trans _ _ h1 h2 => exact h1.trans h2
theorem srt_sum (ns : List Int) : (srt ns).sum = ns.sum := perm_sum (srt_perm ns)
theorem map_int_inj {a b : List Int} (h : a.map PyData.int = b.map PyData.int) : a = b := by
  induction a generalizing b with
  | nil => cases b with
    | nil => rfl
    | cons => simp at h
  | cons x a ih => cases b with
    | nil => simp at h
    | cons y b => simp only [List.map_cons, List.cons.injEq, PyData.int.injEq] at h; rw [h.1, ih h.2]
end TL

-- part Scm
/-! Scm: what the laws' common helpers promise. -/
namespace TL.cm
open PySem PySem.Spec L2
/-- ints as a list -/
def IL (ns : List Int) : D := .list (ns.map .int)
/-- the box of draws -/
def BoxD (d : D) : Prop := ∃ (r : List Int) (n : Int), d = .list [.list (r.map .int), .int n] ∧ r ≠ [] ∧ 0 ≤ n
@[simp] abbrev m__law_cell : List Md := [.fz, .fz]
def t__law_cell : TSp := fun ds k => ∃ ns i, ds = [scrD ns, .int i] ∧ 0 ≤ i ∧ ∀ n : Int, k (.fz (.int n)) []
@[simp] abbrev m__law_digits : List Md := [.fz, .fz, .fz]
def t__law_digits : TSp := fun ds k => ∃ ns a b, ds = [scrD ns, .int a, .int b] ∧ 0 ≤ a ∧ a < b ∧ b ≤ 1000 ∧ ∀ r : List Int, (∀ x ∈ r, 0 ≤ x ∧ x < 1000) → r ≠ [] → k (.tm .l (.list (r.map .int))) []
@[simp] abbrev m__law_draw : List Md := [.io .l, .fz]
def t__law_draw : TSp := fun ds k => ∃ b many, ds = [b, .int many] ∧ BoxD b ∧ 0 < many ∧ ∀ (x : Int) b', 0 ≤ x → x < many → BoxD b' → k (.fz (.int x)) [b']
@[simp] abbrev m__law_pick : List Md := [.io .l, .rd]
def t__law_pick : TSp := fun ds k => ∃ b row, (ds = [b, .list row] ∨ ds = [b, .tuple row]) ∧ BoxD b ∧ row ≠ [] ∧ ∀ x b', x ∈ row → BoxD b' → k (.fz x) [b']
/-- data that _law_same may be told twice -/
def Sm : Nat → D → Prop
  | _, .none => True
  | _, .bool _ => True
  | _, .int i => i.natAbs.log2 < 1920
  | _, .str z => (reprText z).length ≤ sizeLine
  | n + 1, .list ds => ds.length ≤ sizeLine ∧ ∀ d ∈ ds, Sm n d
  | n + 1, .tuple ds => ds.length ≤ sizeLine ∧ ∀ d ∈ ds, Sm n d
  | _, _ => False
@[simp] abbrev m__law_same : List Md := [.rd, .rd]
def u__law_same (n : Nat) : TSp := fun ds k => ∃ d, ds = [d, d] ∧ Sm n d ∧ k (.fz (.bool true)) []
def t__law_same : TSp := fun ds k => ∃ d, ds = [d, d] ∧ Sm 9 d ∧ k (.fz (.bool true)) []
end TL.cm

-- part Dcm
/-! Dcm: the defs as transformers over trees. Printed by gen.py. -/
namespace TL.cm
open PySem PySem.Spec L2

/-- slots: 0 script, 1 k -/
def d__law_cell : DTS :=
  (dSeq (dIfS (dTest (dBin gLt (dName 1) (dFn gLenS (dCons (dName 0) dNil))))
    (dRet (dBin gIxS (dName 0) (dName 1)))
    dNext)
  (dRet (dC (.int 0))))
def r__law_cell (ds : List D) (as : List Addr) : List Slot := entryR m__law_cell ds as ++ List.replicate 0 .un
def Ok__law_cell : Prop := ∀ ds k as, t__law_cell ds k → ds.length = m__law_cell.length → as.length = nio m__law_cell → d__law_cell { nx := finR m__law_cell as k (.fz .none), rt := finR m__law_cell as k } (entryR m__law_cell ds as ++ List.replicate (2 - m__law_cell.length) .un)
/-- slots: 0 script, 1 first, 2 last, 3 digits, 4 k, 5 cell, 6 lap, 7 seed -/
def b__law_digits_1 : DTS :=
  (dIfS (dTest (dBin gGt (dName 5) (dC (.int 0))))
          (dSeq (dDrop (dMu 3 gAppend (dCons (dBin gMod (dFn gInt (dCons (dName 5) dNil)) (dC (.int 1000))) dNil)))
          (dSet 5 (dBin gFdiv (dName 5) (dC (.int 1000)))))
          dNext)
def b__law_digits_2 : DTS :=
  (dSeq (dSet 7 (dBin gMod (dFn gInt (dCons (dBin gAdd (dBin gAdd (dBin gMul (dName 7) (dC (.int 16807))) (dBin gMul (dC (.int 7)) (dName 6))) (dC (.int 1))) dNil)) (dC (.int 2147483647))))
        (dDrop (dMu 3 gAppend (dCons (dBin gMod (dFn gInt (dCons (dBin gFdiv (dName 7) (dC (.int 997))) dNil)) (dC (.int 1000))) dNil))))
def b__law_digits_3 : DTS :=
  (dSeq (dSet 5 (dCall m__law_cell t__law_cell (dCons (dName 0) (dCons (dName 4) dNil))))
    (dSeq (dIfS (dTest (dBin gLt (dName 5) (dC (.int 0))))
      (dSet 5 (dBin gSub (dC (.int 1)) (dBin gMul (dC (.int 2)) (dName 5))))
      dNext)
    (dIfS (dTest (dBin gGe (dName 5) (dBin gPow (dC (.int 10)) (dC (.int 18)))))
      (dFor (dItR1 (dCons (dC (.int 60)) dNil)) (gN 6)
        b__law_digits_1)
      (dSeq (dSet 7 (dBin gMod (dFn gInt (dCons (dBin gAdd (dBin gAdd (dBin gMul (dName 5) (dC (.int 48271))) (dBin gMul (dName 4) (dC (.int 69621)))) (dC (.int 11))) dNil)) (dC (.int 2147483647))))
      (dFor (dItR1 (dCons (dC (.int 12)) dNil)) (gN 6)
        b__law_digits_2)))))
def d__law_digits : DTS :=
  (dSeq (dSet 3 (dLst dNil))
  (dSeq (dFor (dItR2 (dCons (dName 1) (dCons (dName 2) dNil))) (gN 4)
    b__law_digits_3)
  (dRet (dName 3))))
def r__law_digits (ds : List D) (as : List Addr) : List Slot := entryR m__law_digits ds as ++ List.replicate 5 .un
def Ok__law_digits : Prop := ∀ ds k as, t__law_digits ds k → ds.length = m__law_digits.length → as.length = nio m__law_digits → d__law_digits { nx := finR m__law_digits as k (.fz .none), rt := finR m__law_digits as k } (entryR m__law_digits ds as ++ List.replicate (8 - m__law_digits.length) .un)
/-- slots: 0 box, 1 many -/
def d__law_draw : DTS :=
  (dSeq (dStI 0 gSetL (dBin gAdd (dBin gIx (dName 0) (dC (.int 1))) (dC (.int 1))) (dC (.int 1)))
  (dSeq (dIfS (dTest (dBin gGt (dBin gIx (dName 0) (dC (.int 1))) (dFn gLen (dCons (dBin gIx (dName 0) (dC (.int 0))) dNil))))
    (dRet (dBin gMod (dFn gInt (dCons (dBin gAdd (dBin gAdd (dBin gIx (dBin gIx (dName 0) (dC (.int 0))) (dBin gMod (dFn gInt (dCons (dBin gMul (dBin gIx (dName 0) (dC (.int 1))) (dC (.int 31))) dNil)) (dFn gLen (dCons (dBin gIx (dName 0) (dC (.int 0))) dNil)))) (dBin gMul (dBin gIx (dName 0) (dC (.int 1))) (dC (.int 7)))) (dC (.int 3))) dNil)) (dName 1)))
    dNext)
  (dRet (dBin gMod (dFn gInt (dCons (dBin gIx (dBin gIx (dName 0) (dC (.int 0))) (dBin gSub (dBin gIx (dName 0) (dC (.int 1))) (dC (.int 1)))) dNil)) (dName 1)))))
def r__law_draw (ds : List D) (as : List Addr) : List Slot := entryR m__law_draw ds as ++ List.replicate 0 .un
def Ok__law_draw : Prop := ∀ ds k as, t__law_draw ds k → ds.length = m__law_draw.length → as.length = nio m__law_draw → d__law_draw { nx := finR m__law_draw as k (.fz .none), rt := finR m__law_draw as k } (entryR m__law_draw ds as ++ List.replicate (2 - m__law_draw.length) .un)
/-- slots: 0 told, 1 due, 2 k -/
def b__law_same_1 (tr : TSp) : DTS :=
  (dIfS (dNot (dTest (dCall m__law_same tr (dCons (dBin gIx (dName 0) (dName 2)) (dCons (dBin gIx (dName 1) (dName 2)) dNil)))))
      (dRet (dC (.bool false)))
      dNext)
def d__law_same (tr : TSp) : DTS :=
  (dSeq (dIfS (dTest (dUn gIsN (dName 1)))
    (dRet (dUn gIsN (dName 0)))
    dNext)
  (dSeq (dIfS (dTest (dBin gIs (dName 1) (dC (.bool true))))
    (dRet (dBin gIs (dName 0) (dC (.bool true))))
    dNext)
  (dSeq (dIfS (dTest (dBin gIs (dName 1) (dC (.bool false))))
    (dRet (dBin gIs (dName 0) (dC (.bool false))))
    dNext)
  (dSeq (dIfS (dTest (dIsI "str" (dName 1)))
    (dRet (dAndV (dIsI "str" (dName 0)) (dBin gEqS (dFn gRepr (dCons (dName 0) dNil)) (dFn gRepr (dCons (dName 1) dNil)))))
    dNext)
  (dSeq (dIfS (dTest (dIsI "int" (dName 1)))
    (dRet (dAndV (dIsI "int" (dName 0)) (dAndV (dNotV (dIsI "bool" (dName 0))) (dBin gEqS (dFn gRepr (dCons (dName 0) dNil)) (dFn gRepr (dCons (dName 1) dNil))))))
    dNext)
  (dSeq (dIfS (dOr (dAnd (dTest (dIsI "tuple" (dName 1))) (dNot (dTest (dIsI "tuple" (dName 0))))) (dAnd (dTest (dIsI "list" (dName 1))) (dNot (dTest (dIsI "list" (dName 0))))))
    (dRet (dC (.bool false)))
    dNext)
  (dSeq (dIfS (dTest (dBin gNe (dFn gLen (dCons (dName 0) dNil)) (dFn gLen (dCons (dName 1) dNil))))
    (dRet (dC (.bool false)))
    dNext)
  (dSeq (dFor (dItR1 (dCons (dFn gLen (dCons (dName 1) dNil)) dNil)) (gN 2)
    (b__law_same_1 tr))
  (dRet (dC (.bool true)))))))))))
def r__law_same (ds : List D) (as : List Addr) : List Slot := entryR m__law_same ds as ++ List.replicate 1 .un
def Ok__law_same (tr : TSp) : Prop := ∀ ds k as, t__law_same ds k → ds.length = m__law_same.length → as.length = nio m__law_same → d__law_same tr { nx := finR m__law_same as k (.fz .none), rt := finR m__law_same as k } (entryR m__law_same ds as ++ List.replicate (3 - m__law_same.length) .un)
/-- slots: 0 box, 1 row -/
def d__law_pick : DTS :=
  (dRet (dBin gIx (dName 1) (dBin gMod (dFn gInt (dCons (dCall m__law_draw t__law_draw (dCons (dName 0) (dCons (dC (.int 1000)) dNil))) dNil)) (dFn gLen (dCons (dName 1) dNil)))))
def r__law_pick (ds : List D) (as : List Addr) : List Slot := entryR m__law_pick ds as ++ List.replicate 0 .un
def Ok__law_pick : Prop := ∀ ds k as, t__law_pick ds k → ds.length = m__law_pick.length → as.length = nio m__law_pick → d__law_pick { nx := finR m__law_pick as k (.fz .none), rt := finR m__law_pick as k } (entryR m__law_pick ds as ++ List.replicate (2 - m__law_pick.length) .un)
end TL.cm

-- part Pcm
/-! Pcm: the common helpers keep their promises. -/
namespace TL.cm
open PySem PySem.Spec L2
theorem p__law_cell : Ok__law_cell := by
  rintro ds k as ⟨ns, i, rfl, hi, hk⟩ - ha
  refine ⟨ns, intsOf_map ns, ifd (fun h => ?_) fun h => ?_⟩
  · obtain ⟨n, hn, _⟩ := get_lt hi h
    exact ⟨ns, intsOf_map ns, _, atI_of hi hn, hk _⟩
  · exact hk 0
theorem p__law_draw : Ok__law_draw := by
  rintro ds k as ⟨b, many, rfl, ⟨r, n, rfl, hr, hn⟩, hm, hk⟩ - ha
  obtain ⟨a, rfl⟩ := as1 ha
  have hl : 0 < (r.length : Int) := by
    cases r with
    | nil => exact absurd rfl hr
    | cons => simp
  have lm : (List.map PyData.int r).length = r.length := List.length_map _
  have bx : BoxD (.list [.list (r.map .int), .int (n + 1)]) := ⟨r, n + 1, rfl, hr, by omega⟩
  have fin : ∀ y : Int, k (.fz (.int (y % many))) [.list [.list (r.map .int), .int (n + 1)]] := fun y => hk _ _ (Int.emod_nonneg _ (by omega)) (Int.emod_lt_of_pos _ hm) bx
  refine ⟨_, rfl, trivial, _, rfl, _, rfl, _, rfl, ifd (fun h => ?_) fun h => ?_⟩
  · rw [lm] at h
    obtain ⟨y, hy, _⟩ := get_lt (ns := r) (Int.emod_nonneg ((n + 1) * 31) (by omega)) (Int.emod_lt_of_pos ((n + 1) * 31) hl)
    refine ⟨_, rfl, _, rfl, mulSmall (by decide), _, rfl, ?_⟩
    refine ⟨by rw [lm]; exact hl, _, atI_ints (i := (n + 1) * 31 % ((List.map PyData.int r).length : Int)) (by rw [lm]; exact Int.emod_nonneg _ (by omega)) (by rw [lm]; exact hy), _, rfl, mulSmall (by decide), hm, rfl, rfl, ?_⟩
    exact fin _
  · rw [lm] at h
    obtain ⟨y, hy, _⟩ := get_lt (ns := r) (i := n + 1 - 1) (by omega) (by omega)
    exact ⟨_, rfl, _, rfl, _, atI_ints (by omega) hy, hm, rfl, rfl, fin _⟩
theorem p__law_pick : Ok__law_pick := by
  rintro ds k as ⟨b, row, hd, hb, hr, hk⟩ - ha
  obtain ⟨a, rfl⟩ := as1 ha
  have hl : 0 < (row.length : Int) := by
    cases row with
    | nil => exact absurd rfl hr
    | cons => simp only [List.length_cons]; omega
  have at' : ∀ x : Int, ∃ d, atI row (x % (row.length : Int)) = some d ∧ d ∈ row := fun x => by
    have h0 : 0 ≤ x % (row.length : Int) := Int.emod_nonneg _ (by omega)
    have h1 : x % (row.length : Int) < row.length := Int.emod_lt_of_pos _ hl
    have h2 : (x % (row.length : Int)).toNat < row.length := by omega
    exact ⟨_, atI_of h0 (List.getElem?_eq_getElem h2), List.getElem_mem h2⟩
  rcases hd with rfl | rfl
  · refine ⟨okio1 rfl (by decide) trivial, rfl, _, _, rfl, hb, by decide, fun x b' h1 h2 hb' => ⟨rfl, hl, ?_⟩⟩
    obtain ⟨d, h3, h4⟩ := at' x
    exact ⟨d, h3, rfl, rfl, hk d b' h4 hb'⟩
  · refine ⟨okio1 rfl (by decide) trivial, rfl, _, _, rfl, hb, by decide, fun x b' h1 h2 hb' => ⟨rfl, hl, ?_⟩⟩
    obtain ⟨d, h3, h4⟩ := at' x
    exact ⟨d, h3, rfl, rfl, hk d b' h4 hb'⟩
theorem p__law_digits : Ok__law_digits := by
  rintro ds k as ⟨ns, a, b, rfl, ha0, hab, hb, hk⟩ - ha
  obtain rfl := as0 ha
  have sl : sizeLine = 16777216 := rfl
  have p18 : (0 : Int) < 10 ^ Int.toNat 18 := by decide
  have gd : ∀ (r : List Int) (y : Int), (∀ x ∈ r, 0 ≤ x ∧ x < 1000) → ∀ x ∈ r ++ [y % 1000], 0 ≤ x ∧ x < 1000 := fun r y h x hx => by
    rcases List.mem_append.mp hx with z | z
    · exact h x z
    · rw [List.mem_singleton.mp z]; omega
  have ap : ∀ (r : List Int) (y : Int), r.map PyData.int ++ [.int y] = (r ++ [y]).map .int := fun r y => by simp
  have le : ∀ r : List Int, (r.map PyData.int).length = r.length := fun r => List.length_map _
  refine ⟨by show 0 ≤ sizeLine; omega, ⟨⟨by omega, by omega⟩, by omega, by omega⟩, trivial, ?_⟩
  refine loop_ind (fun done rest ρ => ∃ (r : List Int) (s4 s5 s6 s7 : Slot), ρ = [.fz (scrD ns), .fz (.int a), .fz (.int b), .ow none .l (.list (r.map .int)), s4, s5, s6, s7] ∧ (∀ x ∈ r, 0 ≤ x ∧ x < 1000) ∧ (done ≠ [] → r ≠ []) ∧ r.length ≤ 60 * done.length)
    ⟨[], .un, .un, .un, .un, rfl, by simp, by simp, by simp⟩ ?_ ?_
  · rintro ρ ⟨r, s4, s5, s6, s7, rfl, h1, h2, h3⟩
    refine hk r h1 (h2 fun z => ?_)
    have := congrArg List.length z
    rw [rangeD_len] at this
    simp at this
    omega
  · rintro done d rest ρ he ⟨r, s4, s5, s6, s7, rfl, h1, h2, h3⟩ next
    obtain ⟨rfl, hd⟩ := range_at he
    have hdl : done.length < 1000 := by omega
    refine seq_join (fun ρ => ∃ cell : Int, ρ = [.fz (scrD ns), .fz (.int a), .fz (.int b), .ow none .l (.list (r.map .int)), .fz (.int (a + done.length)), .fz (.int cell), s6, s7]) (fun kk hkk => ⟨okio0 rfl, ns, a + done.length, rfl, by omega, fun cell => hkk _ ⟨cell, rfl⟩⟩) ?_
    rintro ρ ⟨cell, rfl⟩
    refine seq_join (fun ρ => ∃ cell : Int, ρ = [.fz (scrD ns), .fz (.int a), .fz (.int b), .ow none .l (.list (r.map .int)), .fz (.int (a + done.length)), .fz (.int cell), s6, s7]) (fun kk hkk => ifd (fun _ => ⟨mulSmall' (by decide), hkk _ ⟨_, rfl⟩⟩) fun _ => hkk _ ⟨_, rfl⟩) ?_
    rintro ρ ⟨cell, rfl⟩
    refine ⟨⟨by decide, by decide, by decide⟩, ifd (fun h => ?_) fun h => ?_⟩
    · refine ⟨⟨by decide, by decide⟩, trivial, ?_⟩
      refine loop_ind (fun done' rest' ρ => ∃ (r' : List Int) (c : Int) (s6 : Slot), ρ = [.fz (scrD ns), .fz (.int a), .fz (.int b), .ow none .l (.list (r'.map .int)), .fz (.int (a + done.length)), .fz (.int c), s6, s7] ∧ (∀ x ∈ r', 0 ≤ x ∧ x < 1000) ∧ r'.length ≤ r.length + done'.length ∧ (r' ≠ [] ∨ (0 < c ∧ done' = [])))
        ⟨r, cell, s6, rfl, h1, by simp, .inr ⟨by omega, rfl⟩⟩ ?_ ?_
      · rintro ρ ⟨r', c, s6, rfl, g1, g2, g3⟩
        have hl : (rangeD 0 1 (Int.toNat 60)).length = 60 := by rw [rangeD_len]; decide
        refine next _ ⟨r', _, _, _, _, rfl, g1, fun _ => ?_, by simp; omega⟩
        rcases g3 with g3 | ⟨_, g3⟩
        · exact g3
        · rw [g3] at hl; cases hl
      · rintro done' d rest' ρ he' ⟨r', c, s6, rfl, g1, g2, g3⟩ next'
        have hl : done'.length < 60 := (range_at he').2
        refine ifd (fun hc => ?_) fun hc => next' _ ⟨r', c, _, rfl, g1, by simp; omega, .inl ?_⟩
        · refine ⟨trivial, by decide, ⟨by rw [le]; omega, by decide, ?_⟩⟩
          refine next' _ ⟨r' ++ [c % 1000], c / 1000, _, by rw [← ap]; rfl, gd _ _ g1, by simp; omega, .inl (by simp)⟩
        · rcases g3 with g3 | ⟨g3, _⟩
          · exact g3
          · omega
    · refine ⟨mulSmall (by decide), mulSmall (by decide), by decide, ⟨by decide, by decide⟩, trivial, ?_⟩
      refine loop_ind (fun done' rest' ρ => ∃ (r' : List Int) (c : Int) (s6 : Slot), ρ = [.fz (scrD ns), .fz (.int a), .fz (.int b), .ow none .l (.list (r'.map .int)), .fz (.int (a + done.length)), .fz (.int cell), s6, .fz (.int c)] ∧ (∀ x ∈ r', 0 ≤ x ∧ x < 1000) ∧ r'.length = r.length + done'.length)
        ⟨r, _, s6, rfl, h1, by simp⟩ ?_ ?_
      · rintro ρ ⟨r', c, s6, rfl, g1, g2⟩
        have hl : (rangeD 0 1 (Int.toNat 12)).length = 12 := by rw [rangeD_len]; decide
        refine next _ ⟨r', _, _, _, _, rfl, g1, fun _ z => ?_, by rw [hl] at g2; simp; omega⟩
        rw [z, hl] at g2
        simp at g2
      · rintro done' d rest' ρ he' ⟨r', c, s6, rfl, g1, g2⟩ next'
        obtain ⟨rfl, hl⟩ := range_at he'
        have hl : done'.length < 12 := hl
        refine ⟨mulSmall (by decide), mulSmall' (by decide), by decide, trivial, ⟨by decide, by decide⟩, by decide, by rw [le]; omega, ?_⟩
        exact next' _ ⟨r' ++ [_ % 1000], _, _, by rw [← ap]; rfl, gd _ _ g1, by simp; omega⟩
theorem p_same (n : Nat) (tr : TSp) (h : ∀ m, n = m + 1 → ∀ ds k, u__law_same m ds k → tr ds k) : ∀ ds k as, u__law_same n ds k → ds.length = m__law_same.length → as.length = nio m__law_same → d__law_same tr { nx := finR m__law_same as k (.fz .none), rt := finR m__law_same as k } (entryR m__law_same ds as ++ List.replicate (3 - m__law_same.length) .un) := by
  rintro ds k as ⟨d, rfl, hs, hk⟩ - ha
  obtain rfl := as0 ha
  have eqt : ∀ z : Str, k (.fz (.bool (decide (z = z)))) [] := fun z => by rw [decide_eq_true rfl]; exact hk
  have loop : ∀ (es : List D) (c : List D → D), (∀ (i : Nat) x, es[i]? = some x → ∀ kk : Res → Prop, kk (.fz x) → gIx (c es) (.int i) kk) → (∀ (m : Nat), n = m + 1 → ∀ x ∈ es, Sm m x) → n ≠ 0 → es.length ≤ sizeLine →
      dSeq (dFor (dItR1 (dCons (dC (.int es.length)) dNil)) (gN 2) (b__law_same_1 tr)) (dRet (dC (.bool true))) { nx := finR m__law_same [] k (.fz .none), rt := finR m__law_same [] k } [.rd (c es), .rd (c es), .un] := by
    intro es c hc hm hn hl
    have sl : sizeLine = 16777216 := rfl
    obtain ⟨m, rfl⟩ : ∃ m, n = m + 1 := ⟨n - 1, by omega⟩
    refine ⟨⟨by omega, by omega⟩, trivial, ?_⟩
    refine loop_ind (fun done rest ρ => ∃ s2, ρ = [.rd (c es), .rd (c es), s2]) ⟨_, rfl⟩ ?_ ?_
    · rintro ρ ⟨s2, rfl⟩
      exact hk
    · rintro done d rest ρ he ⟨s2, rfl⟩ next
      obtain ⟨rfl, hd⟩ := range_at he
      have hd : done.length < es.length := by omega
      have hx := List.getElem?_eq_getElem hd
      have e0 : (0 : Int) + (done.length : Int) = (done.length : Int) := by omega
      rw [e0]
      refine hc done.length _ hx _ ?_
      refine hc done.length _ hx _ ?_
      refine ⟨okio0 rfl, h m rfl _ _ ⟨_, rfl, hm m rfl _ (List.getElem_mem hd), ?_⟩⟩
      exact next _ ⟨_, rfl⟩
  cases d with
  | none => exact hk
  | bool b => cases b <;> exact hk
  | int i =>
    conv => whnf
    rw [isT_str_int]
    conv => whnf
    rw [isT_int_int]
    conv => whnf
    rw [isT_int_int]
    conv => whnf
    rw [isT_bool_int]
    have hs : i.natAbs.log2 < 1920 := by cases n <;> exact hs
    exact ⟨hs, hs, eqt _⟩
  | str z =>
    conv => whnf
    rw [isT_str_str]
    conv => whnf
    rw [isT_str_str]
    have hs : (reprText z).length ≤ sizeLine := by cases n <;> exact hs
    exact ⟨hs, hs, eqt _⟩
  | list es =>
    cases n with
    | zero => exact hs.elim
    | succ n =>
      obtain ⟨hl, hs⟩ := hs
      conv => whnf
      rw [isT_str_list]
      conv => whnf
      rw [isT_int_list]
      conv => whnf
      rw [isT_tuple_list]
      conv => whnf
      rw [isT_list_list]
      conv => whnf
      rw [isT_list_list]
      refine ⟨sh_int, sh_int, ?_⟩
      have e : (!PyData.eqv (.int (es.length : Int)) (.int es.length)) = false := by rw [eqv_self nb_int]; rfl
      show if (!PyData.eqv (.int (es.length : Int)) (.int es.length)) = true then _ else _
      rw [e]
      exact loop es .list (fun i x hx kk hk => ⟨x, atI_of (by omega) (by simpa using hx), hk⟩) (fun m hm => by cases hm; exact hs) (by omega) hl
  | tuple es =>
    cases n with
    | zero => exact hs.elim
    | succ n =>
      obtain ⟨hl, hs⟩ := hs
      conv => whnf
      rw [isT_str_tuple]
      conv => whnf
      rw [isT_int_tuple]
      conv => whnf
      rw [isT_tuple_tuple]
      conv => whnf
      rw [isT_tuple_tuple]
      conv => whnf
      rw [isT_list_tuple]
      refine ⟨sh_int, sh_int, ?_⟩
      have e : (!PyData.eqv (.int (es.length : Int)) (.int es.length)) = false := by rw [eqv_self nb_int]; rfl
      show if (!PyData.eqv (.int (es.length : Int)) (.int es.length)) = true then _ else _
      rw [e]
      exact loop es .tuple (fun i x hx kk hk => ⟨x, atI_of (by omega) (by simpa using hx), hk⟩) (fun m hm => by cases hm; exact hs) (by omega) hl
  | dict ps => cases n <;> exact hs.elim
theorem rec__law_same {P : Program} {w : World} {K : PySem.W.Frag} {mg : Str → Option Value} {base : Heap} (h0 : Cal P w K mg base 0 "_law_same" m__law_same (fun _ _ => False))
    (step : ∀ {k : Nat} {tr t : TSp}, Cal P w K mg base k "_law_same" m__law_same tr → (∀ ds k as, t ds k → ds.length = m__law_same.length → as.length = nio m__law_same → d__law_same tr { nx := finR m__law_same as k (.fz .none), rt := finR m__law_same as k } (entryR m__law_same ds as ++ List.replicate (3 - m__law_same.length) .un)) → Cal P w K mg base (k + 1) "_law_same" m__law_same t) :
    Cal P w K mg base 12 "_law_same" m__law_same t__law_same := by
  have key : ∀ n : Nat, Cal P w K mg base (n + 1) "_law_same" m__law_same (u__law_same n) := fun n => by
    induction n with
    | zero => exact step h0 (p_same 0 _ fun m hm => by omega)
    | succ n ih => exact step ih (p_same (n + 1) _ fun m hm => by cases hm; exact fun _ _ z => z)
  exact (key 9).weak (by decide)
/-- [.. draws .. for .. in ..]: St: the state by its box -/
theorem comp_box {g : DTG} {te : DTE} {src : List (Nat × D)} {vs : List Nat} {k : List D → List Slot → Prop} {items : List D} (St : D → List Slot) (P : Int → Prop) (hl : items.length ≤ sizeLine) (hs : ∀ b, stl src (St b))
    (step : ∀ d, d ∈ items → ∀ b, BoxD b → ∀ kk : D → List Slot → Prop, (∀ (x : Int) b', P x → BoxD b' → kk (.int x) (St b')) → g d (St b) fun ρ1 => te ρ1 fun r ρ3 => fzR r ρ3 fun v ρ4 => kk v (wipeR ρ4 vs))
    (fin : ∀ (ns : List Int) b', ns.length = items.length → (∀ x ∈ ns, P x) → BoxD b' → k (ns.map .int) (St b')) {b : D} (hb : BoxD b) : dCompL g dYes te src vs k items [] (St b) := by
  refine comp_ind (fun acc done rest ρ => ∃ (ns : List Int) (b' : D), acc = ns.map .int ∧ ns.length = done.length ∧ (∀ x ∈ ns, P x) ∧ BoxD b' ∧ ρ = St b') ⟨[], b, rfl, rfl, fun _ h => absurd h List.not_mem_nil, hb, rfl⟩ ?_ ?_
  · rintro acc ρ ⟨ns, b', rfl, h1, h2, h3, rfl⟩
    exact ⟨hs _, fin ns b' h1 h2 h3⟩
  · rintro acc done d rest ρ he ⟨ns, b', rfl, h1, h2, h3, rfl⟩ next
    refine ⟨hs _, step d (by rw [he]; simp) b' h3 (fun v ρ4 => (ns.map PyData.int).length < sizeLine ∧ dCompL g dYes te src vs k rest (ns.map PyData.int ++ [v]) ρ4) fun x b'' hx hb'' => ⟨?_, next _ _ ⟨ns ++ [x], b'', by simp, by simp [h1], fun y hy => ?_, hb'', rfl⟩⟩⟩
    · rw [List.length_map, h1]
      have := congrArg List.length he
      simp at this
      omega
    · rcases List.mem_append.mp hy with z | z
      · exact h2 y z
      · rw [List.mem_singleton.mp z]; exact hx
/-- a draw -/
theorem sm_int {n : Nat} {i : Int} (h : -(2 ^ 100) < i ∧ i < 2 ^ 100) : Sm n (.int i) := by
  have key : i.natAbs.log2 < 1920 := by
    by_cases h0 : i.natAbs = 0
    · rw [h0]; decide
    · refine (Nat.log2_lt h0).mpr ?_
      have h1 : i.natAbs < 2 ^ 100 := by omega
      exact Nat.lt_of_lt_of_le h1 (Nat.pow_le_pow_right (by decide) (by decide))
  cases n <;> exact key
theorem sm_list {n : Nat} {ds : List D} (hl : ds.length ≤ sizeLine) (h : ∀ d ∈ ds, Sm n d) : Sm (n + 1) (.list ds) := ⟨hl, h⟩
theorem sm_tuple {n : Nat} {ds : List D} (hl : ds.length ≤ sizeLine) (h : ∀ d ∈ ds, Sm n d) : Sm (n + 1) (.tuple ds) := ⟨hl, h⟩
theorem sm_bool {n : Nat} {b : Bool} : Sm n (.bool b) := by cases n <;> trivial
theorem sm_none {n : Nat} : Sm n .none := by cases n <;> trivial
theorem sm_ints {n : Nat} {ns : List Int} (hl : ns.length ≤ 16777216) (h : ∀ x ∈ ns, -(2 ^ 100) < x ∧ x < 2 ^ 100) : Sm (n + 1) (.list (ns.map .int)) := sm_list (by rw [List.length_map]; exact hl) fun d hd => by
  obtain ⟨x, hx, rfl⟩ := List.mem_map.mp hd
  exact sm_int (h x hx)
end TL.cm

-- part Sk59
/-! Sk59: what the defs of law k59 promise. -/
namespace TL.k59
open PySem PySem.Spec L2 TL.cm
/-- a / b in lowest terms -/
def fr (a b : Int) : D := .tuple [.int (a / (Int.gcd a b : Int)), .int (b / (Int.gcd a b : Int))]
/-- the report's mark of a sum of many marks -/
def rep (s n : Int) : Int := (2 * s + n) / (2 * n)
/-- small lists of small ints -/
structure Sml (ns : List Int) : Prop where
  ne : ns ≠ []
  len : ns.length ≤ 1000
  le : ∀ x ∈ ns, 0 ≤ x ∧ x ≤ 1000
/-- marks -/
structure Mk (ns : List Int) : Prop where
  ne : ns ≠ []
  len : ns.length ≤ 9
  le : ∀ x ∈ ns, 1 ≤ x ∧ x ≤ 6
@[simp] abbrev m_fraction : List Md := [.fz, .fz]
def t_fraction : TSp := fun ds k => ∃ a b : Int, ds = [.int a, .int b] ∧ 0 < b ∧ b < 1000000000 ∧ k (.fz (fr a b)) []
@[simp] abbrev m_is_less : List Md := [.fz, .fz]
def t_is_less : TSp := fun ds k => ∃ a b c d : Int, ds = [.tuple [.int a, .int b], .tuple [.int c, .int d]] ∧ (0 ≤ b ∧ b < 1000000000) ∧ (0 ≤ d ∧ d < 1000000000) ∧ k (.fz (.bool (decide (a * d < c * b)))) []
@[simp] abbrev m_rounded : List Md := [.fz]
def t_rounded : TSp := fun ds k => ∃ a b : Int, ds = [.tuple [.int a, .int b]] ∧ 0 < b ∧ b < 100000000 ∧ k (.fz (.int ((2 * a + b) / (2 * b)))) []
@[simp] abbrev m_mean : List Md := [.rd]
def t_mean : TSp := fun ds k => ∃ ns, ds = [IL ns] ∧ Sml ns ∧ k (.fz (fr ns.sum ns.length)) []
@[simp] abbrev m_weighted : List Md := [.rd, .rd]
def t_weighted : TSp := fun ds k => ∃ ns ws, ds = [IL ns, IL ws] ∧ Sml ns ∧ Sml ws ∧ ns.length = ws.length ∧ 0 < ws.sum ∧ k (.fz (fr (List.zipWith (· * ·) ns ws).sum ws.sum)) []
@[simp] abbrev m_report : List Md := [.rd]
def t_report : TSp := fun ds k => ∃ ns, ds = [IL ns] ∧ Sml ns ∧ k (.fz (.int (rep ns.sum ns.length))) []
@[simp] abbrev m_without_worst : List Md := [.rd, .fz]
def t_without_worst : TSp := fun ds k => ∃ ns, ∃ j : Nat, ds = [IL ns, .int j] ∧ Sml ns ∧ j < ns.length ∧ k (.fz (fr ((srt ns).take (ns.length - j)).sum (ns.length - j : Nat))) []
@[simp] abbrev m_needed : List Md := [.rd, .fz, .fz]
/-- the marks from 1 to 6 that still make it -/
def fits (s n goal more : Int) : List Int := [1, 2, 3, 4, 5, 6].filter fun m => decide (rep (s + m * more) (n + more) ≤ goal)
def t_needed : TSp := fun ds k => ∃ ns, ∃ goal : Int, ∃ more : Nat, ds = [IL ns, .int goal, .int more] ∧ Sml ns ∧ ns.length ≤ 9 ∧ more ≤ 9 ∧
  k (.fz (match (fits ns.sum ns.length goal more).getLast? with | some m => .int m | none => .none)) []
@[simp] abbrev m_ones_needed : List Md := [.rd, .fz]
def t_ones_needed : TSp := fun ds k => ∃ ns, ∃ goal : Int, ∃ m : Nat, ds = [IL ns, .int goal] ∧ Sml ns ∧ ns.length ≤ 9 ∧ m ≤ 900 ∧ rep (ns.sum + m) (ns.length + m) ≤ goal ∧ (∀ j : Nat, j < m → goal < rep (ns.sum + j) (ns.length + j)) ∧ k (.fz (.int m)) []
@[simp] abbrev m_table_of : List Md := [.rd]
def t_table_of : TSp := fun ds k => ∃ ns, ds = [IL ns] ∧ Sml ns ∧ k (.tm .l (IL ([1, 2, 3, 4, 5, 6].map fun m => (ns.count m : Int)))) []
@[simp] abbrev m_middle : List Md := [.rd]
def t_middle : TSp := fun ds k => ∃ ns, ds = [IL ns] ∧ Sml ns ∧ k (.fz (fr ((srt ns).getD ((ns.length - 1) / 2) 0 + (srt ns).getD (ns.length / 2) 0) 2)) []
@[simp] abbrev m_fewest_changes : List Md := [.rd, .fz]
/-- the sum once the m worst marks are made 1 -/
def chg (ns : List Int) (m : Nat) : Int := ((srt ns).take (ns.length - m)).sum + m
def t_fewest_changes : TSp := fun ds k => ∃ ns, ∃ goal : Int, ∃ m : Nat, ds = [IL ns, .int goal] ∧ Sml ns ∧ m ≤ ns.length ∧ rep (chg ns m) ns.length ≤ goal ∧ (∀ j : Nat, j < m → goal < rep (chg ns j) ns.length) ∧ k (.fz (.int m)) []
@[simp] abbrev m_better_with : List Md := [.rd, .rd, .fz]
def t_better_with : TSp := fun ds k => ∃ ns ws, ∃ j : Nat, ds = [IL ns, IL ws, .int j] ∧ Sml ns ∧ Sml ws ∧ ns.length = ws.length ∧ 0 < ws.sum ∧ j < ns.length ∧ ns.length ≤ 9 ∧ (∀ w ∈ ws, w ≤ 100) ∧
  k (.fz (.bool (decide (ns.getD j 0 * ws.sum < (List.zipWith (· * ·) ns ws).sum)))) []
@[simp] abbrev m__law_low : List Md := [.fz, .fz]
def t__law_low : TSp := fun ds k => ∃ a b : Int, ds = [.int a, .int b] ∧ 0 < b ∧ b < 1000000000 ∧ k (.fz (fr a b)) []
@[simp] abbrev m__law_at_most : List Md := [.fz, .fz, .fz]
def t__law_at_most : TSp := fun ds k => ∃ a b c : Int, ds = [.int a, .int b, .int c] ∧ 0 ≤ b ∧ b < 1000000000 ∧ k (.fz (.bool (decide (2 * a < (2 * c + 1) * b)))) []
@[simp] abbrev m__law_marks : List Md := [.io .l]
def t__law_marks : TSp := fun ds k => ∃ b, ds = [b] ∧ BoxD b ∧ ∀ ns b', Mk ns → BoxD b' → k (.tm .l (IL ns)) [b']
@[simp] abbrev m__law_report : List Md := [.rd]
def t__law_report : TSp := fun ds k => ∃ ns, ds = [IL ns] ∧ Mk ns ∧ k (.fz (.int (rep ns.sum ns.length))) []
@[simp] abbrev m__law_goals : List Md := [.io .l, .rd, .rd]
def t__law_goals : TSp := fun ds k => ∃ b ns, ds = [b, IL ns, IL ns] ∧ BoxD b ∧ Mk ns ∧ ∀ b', BoxD b' → k (.fz (.bool true)) [b']
@[simp] abbrev m_law : List Md := [.fz]
def t_law : TSp := fun ds k => ∃ ns, ds = [scrD ns] ∧ k (.fz (.bool true)) []
end TL.k59

-- part Dk59
/-! Dk59: the defs as transformers over trees. Printed by gen.py. -/
namespace TL.k59
open PySem PySem.Spec L2 TL.cm

/-- slots: 0 box, 1 kind, 2 many, 3 marks, 4 k -/
def d__law_marks : DTS :=
  (dSeq (dSet 1 (dCall m__law_draw t__law_draw (dCons (dName 0) (dCons (dC (.int 5)) dNil))))
  (dSeq (dSet 2 (dBin gAdd (dC (.int 1)) (dCall m__law_draw t__law_draw (dCons (dName 0) (dCons (dC (.int 9)) dNil)))))
  (dSeq (dSet 3 (dComp (dItR1 (dCons (dName 2) dNil)) (gN 4) dYes (dBin gAdd (dC (.int 1)) (dCall m__law_draw t__law_draw (dCons (dName 0) (dCons (dC (.int 6)) dNil)))) [4]))
  (dSeq (dIfS (dTest (dBin gEq (dName 1) (dC (.int 1))))
    (dSet 3 (dBin gMul (dLst (dCons (dBin gIx (dName 3) (dC (.int 0))) dNil)) (dName 2)))
    dNext)
  (dSeq (dIfS (dTest (dBin gEq (dName 1) (dC (.int 2))))
    (dSet 3 (dBin gMul (dLst (dCons (dBin gIx (dName 3) (dC (.int 0))) (dCons (dBin gAdd (dBin gMod (dFn gInt (dCons (dBin gIx (dName 3) (dC (.int 0))) dNil)) (dC (.int 6))) (dC (.int 1))) dNil))) (dBin gAdd (dC (.int 1)) (dCall m__law_draw t__law_draw (dCons (dName 0) (dCons (dC (.int 4)) dNil))))))
    dNext)
  (dSeq (dIfS (dTest (dBin gEq (dName 1) (dC (.int 3))))
    (dSet 3 (dComp (dItR1 (dCons (dName 2) dNil)) (gN 4) dYes (dBin gAdd (dC (.int 4)) (dCall m__law_draw t__law_draw (dCons (dName 0) (dCons (dC (.int 3)) dNil)))) [4]))
    dNext)
  (dSeq (dIfS (dTest (dBin gEq (dName 1) (dC (.int 4))))
    (dSet 3 (dComp (dItR1 (dCons (dName 2) dNil)) (gN 4) dYes (dBin gAdd (dC (.int 1)) (dBin gMul (dC (.int 2)) (dCall m__law_draw t__law_draw (dCons (dName 0) (dCons (dC (.int 3)) dNil))))) [4]))
    dNext)
  (dRet (dName 3)))))))))
def r__law_marks (ds : List D) (as : List Addr) : List Slot := entryR m__law_marks ds as ++ List.replicate 4 .un
def Ok__law_marks : Prop := ∀ ds k as, t__law_marks ds k → ds.length = m__law_marks.length → as.length = nio m__law_marks → d__law_marks { nx := finR m__law_marks as k (.fz .none), rt := finR m__law_marks as k } (entryR m__law_marks ds as ++ List.replicate (5 - m__law_marks.length) .un)
/-- slots: 0 top, 1 bottom, 2 one, 3 other -/
def b__law_low_1 : DTS :=
  (dPar 2 3 (dCons (dName 3) (dCons (dBin gMod (dFn gInt (dCons (dName 2) dNil)) (dName 3)) dNil)))
def d__law_low : DTS :=
  (dSeq (dPar 2 3 (dCons (dFn gAbs (dCons (dName 0) dNil)) (dCons (dName 1) dNil)))
  (dSeq (dWhile (dTest (dBin gGt (dName 3) (dC (.int 0))))
    b__law_low_1)
  (dRet (dTup (dCons (dBin gFdiv (dName 0) (dName 2)) (dCons (dBin gFdiv (dName 1) (dName 2)) dNil))))))
def r__law_low (ds : List D) (as : List Addr) : List Slot := entryR m__law_low ds as ++ List.replicate 2 .un
def Ok__law_low : Prop := ∀ ds k as, t__law_low ds k → ds.length = m__law_low.length → as.length = nio m__law_low → d__law_low { nx := finR m__law_low as k (.fz .none), rt := finR m__law_low as k } (entryR m__law_low ds as ++ List.replicate (4 - m__law_low.length) .un)
/-- slots: 0 one -/
def d_rounded : DTS :=
  (dRet (dBin gFdiv (dBin gAdd (dBin gMul (dC (.int 2)) (dBin gIx (dName 0) (dC (.int 0)))) (dBin gIx (dName 0) (dC (.int 1)))) (dBin gMul (dC (.int 2)) (dBin gIx (dName 0) (dC (.int 1))))))
def r_rounded (ds : List D) (as : List Addr) : List Slot := entryR m_rounded ds as ++ List.replicate 0 .un
def Ok_rounded : Prop := ∀ ds k as, t_rounded ds k → ds.length = m_rounded.length → as.length = nio m_rounded → d_rounded { nx := finR m_rounded as k (.fz .none), rt := finR m_rounded as k } (entryR m_rounded ds as ++ List.replicate (1 - m_rounded.length) .un)
/-- slots: 0 top, 1 bottom, 2 share -/
def d_fraction : DTS :=
  (dSeq (dSet 2 (dFn gGcd (dCons (dName 0) (dCons (dName 1) dNil))))
  (dSeq (dIfS (dTest (dBin gLt (dName 1) (dC (.int 0))))
    (dSet 2 (dUn gNeg (dName 2)))
    dNext)
  (dRet (dTup (dCons (dBin gFdiv (dName 0) (dName 2)) (dCons (dBin gFdiv (dName 1) (dName 2)) dNil))))))
def r_fraction (ds : List D) (as : List Addr) : List Slot := entryR m_fraction ds as ++ List.replicate 1 .un
def Ok_fraction : Prop := ∀ ds k as, t_fraction ds k → ds.length = m_fraction.length → as.length = nio m_fraction → d_fraction { nx := finR m_fraction as k (.fz .none), rt := finR m_fraction as k } (entryR m_fraction ds as ++ List.replicate (3 - m_fraction.length) .un)
/-- slots: 0 marks -/
def d_mean : DTS :=
  (dRet (dCall m_fraction t_fraction (dCons (dFn gSum (dCons (dName 0) dNil)) (dCons (dFn gLen (dCons (dName 0) dNil)) dNil))))
def r_mean (ds : List D) (as : List Addr) : List Slot := entryR m_mean ds as ++ List.replicate 0 .un
def Ok_mean : Prop := ∀ ds k as, t_mean ds k → ds.length = m_mean.length → as.length = nio m_mean → d_mean { nx := finR m_mean as k (.fz .none), rt := finR m_mean as k } (entryR m_mean ds as ++ List.replicate (1 - m_mean.length) .un)
/-- slots: 0 marks -/
def d_report : DTS :=
  (dRet (dCall m_rounded t_rounded (dCons (dCall m_mean t_mean (dCons (dName 0) dNil)) dNil)))
def r_report (ds : List D) (as : List Addr) : List Slot := entryR m_report ds as ++ List.replicate 0 .un
def Ok_report : Prop := ∀ ds k as, t_report ds k → ds.length = m_report.length → as.length = nio m_report → d_report { nx := finR m_report as k (.fz .none), rt := finR m_report as k } (entryR m_report ds as ++ List.replicate (1 - m_report.length) .un)
/-- slots: 0 marks, 1 goal, 2 more, 3 fit, 4 mark, 5 turn -/
def d_needed : DTS :=
  (dSeq (dSet 3 (dComp (dItR2 (dCons (dC (.int 1)) (dCons (dC (.int 7)) dNil))) (gN 4) (dTest (dBin gLe (dCall m_report t_report (dCons (dBin gAdd (dName 0) (dComp (dItR1 (dCons (dName 2) dNil)) (gN 5) dYes (dName 4) [5])) dNil)) (dName 1))) (dName 4) [4]))
  (dRet (dIf (dTest (dBin gGt (dFn gLen (dCons (dName 3) dNil)) (dC (.int 0)))) (dFn gMax (dCons (dName 3) dNil)) (dC .none))))
def r_needed (ds : List D) (as : List Addr) : List Slot := entryR m_needed ds as ++ List.replicate 3 .un
def Ok_needed : Prop := ∀ ds k as, t_needed ds k → ds.length = m_needed.length → as.length = nio m_needed → d_needed { nx := finR m_needed as k (.fz .none), rt := finR m_needed as k } (entryR m_needed ds as ++ List.replicate (6 - m_needed.length) .un)
/-- slots: 0 marks, 1 goal, 2 row, 3 many -/
def b_fewest_changes_1 : DTS :=
  (dSeq (dStI 2 gSetL (dC (.int 1)) (dBin gSub (dBin gSub (dFn gLen (dCons (dName 2) dNil)) (dC (.int 1))) (dName 3)))
    (dAug 3 gAddI (dC (.int 1))))
def d_fewest_changes : DTS :=
  (dSeq (dSet 2 (dFn gSortI (dCons (dName 0) dNil)))
  (dSeq (dSet 3 (dC (.int 0)))
  (dSeq (dWhile (dTest (dBin gGt (dCall m_report t_report (dCons (dName 2) dNil)) (dName 1)))
    b_fewest_changes_1)
  (dRet (dName 3)))))
def r_fewest_changes (ds : List D) (as : List Addr) : List Slot := entryR m_fewest_changes ds as ++ List.replicate 2 .un
def Ok_fewest_changes : Prop := ∀ ds k as, t_fewest_changes ds k → ds.length = m_fewest_changes.length → as.length = nio m_fewest_changes → d_fewest_changes { nx := finR m_fewest_changes as k (.fz .none), rt := finR m_fewest_changes as k } (entryR m_fewest_changes ds as ++ List.replicate (4 - m_fewest_changes.length) .un)
/-- slots: 0 marks, 1 many, 2 row -/
def d_without_worst : DTS :=
  (dSeq (dSet 2 (dFn gSortI (dCons (dName 0) dNil)))
  (dRet (dCall m_mean t_mean (dCons (dSl (dName 2) dNo (dSo (dBin gSub (dFn gLen (dCons (dName 2) dNil)) (dName 1)))) dNil))))
def r_without_worst (ds : List D) (as : List Addr) : List Slot := entryR m_without_worst ds as ++ List.replicate 1 .un
def Ok_without_worst : Prop := ∀ ds k as, t_without_worst ds k → ds.length = m_without_worst.length → as.length = nio m_without_worst → d_without_worst { nx := finR m_without_worst as k (.fz .none), rt := finR m_without_worst as k } (entryR m_without_worst ds as ++ List.replicate (3 - m_without_worst.length) .un)
/-- slots: 0 marks, 1 row, 2 many -/
def d_middle : DTS :=
  (dSeq (dSet 1 (dFn gSortI (dCons (dName 0) dNil)))
  (dSeq (dSet 2 (dFn gLen (dCons (dName 1) dNil)))
  (dRet (dCall m_fraction t_fraction (dCons (dBin gAdd (dBin gIx (dName 1) (dBin gFdiv (dBin gSub (dName 2) (dC (.int 1))) (dC (.int 2)))) (dBin gIx (dName 1) (dBin gFdiv (dName 2) (dC (.int 2))))) (dCons (dC (.int 2)) dNil))))))
def r_middle (ds : List D) (as : List Addr) : List Slot := entryR m_middle ds as ++ List.replicate 2 .un
def Ok_middle : Prop := ∀ ds k as, t_middle ds k → ds.length = m_middle.length → as.length = nio m_middle → d_middle { nx := finR m_middle as k (.fz .none), rt := finR m_middle as k } (entryR m_middle ds as ++ List.replicate (3 - m_middle.length) .un)
/-- slots: 0 marks, 1 mark -/
def d_table_of : DTS :=
  (dRet (dComp (dItR2 (dCons (dC (.int 1)) (dCons (dC (.int 7)) dNil))) (gN 1) dYes (dMt "list" gCount (dName 0) (dCons (dName 1) dNil)) [1]))
def r_table_of (ds : List D) (as : List Addr) : List Slot := entryR m_table_of ds as ++ List.replicate 1 .un
def Ok_table_of : Prop := ∀ ds k as, t_table_of ds k → ds.length = m_table_of.length → as.length = nio m_table_of → d_table_of { nx := finR m_table_of as k (.fz .none), rt := finR m_table_of as k } (entryR m_table_of ds as ++ List.replicate (2 - m_table_of.length) .un)
/-- slots: 0 total, 1 many, 2 goal -/
def d__law_at_most : DTS :=
  (dRet (dBin gLt (dBin gMul (dC (.int 2)) (dName 0)) (dBin gMul (dBin gAdd (dBin gMul (dC (.int 2)) (dName 2)) (dC (.int 1))) (dName 1))))
def r__law_at_most (ds : List D) (as : List Addr) : List Slot := entryR m__law_at_most ds as ++ List.replicate 0 .un
def Ok__law_at_most : Prop := ∀ ds k as, t__law_at_most ds k → ds.length = m__law_at_most.length → as.length = nio m__law_at_most → d__law_at_most { nx := finR m__law_at_most as k (.fz .none), rt := finR m__law_at_most as k } (entryR m__law_at_most ds as ++ List.replicate (3 - m__law_at_most.length) .un)
/-- slots: 0 marks, 1 goal, 2 many, 3 turn -/
def b_ones_needed_1 : DTS :=
  (dAug 2 gAddI (dC (.int 1)))
def d_ones_needed : DTS :=
  (dSeq (dSet 2 (dC (.int 0)))
  (dSeq (dWhile (dTest (dBin gGt (dCall m_report t_report (dCons (dBin gAdd (dName 0) (dComp (dItR1 (dCons (dName 2) dNil)) (gN 3) dYes (dC (.int 1)) [3])) dNil)) (dName 1)))
    b_ones_needed_1)
  (dRet (dName 2))))
def r_ones_needed (ds : List D) (as : List Addr) : List Slot := entryR m_ones_needed ds as ++ List.replicate 2 .un
def Ok_ones_needed : Prop := ∀ ds k as, t_ones_needed ds k → ds.length = m_ones_needed.length → as.length = nio m_ones_needed → d_ones_needed { nx := finR m_ones_needed as k (.fz .none), rt := finR m_ones_needed as k } (entryR m_ones_needed ds as ++ List.replicate (4 - m_ones_needed.length) .un)
/-- slots: 0 box, 1 marks, 2 handed, 3 many, 4 total, 5 worst, 6 more, 7 goal, 8 fit, 9 over, 10 mark, 11 k -/
def b__law_goals_1 : DTS :=
  (dSeq (dSet 8 (dComp (dItR2 (dCons (dC (.int 1)) (dCons (dC (.int 7)) dNil))) (gN 10) (dTest (dCall m__law_at_most t__law_at_most (dCons (dBin gAdd (dName 4) (dBin gMul (dName 10) (dName 6))) (dCons (dBin gAdd (dName 3) (dName 6)) (dCons (dName 7) dNil))))) (dName 10) [10]))
    (dSeq (dIfS (dNot (dTest (dCall m__law_same t__law_same (dCons (dCall m_needed t_needed (dCons (dName 2) (dCons (dName 7) (dCons (dName 6) dNil)))) (dCons (dIf (dTest (dBin gEq (dName 8) (dLst dNil))) (dC .none) (dBin gIx (dName 8) (dBin gSub (dFn gLen (dCons (dName 8) dNil)) (dC (.int 1))))) dNil)))))
      (dRet (dC (.bool false)))
      dNext)
    (dSeq (dSet 9 (dBin gSub (dBin gMul (dC (.int 2)) (dName 4)) (dBin gMul (dBin gAdd (dBin gMul (dC (.int 2)) (dName 7)) (dC (.int 1))) (dName 3))))
    (dSeq (dIfS (dNot (dTest (dCall m__law_same t__law_same (dCons (dCall m_ones_needed t_ones_needed (dCons (dName 2) (dCons (dName 7) dNil))) (dCons (dIf (dTest (dBin gLt (dName 9) (dC (.int 0)))) (dC (.int 0)) (dBin gAdd (dBin gFdiv (dName 9) (dBin gSub (dBin gMul (dC (.int 2)) (dName 7)) (dC (.int 1)))) (dC (.int 1)))) dNil)))))
      (dRet (dC (.bool false)))
      dNext)
    (dSeq (dSet 8 (dComp (dItR1 (dCons (dBin gAdd (dName 3) (dC (.int 1))) dNil)) (gN 11) (dTest (dCall m__law_at_most t__law_at_most (dCons (dBin gAdd (dBin gSub (dName 4) (dFn gSum (dCons (dSl (dName 5) dNo (dSo (dName 11))) dNil))) (dName 11)) (dCons (dName 3) (dCons (dName 7) dNil))))) (dName 11) [11]))
    (dIfS (dNot (dTest (dCall m__law_same t__law_same (dCons (dCall m_fewest_changes t_fewest_changes (dCons (dName 2) (dCons (dName 7) dNil))) (dCons (dBin gIx (dName 8) (dC (.int 0))) dNil)))))
      (dRet (dC (.bool false)))
      dNext))))))
def d__law_goals : DTS :=
  (dSeq (dAsg (gT 2 (gsC (gN 3) (gsC (gN 4) gsN))) (dTup (dCons (dFn gLen (dCons (dName 1) dNil)) (dCons (dFn gSum (dCons (dName 1) dNil)) dNil))))
  (dSeq (dSet 5 (dRevL (dFn gSortI (dCons (dName 1) dNil))))
  (dSeq (dSet 6 (dBin gAdd (dC (.int 1)) (dCall m__law_draw t__law_draw (dCons (dName 0) (dCons (dC (.int 5)) dNil)))))
  (dSeq (dFor (dItR2 (dCons (dC (.int 1)) (dCons (dC (.int 8)) dNil))) (gN 7)
    b__law_goals_1)
  (dRet (dBin gEq (dName 2) (dName 1)))))))
def r__law_goals (ds : List D) (as : List Addr) : List Slot := entryR m__law_goals ds as ++ List.replicate 9 .un
def Ok__law_goals : Prop := ∀ ds k as, t__law_goals ds k → ds.length = m__law_goals.length → as.length = nio m__law_goals → d__law_goals { nx := finR m__law_goals as k (.fz .none), rt := finR m__law_goals as k } (entryR m__law_goals ds as ++ List.replicate (12 - m__law_goals.length) .un)
/-- slots: 0 marks, 1 goal -/
def d__law_report : DTS :=
  (dRet (dBin gIx (dComp (dItR2 (dCons (dC (.int 1)) (dCons (dC (.int 7)) dNil))) (gN 1) (dTest (dCall m__law_at_most t__law_at_most (dCons (dFn gSum (dCons (dName 0) dNil)) (dCons (dFn gLen (dCons (dName 0) dNil)) (dCons (dName 1) dNil))))) (dName 1) [1]) (dC (.int 0))))
def r__law_report (ds : List D) (as : List Addr) : List Slot := entryR m__law_report ds as ++ List.replicate 1 .un
def Ok__law_report : Prop := ∀ ds k as, t__law_report ds k → ds.length = m__law_report.length → as.length = nio m__law_report → d__law_report { nx := finR m__law_report as k (.fz .none), rt := finR m__law_report as k } (entryR m__law_report ds as ++ List.replicate (2 - m__law_report.length) .un)
/-- slots: 0 marks, 1 weights, 2 mark, 3 weight -/
def d_weighted : DTS :=
  (dRet (dCall m_fraction t_fraction (dCons (dFn gSum (dCons (dComp (dItZ (dCons (dName 0) (dCons (dName 1) dNil))) (gT 2 (gsC (gN 2) (gsC (gN 3) gsN))) dYes (dBin gMul (dName 2) (dName 3)) [2, 3]) dNil)) (dCons (dFn gSum (dCons (dName 1) dNil)) dNil))))
def r_weighted (ds : List D) (as : List Addr) : List Slot := entryR m_weighted ds as ++ List.replicate 2 .un
def Ok_weighted : Prop := ∀ ds k as, t_weighted ds k → ds.length = m_weighted.length → as.length = nio m_weighted → d_weighted { nx := finR m_weighted as k (.fz .none), rt := finR m_weighted as k } (entryR m_weighted ds as ++ List.replicate (4 - m_weighted.length) .un)
/-- slots: 0 one, 1 other -/
def d_is_less : DTS :=
  (dRet (dBin gLt (dBin gMul (dBin gIx (dName 0) (dC (.int 0))) (dBin gIx (dName 1) (dC (.int 1)))) (dBin gMul (dBin gIx (dName 1) (dC (.int 0))) (dBin gIx (dName 0) (dC (.int 1))))))
def r_is_less (ds : List D) (as : List Addr) : List Slot := entryR m_is_less ds as ++ List.replicate 0 .un
def Ok_is_less : Prop := ∀ ds k as, t_is_less ds k → ds.length = m_is_less.length → as.length = nio m_is_less → d_is_less { nx := finR m_is_less as k (.fz .none), rt := finR m_is_less as k } (entryR m_is_less ds as ++ List.replicate (2 - m_is_less.length) .un)
/-- slots: 0 marks, 1 weights, 2 place, 3 more -/
def d_better_with : DTS :=
  (dSeq (dSet 3 (dFn gListOf (dCons (dName 1) dNil)))
  (dSeq (dAugI 3 (fun i j => i + j) (dName 2) (dC (.int 1)))
  (dRet (dCall m_is_less t_is_less (dCons (dCall m_weighted t_weighted (dCons (dName 0) (dCons (dName 3) dNil))) (dCons (dCall m_weighted t_weighted (dCons (dName 0) (dCons (dName 1) dNil))) dNil))))))
def r_better_with (ds : List D) (as : List Addr) : List Slot := entryR m_better_with ds as ++ List.replicate 1 .un
def Ok_better_with : Prop := ∀ ds k as, t_better_with ds k → ds.length = m_better_with.length → as.length = nio m_better_with → d_better_with { nx := finR m_better_with as k (.fz .none), rt := finR m_better_with as k } (entryR m_better_with ds as ++ List.replicate (4 - m_better_with.length) .un)
/-- slots: 0 script, 1 box, 2 lap, 3 marks, 4 many, 5 handed, 6 low, 7 left_out, 8 due, 9 both, 10 again, 11 weights, 12 told, 13 top, 14 place, 15 better, 16 k, 17 mark, 18 far -/
def b_law_1 : DTS :=
  (dSeq (dSet 8 (dCall m__law_low t__law_low (dCons (dFn gSum (dCons (dSl (dName 6) dNo (dSo (dBin gSub (dName 4) (dName 7)))) dNil)) (dCons (dBin gSub (dName 4) (dName 7)) dNil))))
      (dIfS (dNot (dTest (dCall m__law_same t__law_same (dCons (dCall m_without_worst t_without_worst (dCons (dName 5) (dCons (dName 7) dNil))) (dCons (dName 8) dNil)))))
        (dRet (dC (.bool false)))
        dNext))
def b_law_2 : DTS :=
  (dSeq (dSet 15 (dBin gLt (dBin gMul (dBin gIx (dName 3) (dName 14)) (dFn gSum (dCons (dName 11) dNil))) (dName 13)))
        (dIfS (dOr (dNot (dTest (dCall m__law_same t__law_same (dCons (dCall m_better_with t_better_with (dCons (dName 5) (dCons (dName 12) (dCons (dName 14) dNil)))) (dCons (dName 15) dNil))))) (dTest (dBin gNe (dName 12) (dName 11))))
          (dRet (dC (.bool false)))
          dNext))
def b_law_3 : DTS :=
  (dSeq (dSet 11 (dComp (dItR1 (dCons (dName 4) dNil)) (gN 16) dYes (dCall m__law_pick t__law_pick (dCons (dName 1) (dCons (dLst (dCons (dC (.int 0)) (dCons (dC (.int 1)) (dCons (dC (.int 2)) (dCons (dC (.int 1)) (dCons (dCall m__law_draw t__law_draw (dCons (dName 1) (dCons (dC (.int 10)) dNil))) dNil)))))) dNil))) [16]))
      (dSeq (dStI 11 gSetL (dBin gAdd (dC (.int 1)) (dCall m__law_draw t__law_draw (dCons (dName 1) (dCons (dC (.int 9)) dNil)))) (dCall m__law_draw t__law_draw (dCons (dName 1) (dCons (dName 4) dNil))))
      (dSeq (dSet 12 (dFn gListOf (dCons (dName 11) dNil)))
      (dSeq (dSet 13 (dFn gSum (dCons (dComp (dItE (dCons (dName 3) dNil)) (gT 2 (gsC (gN 16) (gsC (gN 17) gsN))) dYes (dBin gMul (dName 17) (dBin gIx (dName 11) (dName 16))) [16, 17]) dNil)))
      (dSeq (dIfS (dNot (dTest (dCall m__law_same t__law_same (dCons (dCall m_weighted t_weighted (dCons (dName 5) (dCons (dName 12) dNil))) (dCons (dCall m__law_low t__law_low (dCons (dName 13) (dCons (dFn gSum (dCons (dName 11) dNil)) dNil))) dNil)))))
        (dRet (dC (.bool false)))
        dNext)
      (dSeq (dFor (dItR1 (dCons (dName 4) dNil)) (gN 14)
        b_law_2)
      (dIfS (dTest (dBin gNe (dName 5) (dName 3)))
        (dRet (dC (.bool false)))
        dNext)))))))
def b_law_4 : DTS :=
  (dSeq (dSet 3 (dCall m__law_marks t__law_marks (dCons (dName 1) dNil)))
    (dSeq (dSet 4 (dFn gLen (dCons (dName 3) dNil)))
    (dSeq (dSet 5 (dFn gListOf (dCons (dName 3) dNil)))
    (dSeq (dIfS (dOr (dNot (dTest (dCall m__law_same t__law_same (dCons (dCall m_mean t_mean (dCons (dName 5) dNil)) (dCons (dCall m__law_low t__law_low (dCons (dFn gSum (dCons (dName 3) dNil)) (dCons (dName 4) dNil))) dNil))))) (dNot (dTest (dCall m__law_same t__law_same (dCons (dCall m_report t_report (dCons (dName 5) dNil)) (dCons (dCall m__law_report t__law_report (dCons (dName 3) dNil)) dNil))))))
      (dRet (dC (.bool false)))
      dNext)
    (dSeq (dSet 6 (dFn gSortI (dCons (dName 3) dNil)))
    (dSeq (dFor (dItL (dLst (dCons (dC (.int 0)) (dCons (dBin gSub (dName 4) (dC (.int 1))) (dCons (dCall m__law_draw t__law_draw (dCons (dName 1) (dCons (dName 4) dNil))) dNil))))) (gN 7)
      b_law_1)
    (dSeq (dSet 9 (dComp (dItE (dCons (dName 6) dNil)) (gT 2 (gsC (gN 16) (gsC (gN 17) gsN))) (dOr (dTest (dBin gEq (dBin gMul (dC (.int 2)) (dName 16)) (dBin gSub (dName 4) (dC (.int 1))))) (dOr (dTest (dBin gEq (dBin gMul (dC (.int 2)) (dName 16)) (dName 4))) (dTest (dBin gEq (dBin gMul (dC (.int 2)) (dName 16)) (dBin gSub (dName 4) (dC (.int 2))))))) (dName 17) [16, 17]))
    (dSeq (dIfS (dNot (dTest (dCall m__law_same t__law_same (dCons (dCall m_middle t_middle (dCons (dName 5) dNil)) (dCons (dCall m__law_low t__law_low (dCons (dFn gSum (dCons (dName 9) dNil)) (dCons (dFn gLen (dCons (dName 9) dNil)) dNil))) dNil)))))
      (dRet (dC (.bool false)))
      dNext)
    (dSeq (dIfS (dNot (dTest (dCall m__law_same t__law_same (dCons (dCall m_table_of t_table_of (dCons (dName 5) dNil)) (dCons (dComp (dItL (dLst (dCons (dC (.int 1)) (dCons (dC (.int 2)) (dCons (dC (.int 3)) (dCons (dC (.int 4)) (dCons (dC (.int 5)) (dCons (dC (.int 6)) dNil)))))))) (gN 17) dYes (dFn gLen (dCons (dComp (dItL (dName 3)) (gN 18) (dTest (dBin gEq (dName 18) (dName 17))) (dC (.int 1)) [18]) dNil)) [17]) dNil)))))
      (dRet (dC (.bool false)))
      dNext)
    (dSeq (dIfS (dOr (dTest (dBin gNe (dName 5) (dName 3))) (dNot (dTest (dCall m__law_goals t__law_goals (dCons (dName 1) (dCons (dName 3) (dCons (dName 5) dNil)))))))
      (dRet (dC (.bool false)))
      dNext)
    (dFor (dItR1 (dCons (dC (.int 2)) dNil)) (gN 10)
      b_law_3)))))))))))
def d_law : DTS :=
  (dSeq (dSet 1 (dLst (dCons (dCall m__law_digits t__law_digits (dCons (dName 0) (dCons (dC (.int 0)) (dCons (dC (.int 20)) dNil)))) (dCons (dC (.int 0)) dNil))))
  (dSeq (dFor (dItR1 (dCons (dC (.int 3)) dNil)) (gN 2)
    b_law_4)
  (dSeq (dIfS (dOr (dNot (dTest (dCall m__law_same t__law_same (dCons (dCall m_report t_report (dCons (dLst (dCons (dC (.int 2)) (dCons (dC (.int 3)) dNil))) dNil)) (dCons (dC (.int 3)) dNil))))) (dOr (dNot (dTest (dCall m__law_same t__law_same (dCons (dCall m_report t_report (dCons (dLst (dCons (dC (.int 2)) (dCons (dC (.int 3)) (dCons (dC (.int 2)) dNil)))) dNil)) (dCons (dC (.int 2)) dNil))))) (dNot (dTest (dCall m__law_same t__law_same (dCons (dCall m_middle t_middle (dCons (dLst (dCons (dC (.int 6)) (dCons (dC (.int 1)) (dCons (dC (.int 2)) (dCons (dC (.int 3)) dNil))))) dNil)) (dCons (dTup (dCons (dC (.int 5)) (dCons (dC (.int 2)) dNil))) dNil)))))))
    (dRet (dC (.bool false)))
    dNext)
  (dSeq (dIfS (dOr (dNot (dTest (dCall m__law_same t__law_same (dCons (dCall m_needed t_needed (dCons (dLst (dCons (dC (.int 3)) (dCons (dC (.int 3)) dNil))) (dCons (dC (.int 3)) (dCons (dC (.int 2)) dNil)))) (dCons (dC (.int 3)) dNil))))) (dOr (dTest (dUn gNotN (dCall m_needed t_needed (dCons (dLst (dCons (dC (.int 6)) (dCons (dC (.int 6)) (dCons (dC (.int 6)) (dCons (dC (.int 6)) (dCons (dC (.int 6)) dNil)))))) (dCons (dC (.int 1)) (dCons (dC (.int 1)) dNil)))))) (dNot (dTest (dCall m__law_same t__law_same (dCons (dCall m_ones_needed t_ones_needed (dCons (dLst (dCons (dC (.int 6)) dNil)) (dCons (dC (.int 1)) dNil))) (dCons (dC (.int 10)) dNil)))))))
    (dRet (dC (.bool false)))
    dNext)
  (dRet (dAndV (dCall m__law_same t__law_same (dCons (dCall m_fewest_changes t_fewest_changes (dCons (dLst (dCons (dC (.int 4)) (dCons (dC (.int 6)) (dCons (dC (.int 2)) (dCons (dC (.int 6)) dNil))))) (dCons (dC (.int 3)) dNil))) (dCons (dC (.int 1)) dNil))) (dCall m__law_same t__law_same (dCons (dCall m_without_worst t_without_worst (dCons (dLst (dCons (dC (.int 5)) (dCons (dC (.int 1)) (dCons (dC (.int 6)) dNil)))) (dCons (dC (.int 1)) dNil))) (dCons (dTup (dCons (dC (.int 3)) (dCons (dC (.int 1)) dNil))) dNil)))))))))
def r_law (ds : List D) (as : List Addr) : List Slot := entryR m_law ds as ++ List.replicate 18 .un
def Ok_law : Prop := ∀ ds k as, t_law ds k → ds.length = m_law.length → as.length = nio m_law → d_law { nx := finR m_law as k (.fz .none), rt := finR m_law as k } (entryR m_law ds as ++ List.replicate (19 - m_law.length) .un)
end TL.k59

-- part Pk59
/-! Pk59: the defs of law k59 keep their promises. -/
namespace TL.k59
open PySem PySem.Spec L2 TL.cm
theorem sl : sizeLine = 16777216 := rfl
theorem sum_le {ns : List Int} {b : Int} (h : ∀ x ∈ ns, 0 ≤ x ∧ x ≤ b) : 0 ≤ ns.sum ∧ ns.sum ≤ ns.length * b := by
  induction ns with
  | nil => simp
  | cons x ns ih =>
    obtain ⟨h1, h2⟩ := ih fun y hy => h y (List.mem_cons_of_mem _ hy)
    obtain ⟨h3, h4⟩ := h x List.mem_cons_self
    simp only [List.sum_cons, List.length_cons]
    have : ((ns.length + 1 : Nat) : Int) * b = ns.length * b + b := by rw [Int.natCast_add, Int.add_mul]; simp
    rw [this]
    omega
theorem ne_len {ns : List Int} (h : ns ≠ []) : 0 < ns.length := by
  cases ns with
  | nil => exact absurd rfl h
  | cons => simp
theorem Sml.pos {ns : List Int} (h : Sml ns) : (0 : Int) < ns.length ∧ (ns.length : Int) ≤ 1000 := by
  have := ne_len h.ne
  have := h.len
  omega
theorem gcd_ok {a b : Int} (hb : 0 < b) : 0 < (Int.gcd a b : Int) ∧ (Int.gcd a b : Int) ≤ b ∧ (Int.gcd a b : Int) ∣ a ∧ (Int.gcd a b : Int) ∣ b := by
  have h1 : (Int.gcd a b : Int) ∣ b := Int.gcd_dvd_right ..
  have h2 : (Int.gcd a b : Int) ∣ a := Int.gcd_dvd_left ..
  have h3 : 0 < Int.gcd a b := Int.gcd_pos_of_ne_zero_right _ (by omega)
  exact ⟨by omega, Int.le_of_dvd hb h1, h2, h1⟩
theorem p_fraction : Ok_fraction := by
  rintro ds k as ⟨a, b, rfl, hb, hb2, hk⟩ - ha
  obtain rfl := as0 ha
  obtain ⟨g1, g2, g3, g4⟩ := gcd_ok (a := a) hb
  refine ifd (fun h => ?_) fun h => ?_
  · omega
  · have g5 : ((Nat.gcd a.natAbs b.natAbs : Nat) : Int) < 1073741824 := by show (Int.gcd a b : Int) < _; omega
    exact ⟨⟨g1, g5⟩, ⟨g1, g5⟩, (by show 2 ≤ sizeLine; decide), hk⟩
theorem p_is_less : Ok_is_less := by
  rintro ds k as ⟨a, b, c, d, rfl, hb, hd, hk⟩ - ha
  obtain rfl := as0 ha
  exact ⟨_, rfl, _, rfl, mulSmall (by omega), _, rfl, _, rfl, mulSmall (by omega), hk⟩
theorem p_rounded : Ok_rounded := by
  rintro ds k as ⟨a, b, rfl, hb, hb2, hk⟩ - ha
  obtain rfl := as0 ha
  exact ⟨_, rfl, mulSmall' (by decide), _, rfl, _, rfl, mulSmall' (by decide), ⟨by omega, by omega⟩, hk⟩
theorem p_mean : Ok_mean := by
  rintro ds k as ⟨ns, rfl, hs, hk⟩ - ha
  obtain rfl := as0 ha
  have := hs.pos
  have le : (ns.map PyData.int).length = ns.length := List.length_map _
  refine ⟨_, intsOf_map _, okio0 rfl, ns.sum, ns.length, ?_, by omega, by omega, hk⟩
  rw [← le]
theorem p_weighted : Ok_weighted := by
  rintro ds k as ⟨ns, ws, rfl, hs, hw, hl, hp, hk⟩ - ha
  obtain rfl := as0 ha
  have b1 := sum_le hw.le
  have := hw.pos
  have := hs.len
  have q := sl
  refine ⟨fun p hp => absurd hp List.not_mem_nil, ?_⟩
  refine comp_ints (zipD_ints ns ws) (fun p => p.1 * p.2) (by rw [List.length_zip]; omega) trivial (fun x hx kk hk => ?_) ?_
  · have h1 := hs.le _ (List.of_mem_zip hx).1
    exact ⟨rfl, mulSmall (by have := hw.le _ (List.of_mem_zip hx).2; omega), hk⟩
  · refine ⟨_, intsOf_map _, _, intsOf_map _, okio0 rfl, _, _, rfl, hp, by omega, ?_⟩
    have e : (List.zip ns ws).map (fun p => p.1 * p.2) = List.zipWith (· * ·) ns ws := by
      rw [List.zip_eq_zipWith, List.map_zipWith]
    rw [e]
    exact hk
theorem rep_fr {s n : Int} (hn : 0 < n) : (2 * (s / (Int.gcd s n : Int)) + n / (Int.gcd s n : Int)) / (2 * (n / (Int.gcd s n : Int))) = rep s n := by
  obtain ⟨g1, g2, ⟨a, g3⟩, ⟨b, g4⟩⟩ := gcd_ok (a := s) hn
  generalize (Int.gcd s n : Int) = g at *
  subst g3 g4
  rw [Int.mul_ediv_cancel_left _ (by omega), Int.mul_ediv_cancel_left _ (by omega)]
  unfold rep
  rw [show 2 * (g * a) + g * b = g * (2 * a + b) by rw [Int.mul_add, Int.mul_left_comm], show 2 * (g * b) = g * (2 * b) from Int.mul_left_comm .., Int.mul_ediv_mul_of_pos _ _ g1]
theorem p_report : Ok_report := by
  rintro ds k as ⟨ns, rfl, hs, hk⟩ - ha
  obtain rfl := as0 ha
  have := hs.pos
  obtain ⟨g1, g2, g3, g4⟩ := gcd_ok (a := ns.sum) (b := ns.length) (by omega)
  refine ⟨okio0 rfl, ns, rfl, hs, okio0 rfl, _, _, rfl, Int.ediv_pos_of_pos_of_dvd (by omega) (by omega) g4, ?_, ?_⟩
  · exact Int.lt_of_le_of_lt (Int.ediv_le_self _ (by omega)) (by omega)
  · rw [rep_fr (by omega)]
    exact hk
theorem Sml.srt {ns : List Int} (h : Sml ns) : Sml (srt ns) := by
  refine ⟨fun z => h.ne ?_, by rw [srt_len]; exact h.len, fun x hx => h.le x (srt_mem.mp hx)⟩
  have := srt_len ns
  rw [z] at this
  exact List.length_eq_zero_iff.mp this.symm
theorem p_without_worst : Ok_without_worst := by
  rintro ds k as ⟨ns, j, rfl, hs, hj, hk⟩ - ha
  obtain rfl := as0 ha
  have le : ∀ ns : List Int, (ns.map PyData.int).length = ns.length := fun ns => List.length_map _
  refine ⟨_, intsOf_map _, fun ms hp hw => ?_⟩
  obtain rfl := srt_eq hp hw
  have l1 := srt_len ns
  have h2 := hs.srt
  conv => whnf
  refine ⟨okio0 rfl, (srt ns).take (ns.length - j), ?_, ?_, ?_⟩
  · rw [le, l1, cut_to (by omega), ← List.map_take]
    have e : ((ns.length : Int) - (j : Int)).toNat = ns.length - j := by omega
    rw [e]
    rfl
  · refine ⟨fun z => ?_, ?_, fun x hx => h2.le x (List.mem_of_mem_take hx)⟩
    · have := congrArg List.length z
      rw [List.length_take, l1] at this
      simp at this
      omega
    · rw [List.length_take]
      have := hs.len
      omega
  · have e : ((srt ns).take (ns.length - j)).length = ns.length - j := by rw [List.length_take, l1]; omega
    rw [e]
    exact hk
theorem p_table_of : Ok_table_of := by
  rintro ds k as ⟨ns, rfl, hs, hk⟩ - ha
  obtain rfl := as0 ha
  refine ⟨⟨⟨by decide, by decide⟩, by decide, by decide⟩, fun p hp => absurd hp List.not_mem_nil, ?_⟩
  refine comp_ints (l := List.range 6) (range_map 1 6) (fun i => (ns.count (1 + (i : Int)) : Int)) (by rw [List.length_range]; decide) trivial (fun x hx kk hk => ?_) ?_
  · exact ⟨rfl, ns, intsOf_map _, hk⟩
  · exact hk
theorem p_middle : Ok_middle := by
  rintro ds k as ⟨ns, rfl, hs, hk⟩ - ha
  obtain rfl := as0 ha
  have le : ∀ ns : List Int, (ns.map PyData.int).length = ns.length := fun ns => List.length_map _
  refine ⟨_, intsOf_map _, fun ms hp hw => ?_⟩
  obtain rfl := srt_eq hp hw
  have l1 := srt_len ns
  have hl := ne_len hs.ne
  have gt : ∀ j : Nat, j < ns.length → (srt ns)[j]? = some ((srt ns).getD j 0) := fun j hj => by
    rw [List.getD_eq_getElem?_getD, List.getElem?_eq_getElem (by omega)]
    rfl
  refine ⟨⟨by decide, by decide⟩, _, atI_ints (n := (srt ns).getD ((ns.length - 1) / 2) 0) ?_ ?_, ⟨by decide, by decide⟩, _, atI_ints (n := (srt ns).getD (ns.length / 2) 0) ?_ ?_, ?_⟩
  · rw [le, l1]; omega
  · rw [le, l1, ← gt _ (by omega)]
    try (congr 1 <;> omega)
  · rw [le, l1]; omega
  · rw [le, l1, ← gt _ (by omega)]
    try (congr 1 <;> omega)
  · exact ⟨okio0 rfl, _, _, rfl, by decide, by decide, hk⟩
theorem range_const (n : Nat) (a : Int) : (List.range n).map (fun _ => a) = List.replicate n a := by
  induction n with
  | zero => rfl
  | succ n ih => rw [List.range_succ, List.map_append, ih, List.replicate_succ']; rfl
theorem sum_rep (n : Nat) (a : Int) : (List.replicate n a).sum = a * n := by
  induction n with
  | zero => simp
  | succ n ih =>
    rw [List.replicate_succ, List.sum_cons, ih, Int.natCast_add, Int.mul_add]
    simp
    omega
theorem Sml.app {ns : List Int} (h : Sml ns) {n : Nat} {a : Int} (hl : ns.length + n ≤ 1000) (h0 : 0 ≤ a) (h1 : a ≤ 1000) : Sml (ns ++ List.replicate n a) := by
  refine ⟨fun z => h.ne (List.append_eq_nil_iff.mp z).1, by simp; exact hl, fun x hx => ?_⟩
  rcases List.mem_append.mp hx with z | z
  · exact h.le x z
  · rw [List.eq_of_mem_replicate z]; exact ⟨h0, h1⟩
/-- marks + [a for turn in range(n)], reported -/
theorem more_ok {ns : List Int} {n : Nat} {a : Int} {K : D → Prop} (hl : ns.length + n ≤ 1000) (h : K (IL (ns ++ List.replicate n a))) : ((ns.map PyData.int).length + (((List.range n).map fun _ => a).map PyData.int).length ≤ sizeLine) ∧ K (.list (ns.map .int ++ ((List.range n).map fun _ => a).map .int)) := by
  have q := sl
  refine ⟨by simp; omega, ?_⟩
  rw [range_const, ← List.map_append]
  exact h
theorem last_max {l : List Int} {m : Int} (hp : l.Pairwise (· ≤ ·)) (hm : m ∈ l) (hy : ∀ y, y ∈ l → y ≤ m) : l.getLast? = some m := by
  cases e : l.getLast? with
  | none => rw [List.getLast?_eq_none_iff.mp e] at hm; cases hm
  | some x =>
    obtain ⟨ys, rfl⟩ := List.getLast?_eq_some_iff.mp e
    rw [List.pairwise_append] at hp
    have h1 : x ≤ m := hy x (by simp)
    have h2 : m ≤ x := by
      rcases List.mem_append.mp hm with z | z
      · exact hp.2.2 m z x (by simp)
      · rw [List.mem_singleton.mp z]; exact Int.le_refl _
    rw [Int.le_antisymm h1 h2]
theorem p_needed : Ok_needed := by
  rintro ds k as ⟨ns, goal, more, rfl, hs, h9, hm, hk⟩ - ha
  obtain rfl := as0 ha
  have q := sl
  refine ⟨⟨⟨by decide, by decide⟩, by decide, by decide⟩, fun p hp => absurd hp List.not_mem_nil, ?_⟩
  refine comp_fints (l := [1, 2, 3, 4, 5, 6]) (c := .int) rfl (fun m => decide (rep (ns.sum + m * more) (ns.length + more) ≤ goal)) (fun m => m) (by decide) trivial (fun m hx kk kn hk hn => ?_) ?_
  · have b1 : 1 ≤ m ∧ m ≤ 6 := by
      simp only [List.mem_cons, List.not_mem_nil, or_false] at hx
      omega
    refine ⟨⟨by omega, by omega⟩, fun p hp => absurd hp List.not_mem_nil, ?_⟩
    refine comp_ints (l := List.range more) (range_map 0 more) (fun _ => m) (by rw [List.length_range]; omega) trivial (fun x hx kk hk => hk) ?_
    have h1 := hs.app (n := more) (a := m) (by omega) (by omega) (by omega)
    refine ⟨by simp; omega, okio0 rfl, ns ++ List.replicate more m, ?_, h1, ?_⟩
    · rw [range_const, ← List.map_append]; rfl
    · have e1 : (ns ++ List.replicate more m).sum = ns.sum + m * more := by rw [List.sum_append, sum_rep]
      have e2 : ((ns ++ List.replicate more m).length : Int) = ns.length + more := by simp
      rw [e1, e2]
      exact ifd (fun h => hk (decide_eq_true h)) fun h => hn (decide_eq_false h)
  · have e : ([1, 2, 3, 4, 5, 6].filter fun m => decide (rep (ns.sum + m * more) (ns.length + more) ≤ goal)).map (fun m => m) = fits ns.sum ns.length goal more := by
      rw [List.map_id']; rfl
    rw [e]
    have pw : (fits ns.sum ns.length goal more).Pairwise (· ≤ ·) := List.Pairwise.filter _ (by decide)
    have le : ∀ ns : List Int, (ns.map PyData.int).length = ns.length := fun ns => List.length_map _
    generalize fits ns.sum ns.length goal more = l at *
    refine ifd (fun h => ?_) fun h => ?_
    · rw [le] at h
      refine ⟨l, intsOf_map _, by omega, fun m hm hy => ?_⟩
      rw [last_max pw hm hy] at hk
      exact hk
    · rw [le] at h
      have : l = [] := List.length_eq_zero_iff.mp (by omega)
      subst this
      exact hk
theorem p_ones_needed : Ok_ones_needed := by
  rintro ds k as ⟨ns, goal, m, rfl, hs, h9, hm, h1, h2, hk⟩ - ha
  obtain rfl := as0 ha
  have q := sl
  refine while_ind (fun n ρ => ∃ j : Nat, j + n = m ∧ ρ = [.rd (IL ns), .fz (.int goal), .fz (.int j), .un]) ⟨m, 0, by omega, rfl⟩ ?_
  rintro n ρ kk ⟨j, hj, rfl⟩ next
  refine ⟨⟨by omega, by omega⟩, fun p hp => absurd hp List.not_mem_nil, ?_⟩
  refine comp_ints (l := List.range j) (range_map 0 j) (fun _ => 1) (by rw [List.length_range]; omega) trivial (fun x hx kk hk => hk) ?_
  have h3 := hs.app (n := j) (a := 1) (by omega) (by omega) (by omega)
  refine ⟨by simp; omega, okio0 rfl, ns ++ List.replicate j 1, ?_, h3, ?_⟩
  · rw [range_const, ← List.map_append]; rfl
  · have e1 : (ns ++ List.replicate j 1).sum = ns.sum + j := by rw [List.sum_append, sum_rep]; omega
    have e2 : ((ns ++ List.replicate j 1).length : Int) = ns.length + j := by simp
    rw [e1, e2]
    refine ifd (fun h => ?_) fun h => ?_
    · have : j ≠ m := fun z => by subst z; omega
      exact ⟨trivial, next _ (n - 1) (by omega) ⟨j + 1, by omega, by simp⟩⟩
    · have : j = m := by
        by_cases z : j < m
        · have := h2 j z; omega
        · omega
      subst this
      exact hk
theorem set_step {l : List Int} {j : Nat} (h : j < l.length) : (l.take (l.length - j) ++ List.replicate j 1).set (l.length - 1 - j) 1 = l.take (l.length - (j + 1)) ++ List.replicate (j + 1) 1 := by
  have e : l.length - j = (l.length - (j + 1)) + 1 := by omega
  rw [e, List.take_succ_eq_append_getElem (by omega), List.append_assoc, List.set_append_right _ _ (by rw [List.length_take]; omega)]
  have e2 : l.length - 1 - j - (l.take (l.length - (j + 1))).length = 0 := by rw [List.length_take]; omega
  rw [e2, List.replicate_succ]
  rfl
theorem p_fewest_changes : Ok_fewest_changes := by
  rintro ds k as ⟨ns, goal, m, rfl, hs, hm, h1, h2, hk⟩ - ha
  obtain rfl := as0 ha
  refine ⟨_, intsOf_map _, fun ms hp hw => ?_⟩
  obtain rfl := srt_eq hp hw
  have l1 := srt_len ns
  have h5 := hs.srt
  have h6 := hs.len
  have le : ∀ ns : List Int, (ns.map PyData.int).length = ns.length := fun ns => List.length_map _
  let row : Nat → List Int := fun j => (srt ns).take (ns.length - j) ++ List.replicate j 1
  have rl : ∀ j, j ≤ ns.length → (row j).length = ns.length := fun j hj => by simp [row, l1]; omega
  have rs : ∀ j, j ≤ ns.length → Sml (row j) := fun j hj => by
    refine ⟨fun z => hs.ne (List.length_eq_zero_iff.mp ?_), by rw [rl j hj]; exact h6, fun x hx => ?_⟩
    · have := rl j hj; rw [z] at this; exact this.symm
    · rcases List.mem_append.mp hx with z | z
      · exact h5.le x (List.mem_of_mem_take z)
      · rw [List.eq_of_mem_replicate z]; decide
  have rsum : ∀ j, (row j).sum = chg ns j := fun j => by
    show ((srt ns).take (ns.length - j) ++ List.replicate j 1).sum = _
    rw [List.sum_append, sum_rep]
    unfold chg
    omega
  refine while_ind (fun n ρ => ∃ j : Nat, j + n = m ∧ ρ = [.rd (IL ns), .fz (.int goal), .ow none .l (IL (row j)), .fz (.int j)]) ⟨m, 0, by omega, ?_⟩ ?_
  · have : row 0 = srt ns := by simp [row, ← l1]
    rw [this]
    rfl
  rintro n ρ kk ⟨j, hj, rfl⟩ next
  refine ⟨okio0 rfl, row j, rfl, rs j (by omega), ?_⟩
  rw [rsum, rl j (by omega)]
  refine ifd (fun h => ?_) fun h => ?_
  · have hne : j ≠ m := fun z => by subst z; omega
    have hix : ixN ((row j).map PyData.int).length (((row j).map PyData.int).length - 1 - (j : Int)) = some (ns.length - 1 - j) := by
      rw [le, rl j (by omega), ixN_of (by omega) (by omega)]
      congr 1
      omega
    refine ⟨trivial, _, hix, trivial, ?_⟩
    refine next _ (n - 1) (by omega) ⟨j + 1, by omega, ?_⟩
    have e := set_step (l := srt ns) (j := j) (by omega)
    rw [l1] at e
    have e3 : ((row j).map PyData.int).set (ns.length - 1 - j) (.int 1) = (row (j + 1)).map .int := by
      show _ = ((srt ns).take (ns.length - (j + 1)) ++ List.replicate (j + 1) 1).map PyData.int
      rw [← e, List.map_set]
    show [Slot.rd (IL ns), .fz (.int goal), .ow none .l (.list (((row j).map PyData.int).set (ns.length - 1 - j) (.int 1))), .fz (.int ((j : Int) + 1))] = _
    rw [e3]
    rfl
  · have : j = m := by
      by_cases z : j < m
      · have := h2 j z; omega
      · omega
    subst this
    exact hk
theorem set_sum : ∀ {ws : List Int} {j : Nat}, j < ws.length → (ws.set j (ws.getD j 0 + 1)).sum = ws.sum + 1
  | w :: ws, 0, _ => by simp; omega
  | w :: ws, j + 1, h => by
    have := set_sum (ws := ws) (j := j) (by simpa using h)
    simp only [List.set_cons_succ, List.sum_cons, List.getD_cons_succ, this]
    omega
theorem set_zip : ∀ {ns ws : List Int} {j : Nat}, j < ws.length → j < ns.length → (List.zipWith (· * ·) ns (ws.set j (ws.getD j 0 + 1))).sum = (List.zipWith (· * ·) ns ws).sum + ns.getD j 0
  | n :: ns, w :: ws, 0, _, _ => by
    simp only [List.set_cons_zero, List.zipWith_cons_cons, List.sum_cons, List.getD_cons_zero, Int.mul_add]
    omega
  | n :: ns, w :: ws, j + 1, h, h' => by
    have := set_zip (ns := ns) (ws := ws) (j := j) (by simpa using h) (by simpa using h')
    simp only [List.set_cons_succ, List.zipWith_cons_cons, List.sum_cons, List.getD_cons_succ, this]
    omega
/-- lowest terms compare as the fractions do -/
theorem fr_less {a b c d : Int} (hb : 0 < b) (hd : 0 < d) : (a / (Int.gcd a b : Int)) * (d / (Int.gcd c d : Int)) < (c / (Int.gcd c d : Int)) * (b / (Int.gcd a b : Int)) ↔ a * d < c * b := by
  obtain ⟨g1, _, ⟨x, g3⟩, ⟨y, g4⟩⟩ := gcd_ok (a := a) hb
  obtain ⟨e1, _, ⟨u, e3⟩, ⟨v, e4⟩⟩ := gcd_ok (a := c) hd
  generalize (Int.gcd a b : Int) = g at *
  generalize (Int.gcd c d : Int) = e at *
  subst g3 g4 e3 e4
  rw [Int.mul_ediv_cancel_left _ (by omega), Int.mul_ediv_cancel_left _ (by omega), Int.mul_ediv_cancel_left _ (by omega), Int.mul_ediv_cancel_left _ (by omega)]
  have p : 0 < g * e := Int.mul_pos g1 e1
  rw [show g * x * (e * v) = g * e * (x * v) by rw [Int.mul_assoc, Int.mul_left_comm x, ← Int.mul_assoc], show e * u * (g * y) = g * e * (u * y) by rw [Int.mul_assoc, Int.mul_left_comm u, ← Int.mul_assoc, Int.mul_comm e g]]
  exact (Int.mul_lt_mul_left p).symm
theorem p_better_with : Ok_better_with := by
  rintro ds k as ⟨ns, ws, j, rfl, hs, hw, hl, hp, hj, h9, h100, hk⟩ - ha
  obtain rfl := as0 ha
  have hjw : j < ws.length := by omega
  have e1 := set_sum hjw
  have e2 := set_zip hjw hj
  have gx : ws[j]? = some (ws.getD j 0) := by rw [List.getD_eq_getElem?_getD, List.getElem?_eq_getElem hjw]; rfl
  have hm : ws.getD j 0 ∈ ws := List.mem_of_getElem? gx
  have hw' : Sml (ws.set j (ws.getD j 0 + 1)) := by
    refine ⟨fun z => hw.ne (List.length_eq_zero_iff.mp ?_), by rw [List.length_set]; exact hw.len, fun x hx => ?_⟩
    · have := congrArg List.length z
      rw [List.length_set] at this
      exact this
    · rcases List.mem_or_eq_of_mem_set hx with z | z
      · exact hw.le x z
      · have := h100 _ hm
        have := hw.le _ hm
        omega
  have le : ∀ ns : List Int, (ns.map PyData.int).length = ns.length := fun ns => List.length_map _
  refine ⟨trivial, _, atI_ints (n := ws.getD j 0) (by omega) (by simpa using gx), j, ?_, ?_⟩
  · rw [le, ixN_of (by omega) (by omega)]; congr 1
  · conv => whnf
    have e3 : (ws.map PyData.int).set j (.int (ws.getD j 0 + 1)) = (ws.set j (ws.getD j 0 + 1)).map .int := by rw [List.map_set]
    refine ⟨okio0 rfl, ns, ws.set j (ws.getD j 0 + 1), ?_, hs, hw', by rw [List.length_set]; exact hl, by rw [e1]; omega, ?_⟩
    · exact congrArg (fun z => [IL ns, PyData.list z]) e3
    · refine ⟨okio0 rfl, ns, ws, rfl, hs, hw, hl, hp, ?_⟩
      rw [e1, e2]
      have b1 := sum_le hw.le
      have q1 := gcd_ok (a := (List.zipWith (· * ·) ns ws).sum) hp
      have q2 := gcd_ok (a := (List.zipWith (· * ·) ns ws).sum + ns.getD j 0) (b := ws.sum + 1) (by omega)
      have r1 : ∀ {g w : Int}, 0 < g → 0 < w → w < 1000000000 → 0 ≤ w / g ∧ w / g < 1000000000 := fun {g w} h h' h2 => ⟨Int.ediv_nonneg (by omega) (by omega), Int.lt_of_le_of_lt (Int.ediv_le_self _ (by omega)) h2⟩
      have b2 := hw.len
      refine ⟨okio0 rfl, _, _, _, _, rfl, r1 q2.1 (by omega) (by omega), r1 q1.1 hp (by omega), ?_⟩
      have e4 := fr_less (a := (List.zipWith (· * ·) ns ws).sum + ns.getD j 0) (b := ws.sum + 1) (c := (List.zipWith (· * ·) ns ws).sum) (d := ws.sum) (by omega) hp
      have e5 : decide (((List.zipWith (· * ·) ns ws).sum + ns.getD j 0) / (Int.gcd ((List.zipWith (· * ·) ns ws).sum + ns.getD j 0) (ws.sum + 1) : Int) * (ws.sum / (Int.gcd (List.zipWith (· * ·) ns ws).sum ws.sum : Int)) <
          (List.zipWith (· * ·) ns ws).sum / (Int.gcd (List.zipWith (· * ·) ns ws).sum ws.sum : Int) * ((ws.sum + 1) / (Int.gcd ((List.zipWith (· * ·) ns ws).sum + ns.getD j 0) (ws.sum + 1) : Int))) = decide (ns.getD j 0 * ws.sum < (List.zipWith (· * ·) ns ws).sum) := by
        apply decide_eq_decide.mpr
        rw [e4]
        generalize (List.zipWith (· * ·) ns ws).sum = t
        rw [Int.add_mul, Int.mul_add]
        omega
      rw [e5]
      exact hk
theorem p__law_at_most : Ok__law_at_most := by
  rintro ds k as ⟨a, b, c, rfl, h0, h1, hk⟩ - ha
  obtain rfl := as0 ha
  exact ⟨mulSmall' (by decide), mulSmall' (by decide), mulSmall (by omega), hk⟩
theorem p__law_low : Ok__law_low := by
  rintro ds k as ⟨a, b, rfl, hb, hb2, hk⟩ - ha
  obtain rfl := as0 ha
  refine while_ind (fun n ρ => ∃ x y : Int, 0 ≤ x ∧ 0 ≤ y ∧ y.toNat = n ∧ (0 < x ∨ 0 < y) ∧ Int.gcd x y = Int.gcd a b ∧ ρ = [.fz (.int a), .fz (.int b), .fz (.int x), .fz (.int y)]) ⟨_, _, b, ?_, by omega, rfl, .inr hb, ?_, rfl⟩ ?_
  · show 0 ≤ if a < 0 then -a else a
    split <;> omega
  · show Int.gcd (if a < 0 then -a else a) b = _
    split
    · exact Int.neg_gcd
    · rfl
  · rintro n ρ kk ⟨x, y, hx, hy, hn, hxy, hg, rfl⟩ next
    refine ifd (fun h => ?_) fun h => ?_
    · refine ⟨h, ?_⟩
      have h1 := Int.emod_nonneg x (b := y) (by omega)
      have h2 := Int.emod_lt_of_pos x h
      refine next _ _ ?_ ⟨y, x % y, hy, h1, rfl, .inl h, ?_, rfl⟩
      · omega
      · rw [← hg]
        obtain ⟨m, rfl⟩ := Int.eq_ofNat_of_zero_le hx
        obtain ⟨n, rfl⟩ := Int.eq_ofNat_of_zero_le hy
        show Nat.gcd n (m % n) = Nat.gcd m n
        rw [Nat.gcd_comm m n, Nat.gcd_comm n, ← Nat.gcd_rec]
    · have hy0 : y = 0 := by omega
      subst hy0
      have hx0 : 0 < x := by omega
      have e : (Int.gcd a b : Int) = x := by
        rw [← hg, Int.gcd_zero]
        omega
      have g5 := gcd_ok (a := a) hb
      rw [e] at g5
      refine ⟨⟨hx0, by omega⟩, ⟨hx0, by omega⟩, (by show 2 ≤ sizeLine; decide), ?_⟩
      unfold fr at hk
      rw [e] at hk
      exact hk
theorem flat_ints (n : Nat) (l : List Int) : (List.replicate n (l.map PyData.int)).flatten = ((List.replicate n l).flatten).map .int := by
  rw [List.map_flatten, List.map_replicate]
theorem mk_flat {l : List Int} {n : Nat} (hl : l ≠ []) (hn : 0 < n) (h9 : n * l.length ≤ 9) (h : ∀ x ∈ l, 1 ≤ x ∧ x ≤ 6) : Mk (List.replicate n l).flatten := by
  have e : (List.replicate n l).flatten.length = n * l.length := by simp [List.length_flatten]
  refine ⟨fun z => ?_, by rw [e]; exact h9, fun x hx => ?_⟩
  · have := congrArg List.length z
    rw [e] at this
    have h1 := ne_len hl
    have := Nat.mul_pos hn h1
    simp at *
    omega
  · obtain ⟨m, hm, hx⟩ := List.mem_flatten.mp hx
    rw [List.eq_of_mem_replicate hm] at hx
    exact h x hx
theorem p__law_marks : Ok__law_marks := by
  rintro ds k as ⟨b, rfl, hb, hk⟩ - ha
  obtain ⟨a, rfl⟩ := as1 ha
  have q := sl
  refine seq_join (fun ρ => ∃ kind b, BoxD b ∧ ρ = [.ow (some a) .l b, .fz (.int kind), .un, .un, .un]) (fun kk hkk => ?_) ?_
  · exact ⟨okio1 rfl (by decide) trivial, rfl, _, _, rfl, hb, by decide, fun kind b1 h1 h2 hb1 => ⟨rfl, hkk _ ⟨kind, b1, hb1, rfl⟩⟩⟩
  rintro ρ ⟨kind, b, hb, rfl⟩
  refine seq_join (fun ρ => ∃ many b, (1 ≤ many ∧ many ≤ 9) ∧ BoxD b ∧ ρ = [.ow (some a) .l b, .fz (.int kind), .fz (.int many), .un, .un]) (fun kk hkk => ?_) ?_
  · exact ⟨okio1 rfl (by decide) trivial, rfl, _, _, rfl, hb, by decide, fun x b2 h3 h4 hb2 => ⟨rfl, hkk _ ⟨1 + x, b2, by omega, hb2, rfl⟩⟩⟩
  rintro ρ ⟨many, b, h5, hb, rfl⟩
  let St : Slot → D → List Slot := fun s b => [.ow (some a) .l b, .fz (.int kind), .fz (.int many), s, .un]
  let St2 : List Int → D → List Slot := fun ns b => St (.ow none .l (IL ns)) b
  have rl : (rangeD 0 1 many.toNat).length = many.toNat := rangeD_len
  refine seq_join (fun ρ => ∃ ns b, Mk ns ∧ BoxD b ∧ ρ = St2 ns b) (fun kk hkk => ?_) ?_
  · refine ⟨⟨by omega, by omega⟩, fun p hp => absurd hp List.not_mem_nil, ?_⟩
    refine comp_box (St .un) (fun x => 1 ≤ x ∧ x ≤ 6) (by omega) (by intro; trivial) (fun d hd b hb kk hk => ?_) (fun ns b' hl hp hb' => hkk _ ⟨ns, b', ⟨fun z => ?_, by omega, hp⟩, hb', rfl⟩) hb
    · exact ⟨okio1 rfl (by decide) trivial, rfl, _, _, rfl, hb, by decide, fun x b' h1 h2 hb' => ⟨rfl, hk _ b' (by omega) hb'⟩⟩
    · subst z; simp at hl; omega
  rintro ρ ⟨ns, b, hm, hb, rfl⟩
  refine seq_join (fun ρ => ∃ ns b, Mk ns ∧ BoxD b ∧ ρ = St2 ns b) (fun kk hkk => ⟨sh_int, sh_int, ifb (fun _ => ?_) fun _ => hkk _ ⟨ns, b, hm, hb, rfl⟩⟩) ?_
  · obtain ⟨x, hx, hxm⟩ := get_lt (ns := ns) (i := 0) (by omega) (by have := ne_len hm.ne; omega)
    refine ⟨_, atI_ints (by decide) hx, (by show 1 ≤ sizeLine; decide), ⟨by omega, by omega, by simp; omega⟩, hkk _ ⟨(List.replicate many.toNat [x]).flatten, b, mk_flat (by simp) (by omega) (by simp; omega) (fun y hy => by rw [List.mem_singleton.mp hy]; exact hm.le x hxm), hb, ?_⟩⟩
    show [Slot.ow (some a) .l b, _, _, Slot.ow none .l (.list (List.replicate many.toNat ([x].map PyData.int)).flatten), _] = _
    rw [flat_ints]
    rfl
  rintro ρ ⟨ns, b, hm, hb, rfl⟩
  refine seq_join (fun ρ => ∃ ns b, Mk ns ∧ BoxD b ∧ ρ = St2 ns b) (fun kk hkk => ⟨sh_int, sh_int, ifb (fun _ => ?_) fun _ => hkk _ ⟨ns, b, hm, hb, rfl⟩⟩) ?_
  · obtain ⟨x, hx, hxm⟩ := get_lt (ns := ns) (i := 0) (by omega) (by have := ne_len hm.ne; omega)
    refine ⟨_, atI_ints (by decide) hx, _, atI_ints (by decide) hx, by decide, (by show 2 ≤ sizeLine; decide), okio1 rfl (by decide) trivial, rfl, _, _, rfl, hb, by decide, fun y b' h1 h2 hb' => ⟨rfl, ⟨by omega, by omega, by simp; omega⟩, hkk _ ⟨(List.replicate (1 + y).toNat [x, x % 6 + 1]).flatten, b', mk_flat (by simp) (by omega) (by simp; omega) (fun z hz => ?_), hb', ?_⟩⟩⟩
    · have := hm.le x hxm
      simp only [List.mem_cons, List.not_mem_nil, or_false] at hz
      omega
    · show [Slot.ow (some a) .l b', _, _, Slot.ow none .l (.list (List.replicate (1 + y).toNat ([x, x % 6 + 1].map PyData.int)).flatten), _] = _
      rw [flat_ints]
      rfl
  rintro ρ ⟨ns, b, hm, hb, rfl⟩
  refine seq_join (fun ρ => ∃ ns b, Mk ns ∧ BoxD b ∧ ρ = St2 ns b) (fun kk hkk => ⟨sh_int, sh_int, ifb (fun _ => ?_) fun _ => hkk _ ⟨ns, b, hm, hb, rfl⟩⟩) ?_
  · refine ⟨⟨by omega, by omega⟩, fun p hp => absurd hp List.not_mem_nil, ?_⟩
    refine comp_box (St2 ns) (fun x => 1 ≤ x ∧ x ≤ 6) (by omega) (by intro; trivial) (fun d hd b hb kk hk => ?_) (fun ns b' hl hp hb' => hkk _ ⟨ns, b', ⟨fun z => ?_, by omega, hp⟩, hb', rfl⟩) hb
    · exact ⟨okio1 rfl (by decide) trivial, rfl, _, _, rfl, hb, by decide, fun x b' h1 h2 hb' => ⟨rfl, hk _ b' (by omega) hb'⟩⟩
    · subst z; simp at hl; omega
  rintro ρ ⟨ns, b, hm, hb, rfl⟩
  refine seq_join (fun ρ => ∃ ns b, Mk ns ∧ BoxD b ∧ ρ = St2 ns b) (fun kk hkk => ⟨sh_int, sh_int, ifb (fun _ => ?_) fun _ => hkk _ ⟨ns, b, hm, hb, rfl⟩⟩) ?_
  · refine ⟨⟨by omega, by omega⟩, fun p hp => absurd hp List.not_mem_nil, ?_⟩
    refine comp_box (St2 ns) (fun x => 1 ≤ x ∧ x ≤ 6) (by omega) (by intro; trivial) (fun d hd b hb kk hk => ?_) (fun ns b' hl hp hb' => hkk _ ⟨ns, b', ⟨fun z => ?_, by omega, hp⟩, hb', rfl⟩) hb
    · exact ⟨okio1 rfl (by decide) trivial, rfl, _, _, rfl, hb, by decide, fun x b' h1 h2 hb' => ⟨rfl, mulSmall' (by decide), hk _ b' (by omega) hb'⟩⟩
    · subst z; simp at hl; omega
  rintro ρ ⟨ns, b, hm, hb, rfl⟩
  exact ⟨rfl, rfl, hk ns b hm hb⟩
/-- the first mark that is reached -/
theorem at_most_iff {s n g : Int} (hn : 0 < n) : 2 * s < (2 * g + 1) * n ↔ rep s n ≤ g := by
  unfold rep
  have h := Int.ediv_lt_iff_lt_mul (a := 2 * s + n) (b := g + 1) (c := 2 * n) (by omega)
  have e : (g + 1) * (2 * n) = (2 * g + 1) * n + n := by
    rw [Int.add_mul, Int.add_mul, Int.mul_left_comm, Int.mul_assoc]
    omega
  rw [e] at h
  constructor
  · intro z
    have := h.mpr (by omega)
    omega
  · intro z
    have := h.mp (by omega)
    omega
theorem rep_lo {s n : Int} (hn : 0 < n) {g : Int} (h : g * n ≤ s) : g ≤ rep s n := by
  unfold rep
  have := (Int.le_ediv_iff_mul_le (a := g) (b := 2 * s + n) (c := 2 * n) (by omega)).mpr (by rw [Int.mul_left_comm]; omega)
  exact this
theorem rep_hi {s n : Int} (hn : 0 < n) {g : Int} (h : s ≤ g * n) : rep s n ≤ g := by
  refine (at_most_iff hn).mp ?_
  rw [Int.add_mul, Int.mul_assoc]
  omega
theorem sum_lo {ns : List Int} {b : Int} (h : ∀ x ∈ ns, b ≤ x) : b * ns.length ≤ ns.sum := by
  induction ns with
  | nil => simp
  | cons x ns ih =>
    have h1 := ih fun y hy => h y (List.mem_cons_of_mem _ hy)
    have h3 := h x List.mem_cons_self
    simp only [List.sum_cons, List.length_cons]
    have : b * ((ns.length + 1 : Nat) : Int) = b * ns.length + b := by rw [Int.natCast_add, Int.mul_add]; simp
    rw [this]
    omega
theorem Mk.pos {ns : List Int} (h : Mk ns) : (0 : Int) < ns.length ∧ (ns.length : Int) ≤ 9 := by
  have := ne_len h.ne
  have := h.len
  omega
theorem Mk.sml {ns : List Int} (h : Mk ns) : Sml ns := ⟨h.ne, by have := h.len; omega, fun x hx => by have := h.le x hx; omega⟩
theorem Mk.rep {ns : List Int} (h : Mk ns) : 1 ≤ rep ns.sum ns.length ∧ rep ns.sum ns.length ≤ 6 := by
  have h1 := sum_lo (ns := ns) (b := 1) fun x hx => (h.le x hx).1
  have h2 := sum_le (ns := ns) (b := 6) fun x hx => by have := h.le x hx; omega
  have h3 := h.pos
  exact ⟨rep_lo h3.1 h1, rep_hi h3.1 (by rw [Int.mul_comm]; exact h2.2)⟩
theorem first_fit {r : Int} (h : 1 ≤ r ∧ r ≤ 6) : ([1, 2, 3, 4, 5, 6].filter fun g : Int => decide (r ≤ g))[0]? = some r := by
  have : r = 1 ∨ r = 2 ∨ r = 3 ∨ r = 4 ∨ r = 5 ∨ r = 6 := by omega
  rcases this with rfl | rfl | rfl | rfl | rfl | rfl <;> decide
theorem p__law_report : Ok__law_report := by
  rintro ds k as ⟨ns, rfl, hm, hk⟩ - ha
  obtain rfl := as0 ha
  have hp := hm.pos
  refine ⟨⟨⟨by decide, by decide⟩, by decide, by decide⟩, fun p hp => absurd hp List.not_mem_nil, ?_⟩
  refine comp_fints (l := [1, 2, 3, 4, 5, 6]) (c := .int) rfl (fun g => decide (rep ns.sum ns.length ≤ g)) (fun g => g) (by decide) trivial (fun m hx kk kn hk hn => ?_) ?_
  · refine ⟨_, intsOf_map _, okio0 rfl, _, _, _, rfl, by omega, by simp; omega, ?_⟩
    refine ifd (fun h => hk (decide_eq_true ((at_most_iff (by omega)).mp ?_))) fun h => hn (decide_eq_false fun z => h ?_)
    · rw [List.length_map] at h; exact h
    · rw [List.length_map]; exact (at_most_iff (by omega)).mpr z
  · refine ⟨_, atI_ints (by decide) ?_, hk⟩
    rw [List.map_id']
    exact first_fit hm.rep
theorem least {p : Nat → Bool} {N : Nat} (h : p N = true) : ∃ m, m ≤ N ∧ p m = true ∧ (∀ j, j < m → p j = false) ∧ ((List.range (N + 1)).filter p)[0]? = some m := by
  have h0 : ((List.range (N + 1)).filter p)[0]? = (List.range (N + 1)).find? p := by
    rw [← List.head?_filter, List.head?_eq_getElem?]
  cases e : (List.range (N + 1)).find? p with
  | none =>
    have := List.find?_eq_none.mp e N (List.mem_range.mpr (Nat.lt_succ_self N))
    exact absurd h this
  | some m =>
    obtain ⟨h1, h2, h3⟩ := List.find?_range_eq_some.mp e
    exact ⟨m, by have := List.mem_range.mp h2; omega, h1, fun j hj => by simpa using h3 j hj, by rw [h0, e]⟩
/-- the ones needed, reckoned -/
theorem ones_eq {s n g : Int} (hn : 0 < n) (hg : 1 ≤ g) (hs : s ≤ 54) : ∃ m : Nat, (if 2 * s - (2 * g + 1) * n < 0 then 0 else (2 * s - (2 * g + 1) * n) / (2 * g - 1) + 1) = (m : Int) ∧ m ≤ 900 ∧ rep (s + m) (n + m) ≤ g ∧ ∀ j : Nat, j < m → g < rep (s + j) (n + j) := by
  have key : ∀ j : Nat, rep (s + j) (n + j) ≤ g ↔ 2 * s - (2 * g + 1) * n < (2 * g - 1) * j := fun j => by
    rw [← at_most_iff (by omega), Int.mul_add (2 * g + 1), Int.sub_mul, Int.add_mul _ _ (j : Int)]
    omega
  have hq : 0 < 2 * g - 1 := by omega
  have ov : 2 * s - (2 * g + 1) * n ≤ 108 := by
    have : 0 ≤ (2 * g + 1) * n := Int.mul_nonneg (by omega) (by omega)
    omega
  generalize 2 * s - (2 * g + 1) * n = over at *
  generalize 2 * g - 1 = q at *
  by_cases h : over < 0
  · exact ⟨0, by rw [if_pos h]; rfl, by decide, (key 0).mpr (by simp; omega), fun j hj => by omega⟩
  · have d0 : 0 ≤ over / q := Int.ediv_nonneg (by omega) (by omega)
    have d1 : over / q ≤ over := Int.ediv_le_self _ (by omega)
    refine ⟨(over / q + 1).toNat, by rw [if_neg h]; omega, by omega, (key _).mpr ?_, fun j hj => ?_⟩
    · have e : (((over / q + 1).toNat : Nat) : Int) = over / q + 1 := by omega
      rw [e]
      have := Int.lt_mul_ediv_self_add (x := over) hq
      rw [Int.mul_add]
      omega
    · have : ¬ rep (s + j) (n + j) ≤ g := fun z => by
        have z := (key j).mp z
        have h1 : (j : Int) ≤ over / q := by omega
        have h2 : q * (j : Int) ≤ q * (over / q) := Int.mul_le_mul_of_nonneg_left h1 (by omega)
        have h3 := Int.mul_ediv_self_le (x := over) (k := q) (by omega)
        omega
      omega
theorem chg_eq {ns : List Int} {k : Nat} (h : k ≤ ns.length) : ns.sum - ((srt ns).reverse.take k).sum + k = chg ns k := by
  unfold chg
  rw [List.take_reverse, perm_sum (List.reverse_perm _), srt_len]
  have := congrArg List.sum (List.take_append_drop (ns.length - k) (srt ns))
  rw [List.sum_append, srt_sum] at this
  omega
theorem chg_all {ns : List Int} : chg ns ns.length = ns.length := by
  unfold chg
  simp
theorem ints_rev_take {l : List Int} {k : Int} (h : 0 ≤ k) : cutD (l.map PyData.int).reverse none (some k) = (l.reverse.take k.toNat).map .int := by
  rw [cut_to h, ← List.map_reverse, List.map_take]
theorem p__law_goals : Ok__law_goals := by
  rintro ds k as ⟨b, ns, rfl, hb, hm, hk⟩ - ha
  obtain ⟨a, rfl⟩ := as1 ha
  have q := sl
  have hp := hm.pos
  have hs := hm.sml
  have le : ∀ ns : List Int, (ns.map PyData.int).length = ns.length := fun ns => List.length_map _
  have ssum := sum_le (ns := ns) (b := 6) fun x hx => by have := hm.le x hx; omega
  refine seq_to [.ow (some a) .l b, .rd (IL ns), .rd (IL ns), .fz (.int ns.length), .fz (.int ns.sum), .un, .un, .un, .un, .un, .un, .un] (fun kk hkk => ?_) ?_
  · refine ⟨_, intsOf_map _, (by show 2 ≤ sizeLine; decide), rfl, ?_⟩
    rw [le]
    exact hkk
  refine seq_to [.ow (some a) .l b, .rd (IL ns), .rd (IL ns), .fz (.int ns.length), .fz (.int ns.sum), .ow none .l (.list ((srt ns).map .int).reverse), .un, .un, .un, .un, .un, .un] (fun kk hkk => ?_) ?_
  · refine ⟨_, intsOf_map _, fun ms h1 h2 => ?_⟩
    obtain rfl := srt_eq h1 h2
    exact hkk
  refine seq_join (fun ρ => ∃ more : Nat, ∃ b, (1 ≤ more ∧ more ≤ 9) ∧ BoxD b ∧ ρ = [.ow (some a) .l b, .rd (IL ns), .rd (IL ns), .fz (.int ns.length), .fz (.int ns.sum), .ow none .l (.list ((srt ns).map .int).reverse), .fz (.int more), .un, .un, .un, .un, .un]) (fun kk hkk => ?_) ?_
  · refine ⟨okio1 rfl (by decide) trivial, rfl, _, _, rfl, hb, by decide, fun x b' h1 h2 hb' => ⟨rfl, hkk _ ⟨(1 + x).toNat, b', by omega, hb', ?_⟩⟩⟩
    rw [show (((1 + x).toNat : Nat) : Int) = 1 + x by omega]
    rfl
  rintro ρ ⟨more, b, h9, hb, rfl⟩
  refine seq_join (fun ρ => ∃ s7 s8 s9, ρ = [.ow (some a) .l b, .rd (IL ns), .rd (IL ns), .fz (.int ns.length), .fz (.int ns.sum), .ow none .l (.list ((srt ns).map .int).reverse), .fz (.int more), s7, s8, s9, .un, .un]) (fun kk hkk => ?_) ?_
  · refine ⟨⟨⟨by decide, by decide⟩, by decide, by decide⟩, trivial, ?_⟩
    refine loop_ind (fun done rest ρ => ∃ s7 s8 s9, ρ = [.ow (some a) .l b, .rd (IL ns), .rd (IL ns), .fz (.int ns.length), .fz (.int ns.sum), .ow none .l (.list ((srt ns).map .int).reverse), .fz (.int more), s7, s8, s9, .un, .un]) ⟨_, _, _, rfl⟩ (fun ρ h => hkk ρ h) ?_
    rintro done d rest ρ he ⟨s7, s8, s9, rfl⟩ next
    obtain ⟨rfl, hd⟩ := range_at he
    have hd : done.length < 7 := hd
    have hg : 1 ≤ (1 : Int) + done.length ∧ (1 : Int) + done.length ≤ 7 := by omega
    generalize (1 : Int) + done.length = g at hg
    let St : Slot → Slot → List Slot := fun s8 s9 => [.ow (some a) .l b, .rd (IL ns), .rd (IL ns), .fz (.int ns.length), .fz (.int ns.sum), .ow none .l (.list ((srt ns).map .int).reverse), .fz (.int more), .fz (.int g), s8, s9, .un, .un]
    -- fit
    refine seq_to (St (.ow none .l (IL (fits ns.sum ns.length g more))) s9) (fun kk hkk => ?_) ?_
    · refine ⟨⟨⟨by decide, by decide⟩, by decide, by decide⟩, fun p hp => absurd hp List.not_mem_nil, ?_⟩
      refine comp_fints (l := [1, 2, 3, 4, 5, 6]) (c := .int) rfl (fun m => decide (rep (ns.sum + m * more) (ns.length + more) ≤ g)) (fun m => m) (by decide) trivial (fun m hx kk kn hk hn => ?_) ?_
      · refine ⟨mulSmall (by omega), okio0 rfl, _, _, _, rfl, by omega, by omega, ?_⟩
        refine ifd (fun h => hk (decide_eq_true ((at_most_iff (by omega)).mp h))) fun h => hn (decide_eq_false fun z => h ((at_most_iff (by omega)).mpr z))
      · rw [List.map_id']
        exact hkk
    -- needed
    refine seq_to (St (.ow none .l (IL (fits ns.sum ns.length g more))) s9) (fun kk hkk => ?_) ?_
    · refine ⟨okio0 rfl, ns, g, more, rfl, hs, hm.len, h9.2, (by show 0 ≤ sizeLine; decide), sh_ints, sh_ints (ns := []), ifb (fun h => ?_) fun h => ?_⟩
      · have e := map_int_inj (b := []) (PyData.list.inj ((eqv_iff nb_ints (nb_ints (ns := []))).mp h))
        refine ⟨okio0 rfl, .none, ?_, sm_none, hkk⟩
        rw [e]
        rfl
      · have ne : fits ns.sum ns.length g more ≠ [] := fun z => by
          rw [z] at h
          cases h.symm.trans (eqv_self (nb_ints (ns := [])))
        obtain ⟨m, hm'⟩ : ∃ m, (fits ns.sum ns.length g more).getLast? = some m := by
          cases e : (fits ns.sum ns.length g more).getLast? with
          | none => exact absurd (List.getLast?_eq_none_iff.mp e) ne
          | some m => exact ⟨m, rfl⟩
        have hl := ne_len ne
        have b6 : 1 ≤ m ∧ m ≤ 6 := by
          have : m ∈ [1, 2, 3, 4, 5, 6] := (List.mem_filter.mp (List.mem_of_getLast? hm')).1
          simp only [List.mem_cons, List.not_mem_nil, or_false] at this
          omega
        refine ⟨_, atI_ints (n := m) (by rw [le]; omega) ?_, okio0 rfl, .int m, ?_, sm_int (by omega), hkk⟩
        · rw [List.getLast?_eq_getElem?] at hm'
          rw [le, ← hm']
          congr 1
          omega
        · rw [hm']
    -- over
    refine seq_to (St (.ow none .l (IL (fits ns.sum ns.length g more))) (.fz (.int (2 * ns.sum - (2 * g + 1) * ns.length)))) (fun kk hkk => ⟨mulSmall' (by decide), mulSmall' (by decide), mulSmall (by omega), hkk⟩) ?_
    -- ones needed
    obtain ⟨m, hm1, hm2, hm3, hm4⟩ := ones_eq (s := ns.sum) (n := ns.length) (g := g) (by omega) (by omega) (by omega)
    refine seq_to (St (.ow none .l (IL (fits ns.sum ns.length g more))) (.fz (.int (2 * ns.sum - (2 * g + 1) * ns.length)))) (fun kk hkk => ?_) ?_
    · refine ⟨okio0 rfl, ns, g, m, rfl, hs, hm.len, hm2, hm3, hm4, ifd (fun h => ?_) fun h => ?_⟩
      · rw [if_pos h] at hm1
        refine ⟨okio0 rfl, .int m, ?_, sm_int (by omega), hkk⟩
        rw [← hm1]
      · rw [if_neg h] at hm1
        refine ⟨mulSmall' (by decide), ⟨by omega, by omega⟩, okio0 rfl, .int m, ?_, sm_int (by omega), hkk⟩
        rw [← hm1]
    -- fewest changes
    obtain ⟨j, hj1, hj2, hj3, hj4⟩ := least (p := fun j => decide (rep (chg ns j) ns.length ≤ g)) (N := ns.length) (decide_eq_true (by
      rw [chg_all]
      exact Int.le_trans (rep_hi (g := 1) (by omega) (by omega)) (by omega)))
    refine seq_to (St (.ow none .l (IL (((List.range (ns.length + 1)).filter fun j => decide (rep (chg ns j) ns.length ≤ g)).map fun (i : Nat) => (0 + (i : Int))))) (.fz (.int (2 * ns.sum - (2 * g + 1) * ns.length)))) (fun kk hkk => ?_) ?_
    · refine ⟨⟨by omega, by omega⟩, fun p hp => absurd hp List.not_mem_nil, ?_⟩
      have e : ((ns.length : Int) + 1).toNat = ns.length + 1 := by omega
      rw [e]
      refine comp_fints (l := List.range (ns.length + 1)) (range_map 0 _) (fun j => decide (rep (chg ns j) ns.length ≤ g)) (fun i => (0 + (i : Int))) (by rw [List.length_range]; have := hm.len; omega) trivial (fun i hx kk kn hk hn => ?_) hkk
      have hi : i ≤ ns.length := by have := List.mem_range.mp hx; omega
      refine ⟨(srt ns).reverse.take i, ?_, okio0 rfl, _, _, _, rfl, by omega, by omega, ?_⟩
      · rw [ints_rev_take (by omega), intsOf_map]
        congr 2
        omega
      · have e1 : ns.sum - ((srt ns).reverse.take i).sum + (0 + (i : Int)) = chg ns i := by rw [← chg_eq hi]; omega
        rw [e1]
        refine ifd (fun h => hk (decide_eq_true ((at_most_iff (by omega)).mp h))) fun h => hn (decide_eq_false fun z => h ((at_most_iff (by omega)).mpr z))
    refine ⟨okio0 rfl, ns, g, j, rfl, hs, hj1, of_decide_eq_true hj2, fun i hi => ?_, _, atI_ints (n := (j : Int)) (by decide) ?_, okio0 rfl, _, rfl, sm_int (by have := hm.len; omega), next _ ⟨_, _, _, rfl⟩⟩
    · have := of_decide_eq_false (hj3 i hi)
      omega
    · show (((List.range (ns.length + 1)).filter _).map _)[0]? = _
      rw [List.getElem?_map, hj4]
      simp
  rintro ρ ⟨s7, s8, s9, rfl⟩
  refine ⟨sh_ints, sh_ints, rfl, rfl, ?_⟩
  have e : PyData.eqv (IL ns) (IL ns) = true := eqv_self nb_ints
  have := hk b hb
  rw [← e] at this
  exact this
theorem fr_two (x : Int) : fr (x + x) 2 = fr x 1 := by
  have e : Int.gcd (x + x) 2 = 2 := by
    have h : (2 : Int) ∣ x + x := ⟨x, by omega⟩
    have := Int.gcd_eq_right (a := x + x) (b := 2) (by decide) h
    omega
  unfold fr
  rw [e]
  have e1 : (x + x) / 2 = x := by omega
  simp [e1]
/-- the middle ones -/
def bothL (n : Nat) (l : List Int) : List Int := ((l.zipIdx 0).filter fun p => decide (2 * (p.2 : Int) = n - 1) || (decide (2 * (p.2 : Int) = n) || decide (2 * (p.2 : Int) = n - 2))).map fun p => p.1
theorem both_eq {l : List Int} (h : l ≠ []) (h9 : l.length ≤ 9) : fr (bothL l.length l).sum (bothL l.length l).length = fr (l.getD ((l.length - 1) / 2) 0 + l.getD (l.length / 2) 0) 2 ∧ 0 < (bothL l.length l).length ∧ (bothL l.length l).length ≤ 9 := by
  match l, h, h9 with
  | [a], _, _ => refine ⟨?_, ?_, ?_⟩ <;> simp [bothL, List.zipIdx, fr_two]
  | [a, b], _, _ => refine ⟨?_, ?_, ?_⟩ <;> simp [bothL, List.zipIdx, fr_two]
  | [a, b, c], _, _ => refine ⟨?_, ?_, ?_⟩ <;> simp [bothL, List.zipIdx, fr_two]
  | [a, b, c, d], _, _ => refine ⟨?_, ?_, ?_⟩ <;> simp [bothL, List.zipIdx, fr_two]
  | [a, b, c, d, e], _, _ => refine ⟨?_, ?_, ?_⟩ <;> simp [bothL, List.zipIdx, fr_two]
  | [a, b, c, d, e, f], _, _ => refine ⟨?_, ?_, ?_⟩ <;> simp [bothL, List.zipIdx, fr_two]
  | [a, b, c, d, e, f, g], _, _ => refine ⟨?_, ?_, ?_⟩ <;> simp [bothL, List.zipIdx, fr_two]
  | [a, b, c, d, e, f, g, i], _, _ => refine ⟨?_, ?_, ?_⟩ <;> simp [bothL, List.zipIdx, fr_two]
  | [a, b, c, d, e, f, g, i, j], _, _ => refine ⟨?_, ?_, ?_⟩ <;> simp [bothL, List.zipIdx, fr_two]
  | _ :: _ :: _ :: _ :: _ :: _ :: _ :: _ :: _ :: _ :: l, _, h => simp at h
theorem sm_fr {n : Nat} {a b : Int} (ha : -(2 ^ 60) < a ∧ a < 2 ^ 60) (hb : 0 < b ∧ b < 2 ^ 60) : Sm (n + 1) (fr a b) := by
  obtain ⟨g1, g2, g3, g4⟩ := gcd_ok (a := a) hb.1
  have b1 : b / (Int.gcd a b : Int) ≤ b := Int.ediv_le_self _ (by omega)
  have b0 : 0 ≤ b / (Int.gcd a b : Int) := Int.ediv_nonneg (by omega) (by omega)
  have a1 : (a / (Int.gcd a b : Int)).natAbs ≤ a.natAbs := Int.natAbs_ediv_le_natAbs ..
  refine sm_tuple (by show 2 ≤ sizeLine; decide) fun d hd => ?_
  simp only [List.mem_cons, List.not_mem_nil, or_false] at hd
  rcases hd with rfl | rfl
  · exact sm_int (by omega)
  · exact sm_int (by omega)
theorem count_len (ns : List Int) (m : Int) : (((ns.filter fun x => decide (x = m)).map fun _ => (1 : Int)).map PyData.int).length = ns.count m := by
  rw [List.length_map, List.length_map, List.count_eq_length_filter]
  congr 1
theorem zip_idx (ns ws : List Int) (h : ns.length = ws.length) : ((ns.zipIdx 0).map fun p => p.1 * ws.getD p.2 0) = List.zipWith (· * ·) ns ws := by
  refine List.ext_getElem (by simp [h]) fun i h1 h2 => ?_
  simp only [List.length_map, List.length_zipIdx] at h1
  simp only [List.getElem_map, List.getElem_zipIdx, List.getElem_zipWith, Nat.zero_add]
  rw [List.getD_eq_getElem?_getD, List.getElem?_eq_getElem (by omega)]
  rfl
/-- the frame of the law -/
def F0 (script : Slot) (b : D) (s2 s3 s4 s5 s6 s7 s8 s9 s10 s11 s12 s13 s14 s15 : Slot) : List Slot := [script, .ow none .l b, s2, s3, s4, s5, s6, s7, s8, s9, s10, s11, s12, s13, s14, s15, .un, .un, .un]
theorem body3 {ns : List Int} {b : D} {E : DEnds} {sc s2 s6 s7 s8 s9 s10 s11 s12 s13 s14 s15 : Slot} (hm : Mk ns) (hb : BoxD b)
    (hk : ∀ b' t11 t12 t13 t14 t15, BoxD b' → E.nx (F0 sc b' s2 (.ow none .l (IL ns)) (.fz (.int ns.length)) (.ow none .l (IL ns)) s6 s7 s8 s9 s10 t11 t12 t13 t14 t15)) :
    b_law_3 E (F0 sc b s2 (.ow none .l (IL ns)) (.fz (.int ns.length)) (.ow none .l (IL ns)) s6 s7 s8 s9 s10 s11 s12 s13 s14 s15) := by
  have q := sl
  have hp := hm.pos
  have hl := hm.len
  have le : ∀ ns : List Int, (ns.map PyData.int).length = ns.length := fun ns => List.length_map _
  let Z : D → Slot → Slot → Slot → Slot → Slot → List Slot := fun b t11 t12 t13 t14 t15 => F0 sc b s2 (.ow none .l (IL ns)) (.fz (.int ns.length)) (.ow none .l (IL ns)) s6 s7 s8 s9 s10 t11 t12 t13 t14 t15
  have rl : (rangeD 0 1 (ns.length : Int).toNat).length = ns.length := by rw [rangeD_len]; rfl
  refine seq_join (fun ρ => ∃ (ws : List Int) (b : D), ws.length = ns.length ∧ (∀ x ∈ ws, 0 ≤ x ∧ x ≤ 9) ∧ BoxD b ∧ ρ = Z b (.ow none .l (IL ws)) s12 s13 s14 s15) (fun kk hkk => ?_) ?_
  · refine ⟨⟨by omega, by omega⟩, fun p hp => absurd hp List.not_mem_nil, ?_⟩
    refine comp_box (fun b => Z b s11 s12 s13 s14 s15) (fun x => 0 ≤ x ∧ x ≤ 9) (by omega) (by intro; trivial) (fun d hd b hb kk hk => ?_) (fun ws b' hl hp hb' => hkk _ ⟨ws, b', by omega, hp, hb', rfl⟩) hb
    refine ⟨okio1 rfl List.not_mem_nil trivial, rfl, _, _, rfl, hb, by decide, fun x b' h1 h2 hb' => ⟨rfl, (by show 5 ≤ sizeLine; decide), okio1 rfl List.not_mem_nil trivial, rfl, _, _, .inl rfl, hb', by simp, fun y b'' hy hb'' => ⟨rfl, ?_⟩⟩⟩
    simp only [List.mem_cons, List.not_mem_nil, or_false] at hy
    rcases hy with rfl | rfl | rfl | rfl | rfl <;> exact hk _ b'' (by omega) hb''
  rintro ρ ⟨ws, b, hw, hw9, hb, rfl⟩
  refine seq_join (fun ρ => ∃ (ws : List Int) (b : D), ws.length = ns.length ∧ (∀ x ∈ ws, 0 ≤ x ∧ x ≤ 9) ∧ 0 < ws.sum ∧ BoxD b ∧ ρ = Z b (.ow none .l (IL ws)) s12 s13 s14 s15) (fun kk hkk => ?_) ?_
  · refine ⟨okio1 rfl List.not_mem_nil trivial, rfl, _, _, rfl, hb, by decide, fun x b' h1 h2 hb' => ⟨rfl, trivial, okio1 rfl List.not_mem_nil trivial, rfl, _, _, rfl, hb', by omega, fun y b'' h3 h4 hb'' => ⟨rfl, y.toNat, ?_, ?_⟩⟩⟩
    · rw [le, hw, ixN_of h3 h4]
    · have e : (ws.map PyData.int).set y.toNat (.int (1 + x)) = (ws.set y.toNat (1 + x)).map .int := by rw [List.map_set]
      have hall : ∀ z ∈ ws.set y.toNat (1 + x), 0 ≤ z ∧ z ≤ 9 := fun z hz => by
        rcases List.mem_or_eq_of_mem_set hz with z | z
        · exact hw9 _ z
        · omega
      refine hkk _ ⟨ws.set y.toNat (1 + x), b'', by rw [List.length_set]; exact hw, hall, ?_, hb'', ?_⟩
      · have hmem : 1 + x ∈ ws.set y.toNat (1 + x) := List.mem_of_getElem? (i := y.toNat) (by rw [List.getElem?_set_self (by omega)])
        obtain ⟨l1, l2, e2⟩ := List.append_of_mem hmem
        rw [e2] at hall ⊢
        have a1 := (sum_le (ns := l1) (b := 9) fun z hz => hall z (by simp [hz])).1
        have a2 := (sum_le (ns := l2) (b := 9) fun z hz => hall z (by simp [hz])).1
        rw [List.sum_append, List.sum_cons]
        omega
      · show F0 sc b'' s2 _ _ _ s6 s7 s8 s9 s10 (.ow none .l (.list ((ws.map PyData.int).set y.toNat (.int (1 + x))))) s12 s13 s14 s15 = _
        rw [e]
        rfl
  rintro ρ ⟨ws, b, hw, hw9, hw0, hb, rfl⟩
  have wsum := sum_le hw9
  have hws : Sml ws := ⟨fun z => by rw [z] at hw0; simp at hw0, by omega, fun x hx => by have := hw9 x hx; omega⟩
  have hns := hm.sml
  refine seq_to (Z b (.ow none .l (IL ws)) (.ow none .l (IL ws)) s13 s14 s15) (fun kk hkk => hkk) ?_
  -- top
  refine seq_to (Z b (.ow none .l (IL ws)) (.ow none .l (IL ws)) (.fz (.int (List.zipWith (· * ·) ns ws).sum)) s14 s15) (fun kk hkk => ?_) ?_
  · refine ⟨fun p hp => ?_, ?_⟩
    · rw [List.mem_singleton.mp hp]
      show (3 : Nat) ∉ [16, 17]
      decide
    · refine comp_ints (l := ns.zipIdx 0) (enumD_map PyData.int ns 0) (fun p => p.1 * ws.getD p.2 0) (by rw [List.length_zipIdx]; omega) ⟨rfl, trivial⟩ (fun p hp' kk hk => ?_) ?_
      · have hp2 : p.2 < ns.length := by have := List.snd_lt_of_mem_zipIdx hp'; omega
        have gx : ws[p.2]? = some (ws.getD p.2 0) := by rw [List.getD_eq_getElem?_getD, List.getElem?_eq_getElem (by omega)]; rfl
        have hx := hw9 _ (List.mem_of_getElem? gx)
        exact ⟨rfl, _, atI_ints (i := (p.2 : Int)) (n := ws.getD p.2 0) (by omega) (by rw [Int.toNat_natCast]; exact gx), mulSmall (by omega), hk⟩
      · refine ⟨_, intsOf_map _, ?_⟩
        rw [zip_idx ns ws hw.symm]
        exact hkk
  have tb : 0 ≤ (List.zipWith (· * ·) ns ws).sum ∧ (List.zipWith (· * ·) ns ws).sum ≤ (List.zipWith (· * ·) ns ws).length * 54 := sum_le fun x hx => by
    rw [← List.map_uncurry_zip_eq_zipWith] at hx
    obtain ⟨⟨u, v⟩, hp, rfl⟩ := List.mem_map.mp hx
    have h1 := hm.le _ (List.of_mem_zip hp).1
    have h2 := hw9 _ (List.of_mem_zip hp).2
    show 0 ≤ u * v ∧ u * v ≤ 54
    exact ⟨Int.mul_nonneg (by omega) (by omega), Int.le_trans (Int.mul_le_mul h1.2 h2.2 (by omega) (by decide)) (by decide)⟩
  have tl : (List.zipWith (· * ·) ns ws).length = ns.length := by simp [hw]
  rw [tl] at tb
  generalize ht : (List.zipWith (· * ·) ns ws).sum = top at *
  refine seq_to (Z b (.ow none .l (IL ws)) (.ow none .l (IL ws)) (.fz (.int top)) s14 s15) (fun kk hkk => ?_) ?_
  · refine ⟨okio0 rfl, ns, ws, rfl, hns, hws, hw.symm, hw0, _, intsOf_map _, okio0 rfl, _, _, rfl, hw0, by omega, okio0 rfl, _, ?_, sm_fr (a := top) (b := ws.sum) (by omega) (by omega), hkk⟩
    rw [ht]
  refine seq_join (fun ρ => ∃ t14 t15, ρ = Z b (.ow none .l (IL ws)) (.ow none .l (IL ws)) (.fz (.int top)) t14 t15) (fun kk hkk => ?_) ?_
  · refine ⟨⟨by omega, by omega⟩, trivial, ?_⟩
    refine loop_ind (fun done rest ρ => ∃ t14 t15, ρ = Z b (.ow none .l (IL ws)) (.ow none .l (IL ws)) (.fz (.int top)) t14 t15) ⟨_, _, rfl⟩ (fun ρ h => hkk ρ h) ?_
    rintro done d rest ρ he ⟨t14, t15, rfl⟩ next
    obtain ⟨rfl, hd⟩ := range_at he
    have hd : done.length < ns.length := hd
    have gx : ns[done.length]? = some (ns.getD done.length 0) := by rw [List.getD_eq_getElem?_getD, List.getElem?_eq_getElem (by omega)]; rfl
    have hx := hm.le _ (List.mem_of_getElem? gx)
    have e0 : (0 : Int) + (done.length : Int) = (done.length : Int) := by omega
    rw [e0]
    refine ⟨_, atI_ints (i := (done.length : Int)) (n := ns.getD done.length 0) (by omega) (by rw [Int.toNat_natCast]; exact gx), _, intsOf_map _, mulSmall' (by omega), ?_⟩
    have es : PyData.eqv (IL ws) (IL ws) = true := eqv_self nb_ints
    have hne : (!PyData.eqv (IL ws) (IL ws)) = false := by rw [es]; rfl
    refine ⟨okio0 rfl, ns, ws, done.length, rfl, hns, hws, hw.symm, hw0, hd, hm.len, fun w hw => by have := hw9 w hw; omega, okio0 rfl, .bool (decide (ns.getD done.length 0 * ws.sum < top)), ?_, sm_bool, sh_ints, sh_ints, ?_⟩
    · rw [ht]
    · show if (!PyData.eqv (IL ws) (IL ws)) = true then _ else _
      rw [hne]
      exact next _ ⟨_, _, rfl⟩
  rintro ρ ⟨t14, t15, rfl⟩
  have es : PyData.eqv (IL ns) (IL ns) = true := eqv_self nb_ints
  have hne : (!PyData.eqv (IL ns) (IL ns)) = false := by rw [es]; rfl
  refine ⟨sh_ints, sh_ints, ?_⟩
  show if (!PyData.eqv (IL ns) (IL ns)) = true then _ else _
  rw [hne]
  exact hk b _ _ _ _ _ hb
theorem body4 {b : D} {E : DEnds} {sc s2 s3 s4 s5 s6 s7 s8 s9 s10 s11 s12 s13 s14 s15 : Slot} (hb : BoxD b)
    (hk : ∀ b' t3 t4 t5 t6 t7 t8 t9 t10 t11 t12 t13 t14 t15, BoxD b' → E.nx (F0 sc b' s2 t3 t4 t5 t6 t7 t8 t9 t10 t11 t12 t13 t14 t15)) : b_law_4 E (F0 sc b s2 s3 s4 s5 s6 s7 s8 s9 s10 s11 s12 s13 s14 s15) := by
  have q := sl
  have le : ∀ ns : List Int, (ns.map PyData.int).length = ns.length := fun ns => List.length_map _
  refine seq_join (fun ρ => ∃ (ns : List Int) (b : D), Mk ns ∧ BoxD b ∧ ρ = F0 sc b s2 (.ow none .l (IL ns)) s4 s5 s6 s7 s8 s9 s10 s11 s12 s13 s14 s15) (fun kk hkk => ⟨okio1 rfl List.not_mem_nil trivial, rfl, b, rfl, hb, fun ns b' hm hb' => ⟨rfl, hkk _ ⟨ns, b', hm, hb', rfl⟩⟩⟩) ?_
  rintro ρ ⟨ns, b, hm, hb, rfl⟩
  have hp := hm.pos
  have hl := hm.len
  have hs := hm.sml
  have hn0 := ne_len hm.ne
  have ssum := sum_le (ns := ns) (b := 6) fun x hx => by have := hm.le x hx; omega
  have rp := hm.rep
  let W : D → Slot → Slot → Slot → Slot → List Slot := fun b t6 t7 t8 t9 => F0 sc b s2 (.ow none .l (IL ns)) (.fz (.int ns.length)) (.ow none .l (IL ns)) t6 t7 t8 t9 s10 s11 s12 s13 s14 s15
  refine seq_to (F0 sc b s2 (.ow none .l (IL ns)) (.fz (.int ns.length)) s5 s6 s7 s8 s9 s10 s11 s12 s13 s14 s15) (fun kk hkk => ?_) ?_
  · conv => whnf
    rw [le]
    exact hkk
  refine seq_to (W b s6 s7 s8 s9) (fun kk hkk => hkk) ?_
  -- mean, report
  refine seq_to (W b s6 s7 s8 s9) (fun kk hkk => ?_) ?_
  · exact ⟨okio0 rfl, ns, rfl, hs, _, intsOf_map _, okio0 rfl, _, _, rfl, by omega, by omega, okio0 rfl, _, rfl, sm_fr (by omega) (by omega), okio0 rfl, ns, rfl, hs, okio0 rfl, ns, rfl, hm, okio0 rfl, _, rfl, sm_int (by omega), hkk⟩
  refine seq_to (W b (.ow none .l (IL (srt ns))) s7 s8 s9) (fun kk hkk => ?_) ?_
  · refine ⟨_, intsOf_map _, fun ms h1 h2 => ?_⟩
    obtain rfl := srt_eq h1 h2
    exact hkk
  -- without the worst
  refine seq_join (fun ρ => ∃ b t7 t8, BoxD b ∧ ρ = W b (.ow none .l (IL (srt ns))) t7 t8 s9) (fun kk hkk => ?_) ?_
  · refine ⟨okio1 rfl List.not_mem_nil trivial, rfl, _, _, rfl, hb, by omega, fun x b' h1 h2 hb' => ⟨rfl, (by show 3 ≤ sizeLine; decide), trivial, ?_⟩⟩
    refine loop_ind (fun done rest ρ => ∃ t7 t8, ρ = W b' (.ow none .l (IL (srt ns))) t7 t8 s9) ⟨_, _, rfl⟩ (fun ρ ⟨t7, t8, h⟩ => hkk ρ ⟨b', t7, t8, hb', h⟩) ?_
    rintro done d rest ρ he ⟨t7, t8, rfl⟩ next
    obtain ⟨j, hj, rfl⟩ : ∃ j : Nat, j < ns.length ∧ d = .int j := by
      have hd : d ∈ [PyData.int 0, .int ((ns.length : Int) - 1), .int x] := by rw [he]; simp
      simp only [List.mem_cons, List.not_mem_nil, or_false] at hd
      rcases hd with rfl | rfl | rfl
      · exact ⟨0, by omega, rfl⟩
      · exact ⟨ns.length - 1, by omega, by congr 1; omega⟩
      · exact ⟨x.toNat, by omega, by congr 1; omega⟩
    have l1 := srt_len ns
    have ts : 0 ≤ ((srt ns).take (ns.length - j)).sum ∧ ((srt ns).take (ns.length - j)).sum ≤ ((srt ns).take (ns.length - j)).length * 6 := sum_le fun x hx => by have := hm.le x (srt_mem.mp (List.mem_of_mem_take hx)); omega
    have tl : ((srt ns).take (ns.length - j)).length = ns.length - j := by rw [List.length_take, l1]; omega
    rw [tl] at ts
    have ec : (((ns.length - j : Nat) : Nat) : Int) = (ns.length : Int) - j := by omega
    refine seq_to (W b' (.ow none .l (IL (srt ns))) (.fz (.int j)) (.fz (fr ((srt ns).take (ns.length - j)).sum (ns.length - j : Nat))) s9) (fun kk hkk => ?_) ?_
    · refine ⟨(srt ns).take (ns.length - j), ?_, okio0 rfl, _, _, rfl, by omega, by omega, ?_⟩
      · rw [cut_to (by omega), ← List.map_take, intsOf_map]
        congr 2
        omega
      · rw [← ec]
        exact hkk
    exact ⟨okio0 rfl, ns, j, rfl, hs, hj, okio0 rfl, _, rfl, sm_fr (by omega) (by omega), next _ ⟨_, _, rfl⟩⟩
  rintro ρ ⟨b, t7, t8, hb, rfl⟩
  -- the middle
  have bt := both_eq (l := srt ns) (fun z => by have := srt_len ns; rw [z] at this; simp at this; omega) (by rw [srt_len]; exact hl)
  rw [srt_len] at bt
  have bsum : 0 ≤ (bothL ns.length (srt ns)).sum ∧ (bothL ns.length (srt ns)).sum ≤ (bothL ns.length (srt ns)).length * 6 := sum_le fun x hx => by
    unfold bothL at hx
    obtain ⟨⟨u, v⟩, hp, rfl⟩ := List.mem_map.mp hx
    have := hm.le u (srt_mem.mp (List.fst_mem_of_mem_zipIdx (List.mem_filter.mp hp).1))
    omega
  refine seq_to (W b (.ow none .l (IL (srt ns))) t7 t8 (.ow none .l (IL (bothL ns.length (srt ns))))) (fun kk hkk => ?_) ?_
  · refine ⟨fun p hp => ?_, ?_⟩
    · rw [List.mem_singleton.mp hp]
      show (6 : Nat) ∉ [16, 17]
      decide
    · refine comp_fints (l := (srt ns).zipIdx 0) (enumD_map PyData.int (srt ns) 0) (fun p => decide (2 * (p.2 : Int) = ns.length - 1) || (decide (2 * (p.2 : Int) = ns.length) || decide (2 * (p.2 : Int) = ns.length - 2))) (fun p => p.1) (by rw [List.length_zipIdx, srt_len]; omega) ⟨rfl, trivial⟩ (fun p hp' kk kn hk hn => ?_) hkk
      refine ⟨rfl, mulSmall' (by decide), sh_int, sh_int, ifb (fun h1 => ?_) fun h1 => ⟨mulSmall' (by decide), sh_int, sh_int, ifb (fun h2 => ?_) fun h2 => ⟨mulSmall' (by decide), sh_int, sh_int, ifb (fun h3 => ?_) fun h3 => ?_⟩⟩⟩
      · rw [eqv_int] at h1
        exact hk (by simp only [h1, Bool.true_or])
      · rw [eqv_int] at h2
        exact hk (by simp only [h2, Bool.true_or, Bool.or_true])
      · rw [eqv_int] at h3
        exact hk (by simp only [h3, Bool.or_true])
      · rw [eqv_int] at h1 h2 h3
        exact hn (by simp only [h1, h2, h3, Bool.or_false])
  refine seq_to (W b (.ow none .l (IL (srt ns))) t7 t8 (.ow none .l (IL (bothL ns.length (srt ns))))) (fun kk hkk => ?_) ?_
  · refine ⟨okio0 rfl, ns, rfl, hs, _, intsOf_map _, okio0 rfl, _, _, rfl, by rw [le]; omega, by rw [le]; omega, okio0 rfl, fr (bothL ns.length (srt ns)).sum (bothL ns.length (srt ns)).length, ?_, sm_fr (by omega) (by omega), hkk⟩
    rw [le, bt.1]
  -- the table
  refine seq_to (W b (.ow none .l (IL (srt ns))) t7 t8 (.ow none .l (IL (bothL ns.length (srt ns))))) (fun kk hkk => ?_) ?_
  · refine ⟨okio0 rfl, ns, rfl, hs, (by show 6 ≤ sizeLine; decide), fun p hp => absurd hp List.not_mem_nil, ?_⟩
    refine comp_ints (l := [1, 2, 3, 4, 5, 6]) (c := .int) rfl (fun m => (ns.count m : Int)) (by decide) trivial (fun m hx kk hk => ?_) ?_
    · refine ⟨fun p hp => ?_, ?_⟩
      · rw [List.mem_singleton.mp hp]
        show (3 : Nat) ∉ [18]
        decide
      · refine comp_fints (l := ns) (c := .int) rfl (fun x => decide (x = m)) (fun _ => 1) (by omega) ⟨rfl, trivial⟩ (fun x hx kk kn hk hn => ?_) ?_
        · refine ⟨sh_int, sh_int, ifb (fun h => hk ?_) fun h => hn ?_⟩
          · rw [← eqv_int]; exact h
          · rw [← eqv_int]; exact h
        · have := hk
          rw [← count_len] at this
          exact this
    · refine ⟨okio0 rfl, IL ([1, 2, 3, 4, 5, 6].map fun m => (ns.count m : Int)), rfl, sm_ints (by show 6 ≤ 16777216; decide) fun x hx => ?_, hkk⟩
      obtain ⟨m, _, rfl⟩ := List.mem_map.mp hx
      have := List.count_le_length (a := m) (l := ns)
      omega
  -- goals
  have es : PyData.eqv (IL ns) (IL ns) = true := eqv_self nb_ints
  have hne : (!PyData.eqv (IL ns) (IL ns)) = false := by rw [es]; rfl
  refine seq_join (fun ρ => ∃ b, BoxD b ∧ ρ = W b (.ow none .l (IL (srt ns))) t7 t8 (.ow none .l (IL (bothL ns.length (srt ns))))) (fun kk hkk => ?_) ?_
  · refine ⟨sh_ints, sh_ints, ?_⟩
    show if (!PyData.eqv (IL ns) (IL ns)) = true then _ else _
    rw [hne]
    refine ⟨okio1 rfl (by show (1 : Nat) ∉ [3, 5]; decide) trivial, rfl, b, ns, rfl, hb, hm, fun b' hb' => ⟨rfl, hkk _ ⟨b', hb', rfl⟩⟩⟩
  rintro ρ ⟨b, hb, rfl⟩
  refine ⟨⟨by decide, by decide⟩, trivial, ?_⟩
  refine loop_ind (fun done rest ρ => ∃ b t10 t11 t12 t13 t14 t15, BoxD b ∧ ρ = F0 sc b s2 (.ow none .l (IL ns)) (.fz (.int ns.length)) (.ow none .l (IL ns)) (.ow none .l (IL (srt ns))) t7 t8 (.ow none .l (IL (bothL ns.length (srt ns)))) t10 t11 t12 t13 t14 t15) ⟨_, _, _, _, _, _, _, hb, rfl⟩ ?_ ?_
  · rintro ρ ⟨b, t10, t11, t12, t13, t14, t15, hb, rfl⟩
    exact hk _ _ _ _ _ _ _ _ _ _ _ _ _ _ hb
  · rintro done d rest ρ he ⟨b, t10, t11, t12, t13, t14, t15, hb, rfl⟩ next
    exact body3 (E := { nx := _, rt := _, bk := _, ct := _ }) hm hb fun b' t11 t12 t13 t14 t15 hb' => next _ ⟨_, _, _, _, _, _, _, hb', rfl⟩
theorem p_law : Ok_law := by
  rintro ds k as ⟨ns, rfl, hk⟩ - ha
  obtain rfl := as0 ha
  refine seq_join (fun ρ => ∃ b, BoxD b ∧ ρ = F0 (.fz (scrD ns)) b .un .un .un .un .un .un .un .un .un .un .un .un .un .un) (fun kk hkk => ?_) ?_
  · refine ⟨okio0 rfl, ns, 0, 20, rfl, by decide, by decide, by decide, fun r h1 h2 => ⟨(by show 2 ≤ sizeLine; decide), hkk _ ⟨_, ⟨r, 0, rfl, h2, by decide⟩, rfl⟩⟩⟩
  rintro ρ ⟨b, hb, rfl⟩
  refine seq_join (fun ρ => ∃ s1 s2 s3 s4 s5 s6 s7 s8 s9 s10 s11 s12 s13 s14 s15, ρ = [.fz (scrD ns), s1, s2, s3, s4, s5, s6, s7, s8, s9, s10, s11, s12, s13, s14, s15, .un, .un, .un]) (fun kk hkk => ?_) ?_
  · refine ⟨⟨by decide, by decide⟩, trivial, ?_⟩
    refine loop_ind (fun done rest ρ => ∃ b s2 s3 s4 s5 s6 s7 s8 s9 s10 s11 s12 s13 s14 s15, BoxD b ∧ ρ = F0 (.fz (scrD ns)) b s2 s3 s4 s5 s6 s7 s8 s9 s10 s11 s12 s13 s14 s15) ⟨_, _, _, _, _, _, _, _, _, _, _, _, _, _, _, hb, rfl⟩ ?_ ?_
    · rintro ρ ⟨b, s2, s3, s4, s5, s6, s7, s8, s9, s10, s11, s12, s13, s14, s15, hb, rfl⟩
      exact hkk _ ⟨_, _, _, _, _, _, _, _, _, _, _, _, _, _, _, rfl⟩
    · rintro done d rest ρ he ⟨b, s2, s3, s4, s5, s6, s7, s8, s9, s10, s11, s12, s13, s14, s15, hb, rfl⟩ next
      exact body4 (E := { nx := _, rt := _, bk := _, ct := _ }) hb fun b' t3 t4 t5 t6 t7 t8 t9 t10 t11 t12 t13 t14 t15 hb' => next _ ⟨_, _, _, _, _, _, _, _, _, _, _, _, _, _, _, hb', rfl⟩
  rintro ρ ⟨s1, s2, s3, s4, s5, s6, s7, s8, s9, s10, s11, s12, s13, s14, s15, rfl⟩
  let Z : List Slot := [.fz (scrD ns), s1, s2, s3, s4, s5, s6, s7, s8, s9, s10, s11, s12, s13, s14, s15, .un, .un, .un]
  have smk : ∀ l : List Int, l ≠ [] → l.length ≤ 1000 → (∀ x ∈ l, 0 ≤ x ∧ x ≤ 1000) → Sml l := fun l a b c => ⟨a, b, c⟩
  have s1' : srt [6, 1, 2, 3] = [1, 2, 3, 6] := (srt_eq (by decide) (by decide)).symm
  have s2' : srt [4, 6, 2, 6] = [2, 4, 6, 6] := (srt_eq (by decide) (by decide)).symm
  have s3' : srt [5, 1, 6] = [1, 5, 6] := (srt_eq (by decide) (by decide)).symm
  refine seq_to Z (fun kk hkk => ?_) ?_
  · refine ⟨(by show 2 ≤ sizeLine; decide), okio0 rfl, [2, 3], rfl, smk _ (by decide) (by decide) (by decide), okio0 rfl, .int 3, rfl, sm_int (by decide), (by show 3 ≤ sizeLine; decide), okio0 rfl, [2, 3, 2], rfl, smk _ (by decide) (by decide) (by decide), okio0 rfl, .int 2, rfl, sm_int (by decide),
      (by show 4 ≤ sizeLine; decide), okio0 rfl, [6, 1, 2, 3], rfl, smk _ (by decide) (by decide) (by decide), (by show 2 ≤ sizeLine; decide), okio0 rfl, .tuple [.int 5, .int 2], ?_, sm_tuple (by show 2 ≤ sizeLine; decide) (fun d hd => by
        simp only [List.mem_cons, List.not_mem_nil, or_false] at hd
        rcases hd with rfl | rfl <;> exact sm_int (by decide)), hkk⟩
    rw [s1']
    rfl
  refine seq_to Z (fun kk hkk => ?_) ?_
  · refine ⟨(by show 2 ≤ sizeLine; decide), okio0 rfl, [3, 3], 3, 2, rfl, smk _ (by decide) (by decide) (by decide), by decide, by decide, okio0 rfl, .int 3, ?_, sm_int (by decide), (by show 5 ≤ sizeLine; decide), okio0 rfl, [6, 6, 6, 6, 6], 1, 1, rfl, smk _ (by decide) (by decide) (by decide), by decide, by decide, ?_⟩
    · have e : (fits ([3, 3] : List Int).sum (([3, 3] : List Int).length) 3 ((2 : Nat) : Int)).getLast? = some 3 := by decide
      rw [e]
    · have e : (fits ([6, 6, 6, 6, 6] : List Int).sum (([6, 6, 6, 6, 6] : List Int).length) 1 ((1 : Nat) : Int)).getLast? = none := by decide
      rw [e]
      exact ⟨(by show 1 ≤ sizeLine; decide), okio0 rfl, [6], 1, 10, rfl, smk _ (by decide) (by decide) (by decide), by decide, by decide, by decide, by decide, okio0 rfl, .int 10, rfl, sm_int (by decide), hkk⟩
  have c1 : chg [4, 6, 2, 6] 1 = 13 := by unfold chg; rw [s2']; decide
  have c0 : chg [4, 6, 2, 6] 0 = 18 := by unfold chg; rw [s2']; decide
  refine ⟨(by show 4 ≤ sizeLine; decide), okio0 rfl, [4, 6, 2, 6], 3, 1, rfl, smk _ (by decide) (by decide) (by decide), by decide, by rw [c1]; decide, fun j hj => ?_, okio0 rfl, .int 1, rfl, sm_int (by decide), ?_⟩
  · have : j = 0 := by omega
    subst this
    rw [c0]
    decide
  · refine ⟨(by show 3 ≤ sizeLine; decide), okio0 rfl, [5, 1, 6], 1, rfl, smk _ (by decide) (by decide) (by decide), by decide, (by show 2 ≤ sizeLine; decide), okio0 rfl, .tuple [.int 3, .int 1], ?_, sm_tuple (by show 2 ≤ sizeLine; decide) (fun d hd => by
        simp only [List.mem_cons, List.not_mem_nil, or_false] at hd
        rcases hd with rfl | rfl <;> exact sm_int (by decide)), hk⟩
    rw [s3']
    rfl
end TL.k59

-- part Wk59
/-! Wk59: the walks. Printed by gen.py. -/
namespace TL.k59
open PySem PySem.Spec L2 TL.cm

def top (i : Nat) : Stmt := PySem.Challenge.pw_schoollands_k59_whole_means_and_reports.main.body.getD i (.Pass ⟨0, 0, 0, 0⟩)
abbrev s__law_cell : Stmt := top 17
abbrev s__law_digits : Stmt := top 18
abbrev s__law_draw : Stmt := top 19
abbrev s__law_marks : Stmt := top 24
abbrev s__law_same : Stmt := top 21
abbrev s__law_low : Stmt := top 22
abbrev s_rounded : Stmt := top 4
abbrev s_fraction : Stmt := top 2
abbrev s_mean : Stmt := top 6
abbrev s_report : Stmt := top 8
abbrev s_needed : Stmt := top 10
abbrev s_fewest_changes : Stmt := top 14
abbrev s_without_worst : Stmt := top 9
abbrev s_middle : Stmt := top 13
abbrev s_table_of : Stmt := top 12
abbrev s__law_at_most : Stmt := top 23
abbrev s_ones_needed : Stmt := top 11
abbrev s__law_goals : Stmt := top 26
abbrev s__law_pick : Stmt := top 20
abbrev s__law_report : Stmt := top 25
abbrev s_weighted : Stmt := top 7
abbrev s_is_less : Stmt := top 3
abbrev s_better_with : Stmt := top 15
abbrev s_law : Stmt := top 27
abbrev N__law_cell : List Str := ["script", "k"]
theorem sc__law_cell : FnScope N__law_cell ["script", "k"] (defScope s__law_cell) := ⟨rfl, rfl, rfl, by decide +kernel, rfl, by decide +kernel, by decide +kernel⟩
abbrev N__law_digits : List Str := ["script", "first", "last", "digits", "k", "cell", "lap", "seed"]
theorem sc__law_digits : FnScope N__law_digits ["script", "first", "last"] (defScope s__law_digits) := ⟨rfl, rfl, rfl, by decide +kernel, rfl, by decide +kernel, by decide +kernel⟩
abbrev N__law_draw : List Str := ["box", "many"]
theorem sc__law_draw : FnScope N__law_draw ["box", "many"] (defScope s__law_draw) := ⟨rfl, rfl, rfl, by decide +kernel, rfl, by decide +kernel, by decide +kernel⟩
abbrev N__law_marks : List Str := ["box", "kind", "many", "marks", "k"]
theorem sc__law_marks : FnScope N__law_marks ["box"] (defScope s__law_marks) := ⟨rfl, rfl, rfl, by decide +kernel, rfl, by decide +kernel, by decide +kernel⟩
abbrev N__law_same : List Str := ["told", "due", "k"]
theorem sc__law_same : FnScope N__law_same ["told", "due"] (defScope s__law_same) := ⟨rfl, rfl, rfl, by decide +kernel, rfl, by decide +kernel, by decide +kernel⟩
abbrev N__law_low : List Str := ["top", "bottom", "one", "other"]
theorem sc__law_low : FnScope N__law_low ["top", "bottom"] (defScope s__law_low) := ⟨rfl, rfl, rfl, by decide +kernel, rfl, by decide +kernel, by decide +kernel⟩
abbrev N_rounded : List Str := ["one"]
theorem sc_rounded : FnScope N_rounded ["one"] (defScope s_rounded) := ⟨rfl, rfl, rfl, by decide +kernel, rfl, by decide +kernel, by decide +kernel⟩
abbrev N_fraction : List Str := ["top", "bottom", "share"]
theorem sc_fraction : FnScope N_fraction ["top", "bottom"] (defScope s_fraction) := ⟨rfl, rfl, rfl, by decide +kernel, rfl, by decide +kernel, by decide +kernel⟩
abbrev N_mean : List Str := ["marks"]
theorem sc_mean : FnScope N_mean ["marks"] (defScope s_mean) := ⟨rfl, rfl, rfl, by decide +kernel, rfl, by decide +kernel, by decide +kernel⟩
abbrev N_report : List Str := ["marks"]
theorem sc_report : FnScope N_report ["marks"] (defScope s_report) := ⟨rfl, rfl, rfl, by decide +kernel, rfl, by decide +kernel, by decide +kernel⟩
abbrev N_needed : List Str := ["marks", "goal", "more", "fit", "mark", "turn"]
theorem sc_needed : FnScope N_needed ["marks", "goal", "more"] (defScope s_needed) := ⟨rfl, rfl, rfl, by decide +kernel, rfl, by decide +kernel, by decide +kernel⟩
abbrev N_fewest_changes : List Str := ["marks", "goal", "row", "many"]
theorem sc_fewest_changes : FnScope N_fewest_changes ["marks", "goal"] (defScope s_fewest_changes) := ⟨rfl, rfl, rfl, by decide +kernel, rfl, by decide +kernel, by decide +kernel⟩
abbrev N_without_worst : List Str := ["marks", "many", "row"]
theorem sc_without_worst : FnScope N_without_worst ["marks", "many"] (defScope s_without_worst) := ⟨rfl, rfl, rfl, by decide +kernel, rfl, by decide +kernel, by decide +kernel⟩
abbrev N_middle : List Str := ["marks", "row", "many"]
theorem sc_middle : FnScope N_middle ["marks"] (defScope s_middle) := ⟨rfl, rfl, rfl, by decide +kernel, rfl, by decide +kernel, by decide +kernel⟩
abbrev N_table_of : List Str := ["marks", "mark"]
theorem sc_table_of : FnScope N_table_of ["marks"] (defScope s_table_of) := ⟨rfl, rfl, rfl, by decide +kernel, rfl, by decide +kernel, by decide +kernel⟩
abbrev N__law_at_most : List Str := ["total", "many", "goal"]
theorem sc__law_at_most : FnScope N__law_at_most ["total", "many", "goal"] (defScope s__law_at_most) := ⟨rfl, rfl, rfl, by decide +kernel, rfl, by decide +kernel, by decide +kernel⟩
abbrev N_ones_needed : List Str := ["marks", "goal", "many", "turn"]
theorem sc_ones_needed : FnScope N_ones_needed ["marks", "goal"] (defScope s_ones_needed) := ⟨rfl, rfl, rfl, by decide +kernel, rfl, by decide +kernel, by decide +kernel⟩
abbrev N__law_goals : List Str := ["box", "marks", "handed", "many", "total", "worst", "more", "goal", "fit", "over", "mark", "k"]
theorem sc__law_goals : FnScope N__law_goals ["box", "marks", "handed"] (defScope s__law_goals) := ⟨rfl, rfl, rfl, by decide +kernel, rfl, by decide +kernel, by decide +kernel⟩
abbrev N__law_pick : List Str := ["box", "row"]
theorem sc__law_pick : FnScope N__law_pick ["box", "row"] (defScope s__law_pick) := ⟨rfl, rfl, rfl, by decide +kernel, rfl, by decide +kernel, by decide +kernel⟩
abbrev N__law_report : List Str := ["marks", "goal"]
theorem sc__law_report : FnScope N__law_report ["marks"] (defScope s__law_report) := ⟨rfl, rfl, rfl, by decide +kernel, rfl, by decide +kernel, by decide +kernel⟩
abbrev N_weighted : List Str := ["marks", "weights", "mark", "weight"]
theorem sc_weighted : FnScope N_weighted ["marks", "weights"] (defScope s_weighted) := ⟨rfl, rfl, rfl, by decide +kernel, rfl, by decide +kernel, by decide +kernel⟩
abbrev N_is_less : List Str := ["one", "other"]
theorem sc_is_less : FnScope N_is_less ["one", "other"] (defScope s_is_less) := ⟨rfl, rfl, rfl, by decide +kernel, rfl, by decide +kernel, by decide +kernel⟩
abbrev N_better_with : List Str := ["marks", "weights", "place", "more"]
theorem sc_better_with : FnScope N_better_with ["marks", "weights", "place"] (defScope s_better_with) := ⟨rfl, rfl, rfl, by decide +kernel, rfl, by decide +kernel, by decide +kernel⟩
abbrev N_law : List Str := ["script", "box", "lap", "marks", "many", "handed", "low", "left_out", "due", "both", "again", "weights", "told", "top", "place", "better", "k", "mark", "far"]
theorem sc_law : FnScope N_law ["script"] (defScope s_law) := ⟨rfl, rfl, rfl, by decide +kernel, rfl, by decide +kernel, by decide +kernel⟩
section
variable {P : Program} {w : World} {K : PySem.W.Frag} {mg : Str → Option Value} {base : Heap}
theorem w__law_cell {f : Addr} {fd : FuncData} (F : Fun K "_law_cell" "_law_cell" s__law_cell f fd) (hm : mg "_law_cell" = some (.ref f)) (hb : Binds K fd ["script", "k"] []) (z_len : mg "len" = none) : Cal P w K mg base 1 "_law_cell" m__law_cell t__law_cell :=
  cal_mk F hm hb sc__law_cell rfl d__law_cell (fun cdv A outer s H E hr =>
  (ds_cons (ds_if (dt_cmp op_gLt (de_name (pv 1)) (de_fnB cr_gLenS (by rfl) z_len PySem.boot_len (da_cons (de_name (pv 0)) da_nil)))
    (ds_one (ds_ret (de_ixS (de_name (pv 0)) (de_name (pv 1)))))
    ds_nil)
  (ds_one (ds_ret de_int)))) p__law_cell
theorem w__law_digits {f : Addr} {fd : FuncData} (F : Fun K "_law_digits" "_law_digits" s__law_digits f fd) (hm : mg "_law_digits" = some (.ref f)) (hb : Binds K fd ["script", "first", "last"] []) (z_range : mg "range" = none) (C__law_cell : Cal P w K mg base 1 "_law_cell" m__law_cell t__law_cell) (z_int : mg "int" = none) : Cal P w K mg base 2 "_law_digits" m__law_digits t__law_digits :=
  cal_mk F hm hb sc__law_digits rfl d__law_digits (fun cdv A outer s H E hr =>
  (ds_cons (ds_set (i := 3) sc__law_digits.nd rfl (by first | exact Or.inl rfl | exact Or.inr rfl) (de_lst da_nil))
  (ds_cons (ds_for PassesOwn.never rfl (di_range2 (by rfl) z_range (da_cons (de_name (pv 1)) (da_cons (de_name (pv 2)) da_nil))) (dg_name (i := 4) sc__law_digits.nd rfl (by first | exact Or.inl rfl | exact Or.inr rfl))
    (ds_cons (ds_set (i := 5) sc__law_digits.nd rfl (by first | exact Or.inl rfl | exact Or.inr rfl) (de_own C__law_cell (hr.mono (by decide)) (by rfl) (da_cons (de_name (pv 0)) (da_cons (de_name (pv 4)) da_nil))))
    (ds_cons (ds_if (dt_cmp op_gLt (de_name (pv 5)) de_int)
      (ds_one (ds_set (i := 5) sc__law_digits.nd rfl (by first | exact Or.inl rfl | exact Or.inr rfl) (de_op op_gSub de_int (de_op op_gMul de_int (de_name (pv 5))))))
      ds_nil)
    (ds_one (ds_if (dt_cmp op_gGe (de_name (pv 5)) (de_op op_gPow de_int de_int))
      (ds_one (ds_for PassesOwn.never rfl (di_range1 (by rfl) z_range (da_cons de_int da_nil)) (dg_name (i := 6) sc__law_digits.nd rfl (by first | exact Or.inl rfl | exact Or.inr rfl))
        (ds_one (ds_if (dt_cmp op_gGt (de_name (pv 5)) de_int)
          (ds_cons (ds_expr (de_mu PySem.F.slot_list_append PySem.F.type_list_append mt_gAppend (de_name (pv 3)) (da_cons (de_op op_gMod (de_fnT cr_gInt (by rfl) z_int rfl (da_cons (de_name (pv 5)) da_nil)) de_int) da_nil)))
          (ds_one (ds_set (i := 5) sc__law_digits.nd rfl (by first | exact Or.inl rfl | exact Or.inr rfl) (de_op op_gFdiv (de_name (pv 5)) de_int))))
          ds_nil))))
      (ds_cons (ds_set (i := 7) sc__law_digits.nd rfl (by first | exact Or.inl rfl | exact Or.inr rfl) (de_op op_gMod (de_fnT cr_gInt (by rfl) z_int rfl (da_cons (de_op op_gAdd (de_op op_gAdd (de_op op_gMul (de_name (pv 5)) de_int) (de_op op_gMul (de_name (pv 4)) de_int)) de_int) da_nil)) de_int))
      (ds_one (ds_for PassesOwn.never rfl (di_range1 (by rfl) z_range (da_cons de_int da_nil)) (dg_name (i := 6) sc__law_digits.nd rfl (by first | exact Or.inl rfl | exact Or.inr rfl))
        (ds_cons (ds_set (i := 7) sc__law_digits.nd rfl (by first | exact Or.inl rfl | exact Or.inr rfl) (de_op op_gMod (de_fnT cr_gInt (by rfl) z_int rfl (da_cons (de_op op_gAdd (de_op op_gAdd (de_op op_gMul (de_name (pv 7)) de_int) (de_op op_gMul de_int (de_name (pv 6)))) de_int) da_nil)) de_int))
        (ds_one (ds_expr (de_mu PySem.F.slot_list_append PySem.F.type_list_append mt_gAppend (de_name (pv 3)) (da_cons (de_op op_gMod (de_fnT cr_gInt (by rfl) z_int rfl (da_cons (de_op op_gFdiv (de_name (pv 7)) de_int) da_nil)) de_int) da_nil)))))))))))))
  (ds_one (ds_ret (de_name (pv 3))))))) p__law_digits
theorem w__law_draw {f : Addr} {fd : FuncData} (F : Fun K "_law_draw" "_law_draw" s__law_draw f fd) (hm : mg "_law_draw" = some (.ref f)) (hb : Binds K fd ["box", "many"] []) (z_len : mg "len" = none) (z_int : mg "int" = none) : Cal P w K mg base 1 "_law_draw" m__law_draw t__law_draw :=
  cal_mk F hm hb sc__law_draw rfl d__law_draw (fun cdv A outer s H E hr =>
  (ds_cons (ds_stI (de_op op_gAdd (de_ix (de_name (pv 0)) de_int) de_int) (de_name (pv 0)) de_int set_gSetL)
  (ds_cons (ds_if (dt_cmp op_gGt (de_ix (de_name (pv 0)) de_int) (de_fnB cr_gLen (by rfl) z_len PySem.boot_len (da_cons (de_ix (de_name (pv 0)) de_int) da_nil)))
    (ds_one (ds_ret (de_op op_gMod (de_fnT cr_gInt (by rfl) z_int rfl (da_cons (de_op op_gAdd (de_op op_gAdd (de_ix (de_ix (de_name (pv 0)) de_int) (de_op op_gMod (de_fnT cr_gInt (by rfl) z_int rfl (da_cons (de_op op_gMul (de_ix (de_name (pv 0)) de_int) de_int) da_nil)) (de_fnB cr_gLen (by rfl) z_len PySem.boot_len (da_cons (de_ix (de_name (pv 0)) de_int) da_nil)))) (de_op op_gMul (de_ix (de_name (pv 0)) de_int) de_int)) de_int) da_nil)) (de_name (pv 1)))))
    ds_nil)
  (ds_one (ds_ret (de_op op_gMod (de_fnT cr_gInt (by rfl) z_int rfl (da_cons (de_ix (de_ix (de_name (pv 0)) de_int) (de_op op_gSub (de_ix (de_name (pv 0)) de_int) de_int)) da_nil)) (de_name (pv 1)))))))) p__law_draw
theorem w__law_marks {f : Addr} {fd : FuncData} (F : Fun K "_law_marks" "_law_marks" s__law_marks f fd) (hm : mg "_law_marks" = some (.ref f)) (hb : Binds K fd ["box"] []) (C__law_draw : Cal P w K mg base 1 "_law_draw" m__law_draw t__law_draw) (z_range : mg "range" = none) (z_int : mg "int" = none) : Cal P w K mg base 2 "_law_marks" m__law_marks t__law_marks :=
  cal_mk F hm hb sc__law_marks rfl d__law_marks (fun cdv A outer s H E hr =>
  (ds_cons (ds_set (i := 1) sc__law_marks.nd rfl (by first | exact Or.inl rfl | exact Or.inr rfl) (de_own C__law_draw (hr.mono (by decide)) (by rfl) (da_cons (de_name (pv 0)) (da_cons de_int da_nil))))
  (ds_cons (ds_set (i := 2) sc__law_marks.nd rfl (by first | exact Or.inl rfl | exact Or.inr rfl) (de_op op_gAdd de_int (de_own C__law_draw (hr.mono (by decide)) (by rfl) (da_cons (de_name (pv 0)) (da_cons de_int da_nil)))))
  (ds_cons (ds_setLc (i := 3) (own := [("k", 4)]) rfl sc__law_marks.nd rfl rfl (sw_true rfl rfl rfl (by decide +kernel)) (di_range1 (by rfl) z_range (da_cons (de_name (pv 2)) da_nil)) (blkOk_by (N := N__law_marks) (sc := (defScope s__law_marks)) (by decide +kernel)) (fun _ _ _ _ _ => (dg_name (i := 4) sc__law_marks.nd rfl (by first | exact Or.inl rfl | exact Or.inr rfl))) (fun _ _ _ _ _ => dts_nil) (fun _ _ _ _ _ => (de_op op_gAdd de_int (de_own C__law_draw (hr.mono (by decide)) (by rfl) (da_cons (de_name (pv 0)) (da_cons de_int da_nil))))))
  (ds_cons (ds_if (dt_cmp (op_gEq hr.units) (de_name (pv 1)) de_int)
    (ds_one (ds_set (i := 3) sc__law_marks.nd rfl (by first | exact Or.inl rfl | exact Or.inr rfl) (de_op op_gMul (de_lst (da_cons (de_ix (de_name (pv 3)) de_int) da_nil)) (de_name (pv 2)))))
    ds_nil)
  (ds_cons (ds_if (dt_cmp (op_gEq hr.units) (de_name (pv 1)) de_int)
    (ds_one (ds_set (i := 3) sc__law_marks.nd rfl (by first | exact Or.inl rfl | exact Or.inr rfl) (de_op op_gMul (de_lst (da_cons (de_ix (de_name (pv 3)) de_int) (da_cons (de_op op_gAdd (de_op op_gMod (de_fnT cr_gInt (by rfl) z_int rfl (da_cons (de_ix (de_name (pv 3)) de_int) da_nil)) de_int) de_int) da_nil))) (de_op op_gAdd de_int (de_own C__law_draw (hr.mono (by decide)) (by rfl) (da_cons (de_name (pv 0)) (da_cons de_int da_nil)))))))
    ds_nil)
  (ds_cons (ds_if (dt_cmp (op_gEq hr.units) (de_name (pv 1)) de_int)
    (ds_one (ds_setLc (i := 3) (own := [("k", 4)]) rfl sc__law_marks.nd rfl rfl (sw_true rfl rfl rfl (by decide +kernel)) (di_range1 (by rfl) z_range (da_cons (de_name (pv 2)) da_nil)) (blkOk_by (N := N__law_marks) (sc := (defScope s__law_marks)) (by decide +kernel)) (fun _ _ _ _ _ => (dg_name (i := 4) sc__law_marks.nd rfl (by first | exact Or.inl rfl | exact Or.inr rfl))) (fun _ _ _ _ _ => dts_nil) (fun _ _ _ _ _ => (de_op op_gAdd de_int (de_own C__law_draw (hr.mono (by decide)) (by rfl) (da_cons (de_name (pv 0)) (da_cons de_int da_nil)))))))
    ds_nil)
  (ds_cons (ds_if (dt_cmp (op_gEq hr.units) (de_name (pv 1)) de_int)
    (ds_one (ds_setLc (i := 3) (own := [("k", 4)]) rfl sc__law_marks.nd rfl rfl (sw_true rfl rfl rfl (by decide +kernel)) (di_range1 (by rfl) z_range (da_cons (de_name (pv 2)) da_nil)) (blkOk_by (N := N__law_marks) (sc := (defScope s__law_marks)) (by decide +kernel)) (fun _ _ _ _ _ => (dg_name (i := 4) sc__law_marks.nd rfl (by first | exact Or.inl rfl | exact Or.inr rfl))) (fun _ _ _ _ _ => dts_nil) (fun _ _ _ _ _ => (de_op op_gAdd de_int (de_op op_gMul de_int (de_own C__law_draw (hr.mono (by decide)) (by rfl) (da_cons (de_name (pv 0)) (da_cons de_int da_nil))))))))
    ds_nil)
  (ds_one (ds_ret (de_name (pv 3)))))))))))) p__law_marks
theorem v__law_same {f : Addr} {fd : FuncData} (F : Fun K "_law_same" "_law_same" s__law_same f fd) (hm : mg "_law_same" = some (.ref f)) (hb : Binds K fd ["told", "due"] []) (z_isinstance : mg "isinstance" = none) (z_str : mg "str" = none) (z_repr : mg "repr" = none) (z_int : mg "int" = none) (z_bool : mg "bool" = none) (z_tuple : mg "tuple" = none) (z_list : mg "list" = none) (z_len : mg "len" = none) (z_range : mg "range" = none) {k : Nat} {tr t : TSp} (C__law_same : Cal P w K mg base k "_law_same" m__law_same tr) (p : ∀ ds k as, t ds k → ds.length = m__law_same.length → as.length = nio m__law_same → d__law_same tr { nx := finR m__law_same as k (.fz .none), rt := finR m__law_same as k } (entryR m__law_same ds as ++ List.replicate (3 - m__law_same.length) .un)) : Cal P w K mg base (k + 1) "_law_same" m__law_same t :=
  cal_mk F hm hb sc__law_same rfl (d__law_same tr) (fun cdv A outer s H E hr =>
  (ds_cons (ds_if (dt_isN (de_name (pv 1)))
    (ds_one (ds_ret (de_isN (de_name (pv 0)))))
    ds_nil)
  (ds_cons (ds_if (dt_cmp op_gIs (de_name (pv 1)) de_bl)
    (ds_one (ds_ret (de_cmp op_gIs (de_name (pv 0)) de_bl)))
    ds_nil)
  (ds_cons (ds_if (dt_cmp op_gIs (de_name (pv 1)) de_bl)
    (ds_one (ds_ret (de_cmp op_gIs (de_name (pv 0)) de_bl)))
    ds_nil)
  (ds_cons (ds_if (dt_val (de_isI (by rfl) z_isinstance rfl (by rfl) z_str rfl (de_name (pv 1))))
    (ds_one (ds_ret (de_and (de_isI (by rfl) z_isinstance rfl (by rfl) z_str rfl (de_name (pv 0))) (de_one (de_cmp op_gEqS (de_fnB cr_gRepr (by rfl) z_repr rfl (da_cons (de_name (pv 0)) da_nil)) (de_fnB cr_gRepr (by rfl) z_repr rfl (da_cons (de_name (pv 1)) da_nil)))))))
    ds_nil)
  (ds_cons (ds_if (dt_val (de_isI (by rfl) z_isinstance rfl (by rfl) z_int rfl (de_name (pv 1))))
    (ds_one (ds_ret (de_and (de_isI (by rfl) z_isinstance rfl (by rfl) z_int rfl (de_name (pv 0))) (de_and (de_not (de_isI (by rfl) z_isinstance rfl (by rfl) z_bool rfl (de_name (pv 0)))) (de_one (de_cmp op_gEqS (de_fnB cr_gRepr (by rfl) z_repr rfl (da_cons (de_name (pv 0)) da_nil)) (de_fnB cr_gRepr (by rfl) z_repr rfl (da_cons (de_name (pv 1)) da_nil))))))))
    ds_nil)
  (ds_cons (ds_if (dw_pt (dw_or (dw_pt (dw_and (dt_val (de_isI (by rfl) z_isinstance rfl (by rfl) z_tuple rfl (de_name (pv 1)))) (dw_and1 (dt_not (dt_val (de_isI (by rfl) z_isinstance rfl (by rfl) z_tuple rfl (de_name (pv 0)))))))) (dw_or1 (dw_pt (dw_and (dt_val (de_isI (by rfl) z_isinstance rfl (by rfl) z_list rfl (de_name (pv 1)))) (dw_and1 (dt_not (dt_val (de_isI (by rfl) z_isinstance rfl (by rfl) z_list rfl (de_name (pv 0)))))))))))
    (ds_one (ds_ret de_bl))
    ds_nil)
  (ds_cons (ds_if (dt_cmp (op_gNe hr.units) (de_fnB cr_gLen (by rfl) z_len PySem.boot_len (da_cons (de_name (pv 0)) da_nil)) (de_fnB cr_gLen (by rfl) z_len PySem.boot_len (da_cons (de_name (pv 1)) da_nil)))
    (ds_one (ds_ret de_bl))
    ds_nil)
  (ds_cons (ds_for PassesOwn.never rfl (di_range1 (by rfl) z_range (da_cons (de_fnB cr_gLen (by rfl) z_len PySem.boot_len (da_cons (de_name (pv 1)) da_nil)) da_nil)) (dg_name (i := 2) sc__law_same.nd rfl (by first | exact Or.inl rfl | exact Or.inr rfl))
    (ds_one (ds_if (dt_not (dt_val (de_own C__law_same hr (by rfl) (da_cons (de_ix (de_name (pv 0)) (de_name (pv 2))) (da_cons (de_ix (de_name (pv 1)) (de_name (pv 2))) da_nil)))))
      (ds_one (ds_ret de_bl))
      ds_nil)))
  (ds_one (ds_ret de_bl))))))))))) p
theorem w__law_same {f : Addr} {fd : FuncData} (F : Fun K "_law_same" "_law_same" s__law_same f fd) (hm : mg "_law_same" = some (.ref f)) (hb : Binds K fd ["told", "due"] []) (z_isinstance : mg "isinstance" = none) (z_str : mg "str" = none) (z_repr : mg "repr" = none) (z_int : mg "int" = none) (z_bool : mg "bool" = none) (z_tuple : mg "tuple" = none) (z_list : mg "list" = none) (z_len : mg "len" = none) (z_range : mg "range" = none) : Cal P w K mg base 12 "_law_same" m__law_same t__law_same := rec__law_same (cal_no F hm hb) (fun C p => v__law_same F hm hb z_isinstance z_str z_repr z_int z_bool z_tuple z_list z_len z_range C p)
theorem w__law_low {f : Addr} {fd : FuncData} (F : Fun K "_law_low" "_law_low" s__law_low f fd) (hm : mg "_law_low" = some (.ref f)) (hb : Binds K fd ["top", "bottom"] []) (z_abs : mg "abs" = none) (z_int : mg "int" = none) : Cal P w K mg base 1 "_law_low" m__law_low t__law_low :=
  cal_mk F hm hb sc__law_low rfl d__law_low (fun cdv A outer s H E hr =>
  (ds_cons (ds_par (i := 2) (j := 3) rfl sc__law_low.nd rfl rfl (by decide) rfl rfl (da_cons (de_fnB cr_gAbs (by rfl) z_abs rfl (da_cons (de_name (pv 0)) da_nil)) (da_cons (de_name (pv 1)) da_nil)) (by rfl))
  (ds_cons (ds_while PassesOwn.never (dt_cmp op_gGt (de_name (pv 3)) de_int)
    (ds_one (ds_par (i := 2) (j := 3) rfl sc__law_low.nd rfl rfl (by decide) rfl rfl (da_cons (de_name (pv 3)) (da_cons (de_op op_gMod (de_fnT cr_gInt (by rfl) z_int rfl (da_cons (de_name (pv 2)) da_nil)) (de_name (pv 3))) da_nil)) (by rfl))))
  (ds_one (ds_ret (de_tup (da_cons (de_op op_gFdiv (de_name (pv 0)) (de_name (pv 2))) (da_cons (de_op op_gFdiv (de_name (pv 1)) (de_name (pv 2))) da_nil)))))))) p__law_low
theorem w_rounded {f : Addr} {fd : FuncData} (F : Fun K "rounded" "rounded" s_rounded f fd) (hm : mg "rounded" = some (.ref f)) (hb : Binds K fd ["one"] [])  : Cal P w K mg base 1 "rounded" m_rounded t_rounded :=
  cal_mk F hm hb sc_rounded rfl d_rounded (fun cdv A outer s H E hr =>
  (ds_one (ds_ret (de_op op_gFdiv (de_op op_gAdd (de_op op_gMul de_int (de_ix (de_name (pv 0)) de_int)) (de_ix (de_name (pv 0)) de_int)) (de_op op_gMul de_int (de_ix (de_name (pv 0)) de_int)))))) p_rounded
theorem w_fraction {f : Addr} {fd : FuncData} (F : Fun K "fraction" "fraction" s_fraction f fd) (hm : mg "fraction" = some (.ref f)) (hb : Binds K fd ["top", "bottom"] []) (i_gcd : mg "gcd" = some (.builtin "math.gcd")) : Cal P w K mg base 1 "fraction" m_fraction t_fraction :=
  cal_mk F hm hb sc_fraction rfl d_fraction (fun cdv A outer s H E hr =>
  (ds_cons (ds_set (i := 2) sc_fraction.nd rfl (by first | exact Or.inl rfl | exact Or.inr rfl) (de_fnG cr_gGcd (by rfl) i_gcd (da_cons (de_name (pv 0)) (da_cons (de_name (pv 1)) da_nil))))
  (ds_cons (ds_if (dt_cmp op_gLt (de_name (pv 1)) de_int)
    (ds_one (ds_set (i := 2) sc_fraction.nd rfl (by first | exact Or.inl rfl | exact Or.inr rfl) (de_un un_gNeg (de_name (pv 2)))))
    ds_nil)
  (ds_one (ds_ret (de_tup (da_cons (de_op op_gFdiv (de_name (pv 0)) (de_name (pv 2))) (da_cons (de_op op_gFdiv (de_name (pv 1)) (de_name (pv 2))) da_nil)))))))) p_fraction
theorem w_mean {f : Addr} {fd : FuncData} (F : Fun K "mean" "mean" s_mean f fd) (hm : mg "mean" = some (.ref f)) (hb : Binds K fd ["marks"] []) (z_len : mg "len" = none) (z_sum : mg "sum" = none) (C_fraction : Cal P w K mg base 1 "fraction" m_fraction t_fraction) : Cal P w K mg base 2 "mean" m_mean t_mean :=
  cal_mk F hm hb sc_mean rfl d_mean (fun cdv A outer s H E hr =>
  (ds_one (ds_ret (de_own C_fraction (hr.mono (by decide)) (by rfl) (da_cons (de_fnB (cr_gSum rfl) (by rfl) z_sum rfl (da_cons (de_name (pv 0)) da_nil)) (da_cons (de_fnB cr_gLen (by rfl) z_len PySem.boot_len (da_cons (de_name (pv 0)) da_nil)) da_nil)))))) p_mean
theorem w_report {f : Addr} {fd : FuncData} (F : Fun K "report" "report" s_report f fd) (hm : mg "report" = some (.ref f)) (hb : Binds K fd ["marks"] []) (C_mean : Cal P w K mg base 2 "mean" m_mean t_mean) (C_rounded : Cal P w K mg base 1 "rounded" m_rounded t_rounded) : Cal P w K mg base 3 "report" m_report t_report :=
  cal_mk F hm hb sc_report rfl d_report (fun cdv A outer s H E hr =>
  (ds_one (ds_ret (de_own C_rounded (hr.mono (by decide)) (by rfl) (da_cons (de_own C_mean (hr.mono (by decide)) (by rfl) (da_cons (de_name (pv 0)) da_nil)) da_nil))))) p_report
theorem w_needed {f : Addr} {fd : FuncData} (F : Fun K "needed" "needed" s_needed f fd) (hm : mg "needed" = some (.ref f)) (hb : Binds K fd ["marks", "goal", "more"] []) (z_range : mg "range" = none) (C_report : Cal P w K mg base 3 "report" m_report t_report) (z_len : mg "len" = none) (z_max : mg "max" = none) : Cal P w K mg base 4 "needed" m_needed t_needed :=
  cal_mk F hm hb sc_needed rfl d_needed (fun cdv A outer s H E hr =>
  (ds_cons (ds_setLc (i := 3) (own := [("mark", 4)]) rfl sc_needed.nd rfl rfl (sw_true rfl rfl rfl (by decide +kernel)) (di_range2 (by rfl) z_range (da_cons de_int (da_cons de_int da_nil))) (blkOk_by (N := N_needed) (sc := (defScope s_needed)) (by decide +kernel)) (fun _ _ _ _ _ => (dg_name (i := 4) sc_needed.nd rfl (by first | exact Or.inl rfl | exact Or.inr rfl))) (fun _ _ _ _ _ => (dts_one (dt_cmp op_gLe (de_own C_report (hr.mono (by decide)) (by rfl) (da_cons (de_op op_gAdd (de_name (pv 0)) (de_comp (own := [("turn", 5)]) rfl sc_needed.nd (di_range1 (by rfl) z_range (da_cons (de_name (pv 2)) da_nil)) (blkOk_by (N := N_needed) (sc := (relS (scopeAt s_needed 0) (defScope s_needed))) (by decide +kernel)) (fun _ _ _ _ _ => (dg_name (i := 5) sc_needed.nd rfl (by first | exact Or.inl rfl | exact Or.inr rfl))) (fun _ _ _ _ _ => dts_nil) (fun _ _ _ _ _ => (de_name (pv 4))))) da_nil)) (de_name (pv 1))))) (fun _ _ _ _ _ => (de_name (pv 4))))
  (ds_one (ds_ret (de_ifExp (dt_cmp op_gGt (de_fnB cr_gLen (by rfl) z_len PySem.boot_len (da_cons (de_name (pv 3)) da_nil)) de_int) (de_fnB (cr_gMax rfl) (by rfl) z_max rfl (da_cons (de_name (pv 3)) da_nil)) de_non))))) p_needed
theorem w_fewest_changes {f : Addr} {fd : FuncData} (F : Fun K "fewest_changes" "fewest_changes" s_fewest_changes f fd) (hm : mg "fewest_changes" = some (.ref f)) (hb : Binds K fd ["marks", "goal"] []) (z_sorted : mg "sorted" = none) (C_report : Cal P w K mg base 3 "report" m_report t_report) (z_len : mg "len" = none) : Cal P w K mg base 4 "fewest_changes" m_fewest_changes t_fewest_changes :=
  cal_mk F hm hb sc_fewest_changes rfl d_fewest_changes (fun cdv A outer s H E hr =>
  (ds_cons (ds_set (i := 2) sc_fewest_changes.nd rfl (by first | exact Or.inl rfl | exact Or.inr rfl) (de_fnB cr_gSortI (by rfl) z_sorted rfl (da_cons (de_name (pv 0)) da_nil)))
  (ds_cons (ds_set (i := 3) sc_fewest_changes.nd rfl (by first | exact Or.inl rfl | exact Or.inr rfl) de_int)
  (ds_cons (ds_while PassesOwn.never (dt_cmp op_gGt (de_own C_report (hr.mono (by decide)) (by rfl) (da_cons (de_name (pv 2)) da_nil)) (de_name (pv 1)))
    (ds_cons (ds_stI de_int (de_name (pv 2)) (de_op op_gSub (de_op op_gSub (de_fnB cr_gLen (by rfl) z_len PySem.boot_len (da_cons (de_name (pv 2)) da_nil)) de_int) (de_name (pv 3))) set_gSetL)
    (ds_one (ds_aug (i := 3) sc_fewest_changes.nd rfl (by first | exact Or.inl rfl | exact Or.inr rfl) op_gAddI de_int))))
  (ds_one (ds_ret (de_name (pv 3)))))))) p_fewest_changes
theorem w_without_worst {f : Addr} {fd : FuncData} (F : Fun K "without_worst" "without_worst" s_without_worst f fd) (hm : mg "without_worst" = some (.ref f)) (hb : Binds K fd ["marks", "many"] []) (z_sorted : mg "sorted" = none) (z_len : mg "len" = none) (C_mean : Cal P w K mg base 2 "mean" m_mean t_mean) : Cal P w K mg base 3 "without_worst" m_without_worst t_without_worst :=
  cal_mk F hm hb sc_without_worst rfl d_without_worst (fun cdv A outer s H E hr =>
  (ds_cons (ds_set (i := 2) sc_without_worst.nd rfl (by first | exact Or.inl rfl | exact Or.inr rfl) (de_fnB cr_gSortI (by rfl) z_sorted rfl (da_cons (de_name (pv 0)) da_nil)))
  (ds_one (ds_ret (de_own C_mean (hr.mono (by decide)) (by rfl) (da_cons (de_slice (de_name (pv 2)) do_none (do_some (de_op op_gSub (de_fnB cr_gLen (by rfl) z_len PySem.boot_len (da_cons (de_name (pv 2)) da_nil)) (de_name (pv 1))))) da_nil)))))) p_without_worst
theorem w_middle {f : Addr} {fd : FuncData} (F : Fun K "middle" "middle" s_middle f fd) (hm : mg "middle" = some (.ref f)) (hb : Binds K fd ["marks"] []) (z_sorted : mg "sorted" = none) (z_len : mg "len" = none) (C_fraction : Cal P w K mg base 1 "fraction" m_fraction t_fraction) : Cal P w K mg base 2 "middle" m_middle t_middle :=
  cal_mk F hm hb sc_middle rfl d_middle (fun cdv A outer s H E hr =>
  (ds_cons (ds_set (i := 1) sc_middle.nd rfl (by first | exact Or.inl rfl | exact Or.inr rfl) (de_fnB cr_gSortI (by rfl) z_sorted rfl (da_cons (de_name (pv 0)) da_nil)))
  (ds_cons (ds_set (i := 2) sc_middle.nd rfl (by first | exact Or.inl rfl | exact Or.inr rfl) (de_fnB cr_gLen (by rfl) z_len PySem.boot_len (da_cons (de_name (pv 1)) da_nil)))
  (ds_one (ds_ret (de_own C_fraction (hr.mono (by decide)) (by rfl) (da_cons (de_op op_gAdd (de_ix (de_name (pv 1)) (de_op op_gFdiv (de_op op_gSub (de_name (pv 2)) de_int) de_int)) (de_ix (de_name (pv 1)) (de_op op_gFdiv (de_name (pv 2)) de_int))) (da_cons de_int da_nil)))))))) p_middle
theorem w_table_of {f : Addr} {fd : FuncData} (F : Fun K "table_of" "table_of" s_table_of f fd) (hm : mg "table_of" = some (.ref f)) (hb : Binds K fd ["marks"] []) (z_range : mg "range" = none) : Cal P w K mg base 1 "table_of" m_table_of t_table_of :=
  cal_mk F hm hb sc_table_of rfl d_table_of (fun cdv A outer s H E hr =>
  (ds_one (ds_ret (de_comp (own := [("mark", 1)]) rfl sc_table_of.nd (di_range2 (by rfl) z_range (da_cons de_int (da_cons de_int da_nil))) (blkOk_by (N := N_table_of) (sc := (defScope s_table_of)) (by decide +kernel)) (fun _ _ _ _ _ => (dg_name (i := 1) sc_table_of.nd rfl (by first | exact Or.inl rfl | exact Or.inr rfl))) (fun _ _ _ _ _ => dts_nil) (fun _ _ _ _ _ => (de_mt PySem.F.plainAttrs_list PySem.F.slot_list_count PySem.F.type_list_count mt_gCount (de_name (pv 0)) (da_cons (de_name (pv 1)) da_nil))))))) p_table_of
theorem w__law_at_most {f : Addr} {fd : FuncData} (F : Fun K "_law_at_most" "_law_at_most" s__law_at_most f fd) (hm : mg "_law_at_most" = some (.ref f)) (hb : Binds K fd ["total", "many", "goal"] [])  : Cal P w K mg base 1 "_law_at_most" m__law_at_most t__law_at_most :=
  cal_mk F hm hb sc__law_at_most rfl d__law_at_most (fun cdv A outer s H E hr =>
  (ds_one (ds_ret (de_cmp op_gLt (de_op op_gMul de_int (de_name (pv 0))) (de_op op_gMul (de_op op_gAdd (de_op op_gMul de_int (de_name (pv 2))) de_int) (de_name (pv 1))))))) p__law_at_most
theorem w_ones_needed {f : Addr} {fd : FuncData} (F : Fun K "ones_needed" "ones_needed" s_ones_needed f fd) (hm : mg "ones_needed" = some (.ref f)) (hb : Binds K fd ["marks", "goal"] []) (z_range : mg "range" = none) (C_report : Cal P w K mg base 3 "report" m_report t_report) : Cal P w K mg base 4 "ones_needed" m_ones_needed t_ones_needed :=
  cal_mk F hm hb sc_ones_needed rfl d_ones_needed (fun cdv A outer s H E hr =>
  (ds_cons (ds_set (i := 2) sc_ones_needed.nd rfl (by first | exact Or.inl rfl | exact Or.inr rfl) de_int)
  (ds_cons (ds_while PassesOwn.never (dt_cmp op_gGt (de_own C_report (hr.mono (by decide)) (by rfl) (da_cons (de_op op_gAdd (de_name (pv 0)) (de_comp (own := [("turn", 3)]) rfl sc_ones_needed.nd (di_range1 (by rfl) z_range (da_cons (de_name (pv 2)) da_nil)) (blkOk_by (N := N_ones_needed) (sc := (defScope s_ones_needed)) (by decide +kernel)) (fun _ _ _ _ _ => (dg_name (i := 3) sc_ones_needed.nd rfl (by first | exact Or.inl rfl | exact Or.inr rfl))) (fun _ _ _ _ _ => dts_nil) (fun _ _ _ _ _ => de_int))) da_nil)) (de_name (pv 1)))
    (ds_one (ds_aug (i := 2) sc_ones_needed.nd rfl (by first | exact Or.inl rfl | exact Or.inr rfl) op_gAddI de_int)))
  (ds_one (ds_ret (de_name (pv 2))))))) p_ones_needed
theorem w__law_goals {f : Addr} {fd : FuncData} (F : Fun K "_law_goals" "_law_goals" s__law_goals f fd) (hm : mg "_law_goals" = some (.ref f)) (hb : Binds K fd ["box", "marks", "handed"] []) (z_sum : mg "sum" = none) (z_len : mg "len" = none) (z_sorted : mg "sorted" = none) (z_list : mg "list" = none) (z_reversed : mg "reversed" = none) (C__law_draw : Cal P w K mg base 1 "_law_draw" m__law_draw t__law_draw) (z_range : mg "range" = none) (C__law_at_most : Cal P w K mg base 1 "_law_at_most" m__law_at_most t__law_at_most) (C_needed : Cal P w K mg base 4 "needed" m_needed t_needed) (C__law_same : Cal P w K mg base 12 "_law_same" m__law_same t__law_same) (C_ones_needed : Cal P w K mg base 4 "ones_needed" m_ones_needed t_ones_needed) (C_fewest_changes : Cal P w K mg base 4 "fewest_changes" m_fewest_changes t_fewest_changes) : Cal P w K mg base 13 "_law_goals" m__law_goals t__law_goals :=
  cal_mk F hm hb sc__law_goals rfl d__law_goals (fun cdv A outer s H E hr =>
  (ds_cons (ds_asg (de_tup (da_cons (de_fnB cr_gLen (by rfl) z_len PySem.boot_len (da_cons (de_name (pv 1)) da_nil)) (da_cons (de_fnB (cr_gSum rfl) (by rfl) z_sum rfl (da_cons (de_name (pv 1)) da_nil)) da_nil))) (dg_tup rfl (dgs_cons (dg_name (i := 3) sc__law_goals.nd rfl (by first | exact Or.inl rfl | exact Or.inr rfl)) (dgs_cons (dg_name (i := 4) sc__law_goals.nd rfl (by first | exact Or.inl rfl | exact Or.inr rfl)) dgs_nil))))
  (ds_cons (ds_set (i := 5) sc__law_goals.nd rfl (by first | exact Or.inl rfl | exact Or.inr rfl) (de_listRev rfl (by rfl) z_list (by rfl) z_reversed (de_fnB cr_gSortI (by rfl) z_sorted rfl (da_cons (de_name (pv 1)) da_nil))))
  (ds_cons (ds_set (i := 6) sc__law_goals.nd rfl (by first | exact Or.inl rfl | exact Or.inr rfl) (de_op op_gAdd de_int (de_own C__law_draw (hr.mono (by decide)) (by rfl) (da_cons (de_name (pv 0)) (da_cons de_int da_nil)))))
  (ds_cons (ds_for PassesOwn.never rfl (di_range2 (by rfl) z_range (da_cons de_int (da_cons de_int da_nil))) (dg_name (i := 7) sc__law_goals.nd rfl (by first | exact Or.inl rfl | exact Or.inr rfl))
    (ds_cons (ds_setLc (i := 8) (own := [("mark", 10)]) rfl sc__law_goals.nd rfl rfl (sw_true rfl rfl rfl (by decide +kernel)) (di_range2 (by rfl) z_range (da_cons de_int (da_cons de_int da_nil))) (blkOk_by (N := N__law_goals) (sc := (defScope s__law_goals)) (by decide +kernel)) (fun _ _ _ _ _ => (dg_name (i := 10) sc__law_goals.nd rfl (by first | exact Or.inl rfl | exact Or.inr rfl))) (fun _ _ _ _ _ => (dts_one (dt_val (de_own C__law_at_most (hr.mono (by decide)) (by rfl) (da_cons (de_op op_gAdd (de_name (pv 4)) (de_op op_gMul (de_name (pv 10)) (de_name (pv 6)))) (da_cons (de_op op_gAdd (de_name (pv 3)) (de_name (pv 6))) (da_cons (de_name (pv 7)) da_nil))))))) (fun _ _ _ _ _ => (de_name (pv 10))))
    (ds_cons (ds_if (dt_not (dt_val (de_own C__law_same (hr.mono (by decide)) (by rfl) (da_cons (de_own C_needed (hr.mono (by decide)) (by rfl) (da_cons (de_name (pv 2)) (da_cons (de_name (pv 7)) (da_cons (de_name (pv 6)) da_nil)))) (da_cons (de_ifExp (dt_cmp (op_gEq hr.units) (de_name (pv 8)) (de_lst da_nil)) de_non (de_ix (de_name (pv 8)) (de_op op_gSub (de_fnB cr_gLen (by rfl) z_len PySem.boot_len (da_cons (de_name (pv 8)) da_nil)) de_int))) da_nil)))))
      (ds_one (ds_ret de_bl))
      ds_nil)
    (ds_cons (ds_set (i := 9) sc__law_goals.nd rfl (by first | exact Or.inl rfl | exact Or.inr rfl) (de_op op_gSub (de_op op_gMul de_int (de_name (pv 4))) (de_op op_gMul (de_op op_gAdd (de_op op_gMul de_int (de_name (pv 7))) de_int) (de_name (pv 3)))))
    (ds_cons (ds_if (dt_not (dt_val (de_own C__law_same (hr.mono (by decide)) (by rfl) (da_cons (de_own C_ones_needed (hr.mono (by decide)) (by rfl) (da_cons (de_name (pv 2)) (da_cons (de_name (pv 7)) da_nil))) (da_cons (de_ifExp (dt_cmp op_gLt (de_name (pv 9)) de_int) de_int (de_op op_gAdd (de_op op_gFdiv (de_name (pv 9)) (de_op op_gSub (de_op op_gMul de_int (de_name (pv 7))) de_int)) de_int)) da_nil)))))
      (ds_one (ds_ret de_bl))
      ds_nil)
    (ds_cons (ds_setLc (i := 8) (own := [("k", 11)]) rfl sc__law_goals.nd rfl rfl (sw_true rfl rfl rfl (by decide +kernel)) (di_range1 (by rfl) z_range (da_cons (de_op op_gAdd (de_name (pv 3)) de_int) da_nil)) (blkOk_by (N := N__law_goals) (sc := (defScope s__law_goals)) (by decide +kernel)) (fun _ _ _ _ _ => (dg_name (i := 11) sc__law_goals.nd rfl (by first | exact Or.inl rfl | exact Or.inr rfl))) (fun _ _ _ _ _ => (dts_one (dt_val (de_own C__law_at_most (hr.mono (by decide)) (by rfl) (da_cons (de_op op_gAdd (de_op op_gSub (de_name (pv 4)) (de_fnB (cr_gSum rfl) (by rfl) z_sum rfl (da_cons (de_slice (de_name (pv 5)) do_none (do_some (de_name (pv 11)))) da_nil))) (de_name (pv 11))) (da_cons (de_name (pv 3)) (da_cons (de_name (pv 7)) da_nil))))))) (fun _ _ _ _ _ => (de_name (pv 11))))
    (ds_one (ds_if (dt_not (dt_val (de_own C__law_same (hr.mono (by decide)) (by rfl) (da_cons (de_own C_fewest_changes (hr.mono (by decide)) (by rfl) (da_cons (de_name (pv 2)) (da_cons (de_name (pv 7)) da_nil))) (da_cons (de_ix (de_name (pv 8)) de_int) da_nil)))))
      (ds_one (ds_ret de_bl))
      ds_nil))))))))
  (ds_one (ds_ret (de_cmp (op_gEq hr.units) (de_name (pv 2)) (de_name (pv 1)))))))))) p__law_goals
theorem w__law_pick {f : Addr} {fd : FuncData} (F : Fun K "_law_pick" "_law_pick" s__law_pick f fd) (hm : mg "_law_pick" = some (.ref f)) (hb : Binds K fd ["box", "row"] []) (C__law_draw : Cal P w K mg base 1 "_law_draw" m__law_draw t__law_draw) (z_int : mg "int" = none) (z_len : mg "len" = none) : Cal P w K mg base 2 "_law_pick" m__law_pick t__law_pick :=
  cal_mk F hm hb sc__law_pick rfl d__law_pick (fun cdv A outer s H E hr =>
  (ds_one (ds_ret (de_ix (de_name (pv 1)) (de_op op_gMod (de_fnT cr_gInt (by rfl) z_int rfl (da_cons (de_own C__law_draw (hr.mono (by decide)) (by rfl) (da_cons (de_name (pv 0)) (da_cons de_int da_nil))) da_nil)) (de_fnB cr_gLen (by rfl) z_len PySem.boot_len (da_cons (de_name (pv 1)) da_nil))))))) p__law_pick
theorem w__law_report {f : Addr} {fd : FuncData} (F : Fun K "_law_report" "_law_report" s__law_report f fd) (hm : mg "_law_report" = some (.ref f)) (hb : Binds K fd ["marks"] []) (z_range : mg "range" = none) (z_len : mg "len" = none) (z_sum : mg "sum" = none) (C__law_at_most : Cal P w K mg base 1 "_law_at_most" m__law_at_most t__law_at_most) : Cal P w K mg base 2 "_law_report" m__law_report t__law_report :=
  cal_mk F hm hb sc__law_report rfl d__law_report (fun cdv A outer s H E hr =>
  (ds_one (ds_ret (de_ix (de_comp (own := [("goal", 1)]) rfl sc__law_report.nd (di_range2 (by rfl) z_range (da_cons de_int (da_cons de_int da_nil))) (blkOk_by (N := N__law_report) (sc := (defScope s__law_report)) (by decide +kernel)) (fun _ _ _ _ _ => (dg_name (i := 1) sc__law_report.nd rfl (by first | exact Or.inl rfl | exact Or.inr rfl))) (fun _ _ _ _ _ => (dts_one (dt_val (de_own C__law_at_most (hr.mono (by decide)) (by rfl) (da_cons (de_fnB (cr_gSum rfl) (by rfl) z_sum rfl (da_cons (de_name (pv 0)) da_nil)) (da_cons (de_fnB cr_gLen (by rfl) z_len PySem.boot_len (da_cons (de_name (pv 0)) da_nil)) (da_cons (de_name (pv 1)) da_nil))))))) (fun _ _ _ _ _ => (de_name (pv 1)))) de_int)))) p__law_report
theorem w_weighted {f : Addr} {fd : FuncData} (F : Fun K "weighted" "weighted" s_weighted f fd) (hm : mg "weighted" = some (.ref f)) (hb : Binds K fd ["marks", "weights"] []) (z_sum : mg "sum" = none) (z_zip : mg "zip" = none) (C_fraction : Cal P w K mg base 1 "fraction" m_fraction t_fraction) : Cal P w K mg base 2 "weighted" m_weighted t_weighted :=
  cal_mk F hm hb sc_weighted rfl d_weighted (fun cdv A outer s H E hr =>
  (ds_one (ds_ret (de_own C_fraction (hr.mono (by decide)) (by rfl) (da_cons (de_fnB (cr_gSum rfl) (by rfl) z_sum rfl (da_cons (de_comp (own := [("mark", 2), ("weight", 3)]) rfl sc_weighted.nd (di_zip (by rfl) z_zip (da_cons (de_name (pv 0)) (da_cons (de_name (pv 1)) da_nil))) (blkOk_by (N := N_weighted) (sc := (defScope s_weighted)) (by decide +kernel)) (fun _ _ _ _ _ => (dg_tup rfl (dgs_cons (dg_name (i := 2) sc_weighted.nd rfl (by first | exact Or.inl rfl | exact Or.inr rfl)) (dgs_cons (dg_name (i := 3) sc_weighted.nd rfl (by first | exact Or.inl rfl | exact Or.inr rfl)) dgs_nil)))) (fun _ _ _ _ _ => dts_nil) (fun _ _ _ _ _ => (de_op op_gMul (de_name (pv 2)) (de_name (pv 3))))) da_nil)) (da_cons (de_fnB (cr_gSum rfl) (by rfl) z_sum rfl (da_cons (de_name (pv 1)) da_nil)) da_nil)))))) p_weighted
theorem w_is_less {f : Addr} {fd : FuncData} (F : Fun K "is_less" "is_less" s_is_less f fd) (hm : mg "is_less" = some (.ref f)) (hb : Binds K fd ["one", "other"] [])  : Cal P w K mg base 1 "is_less" m_is_less t_is_less :=
  cal_mk F hm hb sc_is_less rfl d_is_less (fun cdv A outer s H E hr =>
  (ds_one (ds_ret (de_cmp op_gLt (de_op op_gMul (de_ix (de_name (pv 0)) de_int) (de_ix (de_name (pv 1)) de_int)) (de_op op_gMul (de_ix (de_name (pv 1)) de_int) (de_ix (de_name (pv 0)) de_int)))))) p_is_less
theorem w_better_with {f : Addr} {fd : FuncData} (F : Fun K "better_with" "better_with" s_better_with f fd) (hm : mg "better_with" = some (.ref f)) (hb : Binds K fd ["marks", "weights", "place"] []) (z_list : mg "list" = none) (C_weighted : Cal P w K mg base 2 "weighted" m_weighted t_weighted) (C_is_less : Cal P w K mg base 1 "is_less" m_is_less t_is_less) : Cal P w K mg base 3 "better_with" m_better_with t_better_with :=
  cal_mk F hm hb sc_better_with rfl d_better_with (fun cdv A outer s H E hr =>
  (ds_cons (ds_set (i := 3) sc_better_with.nd rfl (by first | exact Or.inl rfl | exact Or.inr rfl) (de_fnT cr_gListOf (by rfl) z_list rfl (da_cons (de_name (pv 1)) da_nil)))
  (ds_cons (ds_augI (de_name (pv 3)) (de_name (pv 2)) de_int ip_add)
  (ds_one (ds_ret (de_own C_is_less (hr.mono (by decide)) (by rfl) (da_cons (de_own C_weighted (hr.mono (by decide)) (by rfl) (da_cons (de_name (pv 0)) (da_cons (de_name (pv 3)) da_nil))) (da_cons (de_own C_weighted (hr.mono (by decide)) (by rfl) (da_cons (de_name (pv 0)) (da_cons (de_name (pv 1)) da_nil))) da_nil)))))))) p_better_with
theorem w_law {f : Addr} {fd : FuncData} (F : Fun K "law" "law" s_law f fd) (C__law_digits : Cal P w K mg base 2 "_law_digits" m__law_digits t__law_digits) (z_range : mg "range" = none) (C__law_marks : Cal P w K mg base 2 "_law_marks" m__law_marks t__law_marks) (z_len : mg "len" = none) (z_list : mg "list" = none) (z_sum : mg "sum" = none) (C__law_low : Cal P w K mg base 1 "_law_low" m__law_low t__law_low) (C_mean : Cal P w K mg base 2 "mean" m_mean t_mean) (C__law_same : Cal P w K mg base 12 "_law_same" m__law_same t__law_same) (C__law_report : Cal P w K mg base 2 "_law_report" m__law_report t__law_report) (C_report : Cal P w K mg base 3 "report" m_report t_report) (z_sorted : mg "sorted" = none) (C__law_draw : Cal P w K mg base 1 "_law_draw" m__law_draw t__law_draw) (C_without_worst : Cal P w K mg base 3 "without_worst" m_without_worst t_without_worst) (z_enumerate : mg "enumerate" = none) (C_middle : Cal P w K mg base 2 "middle" m_middle t_middle) (C_table_of : Cal P w K mg base 1 "table_of" m_table_of t_table_of) (C__law_goals : Cal P w K mg base 13 "_law_goals" m__law_goals t__law_goals) (C__law_pick : Cal P w K mg base 2 "_law_pick" m__law_pick t__law_pick) (C_weighted : Cal P w K mg base 2 "weighted" m_weighted t_weighted) (C_better_with : Cal P w K mg base 3 "better_with" m_better_with t_better_with) (C_needed : Cal P w K mg base 4 "needed" m_needed t_needed) (C_ones_needed : Cal P w K mg base 4 "ones_needed" m_ones_needed t_ones_needed) (C_fewest_changes : Cal P w K mg base 4 "fewest_changes" m_fewest_changes t_fewest_changes) : FnOk P w K mg base CX0 14 f fd ["script"] (spT K m_law t_law) :=
  fn_ok F sc_law rfl d_law (fun cdv A outer s H E hr =>
  (ds_cons (ds_set (i := 1) sc_law.nd rfl (by first | exact Or.inl rfl | exact Or.inr rfl) (de_lst (da_cons (de_own C__law_digits (hr.mono (by decide)) (by rfl) (da_cons (de_name (pv 0)) (da_cons de_int (da_cons de_int da_nil)))) (da_cons de_int da_nil))))
  (ds_cons (ds_for PassesOwn.never rfl (di_range1 (by rfl) z_range (da_cons de_int da_nil)) (dg_name (i := 2) sc_law.nd rfl (by first | exact Or.inl rfl | exact Or.inr rfl))
    (ds_cons (ds_set (i := 3) sc_law.nd rfl (by first | exact Or.inl rfl | exact Or.inr rfl) (de_own C__law_marks (hr.mono (by decide)) (by rfl) (da_cons (de_name (pv 1)) da_nil)))
    (ds_cons (ds_set (i := 4) sc_law.nd rfl (by first | exact Or.inl rfl | exact Or.inr rfl) (de_fnB cr_gLen (by rfl) z_len PySem.boot_len (da_cons (de_name (pv 3)) da_nil)))
    (ds_cons (ds_set (i := 5) sc_law.nd rfl (by first | exact Or.inl rfl | exact Or.inr rfl) (de_fnT cr_gListOf (by rfl) z_list rfl (da_cons (de_name (pv 3)) da_nil)))
    (ds_cons (ds_if (dw_pt (dw_or (dt_not (dt_val (de_own C__law_same (hr.mono (by decide)) (by rfl) (da_cons (de_own C_mean (hr.mono (by decide)) (by rfl) (da_cons (de_name (pv 5)) da_nil)) (da_cons (de_own C__law_low (hr.mono (by decide)) (by rfl) (da_cons (de_fnB (cr_gSum rfl) (by rfl) z_sum rfl (da_cons (de_name (pv 3)) da_nil)) (da_cons (de_name (pv 4)) da_nil))) da_nil))))) (dw_or1 (dt_not (dt_val (de_own C__law_same (hr.mono (by decide)) (by rfl) (da_cons (de_own C_report (hr.mono (by decide)) (by rfl) (da_cons (de_name (pv 5)) da_nil)) (da_cons (de_own C__law_report (hr.mono (by decide)) (by rfl) (da_cons (de_name (pv 3)) da_nil)) da_nil))))))))
      (ds_one (ds_ret de_bl))
      ds_nil)
    (ds_cons (ds_set (i := 6) sc_law.nd rfl (by first | exact Or.inl rfl | exact Or.inr rfl) (de_fnB cr_gSortI (by rfl) z_sorted rfl (da_cons (de_name (pv 3)) da_nil)))
    (ds_cons (ds_for PassesOwn.never rfl (di_list (de_lst (da_cons de_int (da_cons (de_op op_gSub (de_name (pv 4)) de_int) (da_cons (de_own C__law_draw (hr.mono (by decide)) (by rfl) (da_cons (de_name (pv 1)) (da_cons (de_name (pv 4)) da_nil))) da_nil))))) (dg_name (i := 7) sc_law.nd rfl (by first | exact Or.inl rfl | exact Or.inr rfl))
      (ds_cons (ds_set (i := 8) sc_law.nd rfl (by first | exact Or.inl rfl | exact Or.inr rfl) (de_own C__law_low (hr.mono (by decide)) (by rfl) (da_cons (de_fnB (cr_gSum rfl) (by rfl) z_sum rfl (da_cons (de_slice (de_name (pv 6)) do_none (do_some (de_op op_gSub (de_name (pv 4)) (de_name (pv 7))))) da_nil)) (da_cons (de_op op_gSub (de_name (pv 4)) (de_name (pv 7))) da_nil))))
      (ds_one (ds_if (dt_not (dt_val (de_own C__law_same (hr.mono (by decide)) (by rfl) (da_cons (de_own C_without_worst (hr.mono (by decide)) (by rfl) (da_cons (de_name (pv 5)) (da_cons (de_name (pv 7)) da_nil))) (da_cons (de_name (pv 8)) da_nil)))))
        (ds_one (ds_ret de_bl))
        ds_nil))))
    (ds_cons (ds_setLc (i := 9) (own := [("k", 16), ("mark", 17)]) rfl sc_law.nd rfl rfl (sw_true rfl rfl rfl (by decide +kernel)) (di_enum (by rfl) z_enumerate (da_cons (de_name (pv 6)) da_nil)) (blkOk_by (N := N_law) (sc := (defScope s_law)) (by decide +kernel)) (fun _ _ _ _ _ => (dg_tup rfl (dgs_cons (dg_name (i := 16) sc_law.nd rfl (by first | exact Or.inl rfl | exact Or.inr rfl)) (dgs_cons (dg_name (i := 17) sc_law.nd rfl (by first | exact Or.inl rfl | exact Or.inr rfl)) dgs_nil)))) (fun _ _ _ _ _ => (dts_one (dw_pt (dw_or (dt_cmp (op_gEq hr.units) (de_op op_gMul de_int (de_name (pv 16))) (de_op op_gSub (de_name (pv 4)) de_int)) (dw_or (dt_cmp (op_gEq hr.units) (de_op op_gMul de_int (de_name (pv 16))) (de_name (pv 4))) (dw_or1 (dt_cmp (op_gEq hr.units) (de_op op_gMul de_int (de_name (pv 16))) (de_op op_gSub (de_name (pv 4)) de_int)))))))) (fun _ _ _ _ _ => (de_name (pv 17))))
    (ds_cons (ds_if (dt_not (dt_val (de_own C__law_same (hr.mono (by decide)) (by rfl) (da_cons (de_own C_middle (hr.mono (by decide)) (by rfl) (da_cons (de_name (pv 5)) da_nil)) (da_cons (de_own C__law_low (hr.mono (by decide)) (by rfl) (da_cons (de_fnB (cr_gSum rfl) (by rfl) z_sum rfl (da_cons (de_name (pv 9)) da_nil)) (da_cons (de_fnB cr_gLen (by rfl) z_len PySem.boot_len (da_cons (de_name (pv 9)) da_nil)) da_nil))) da_nil)))))
      (ds_one (ds_ret de_bl))
      ds_nil)
    (ds_cons (ds_if (dt_not (dt_val (de_own C__law_same (hr.mono (by decide)) (by rfl) (da_cons (de_own C_table_of (hr.mono (by decide)) (by rfl) (da_cons (de_name (pv 5)) da_nil)) (da_cons (de_comp (own := [("mark", 17)]) rfl sc_law.nd (di_list (de_lst (da_cons de_int (da_cons de_int (da_cons de_int (da_cons de_int (da_cons de_int (da_cons de_int da_nil)))))))) (blkOk_by (N := N_law) (sc := (defScope s_law)) (by decide +kernel)) (fun _ _ _ _ _ => (dg_name (i := 17) sc_law.nd rfl (by first | exact Or.inl rfl | exact Or.inr rfl))) (fun _ _ _ _ _ => dts_nil) (fun _ _ _ _ _ => (de_fnB cr_gLen (by rfl) z_len PySem.boot_len (da_cons (de_comp (own := [("far", 18)]) rfl sc_law.nd (di_list (de_name (pv 3))) (blkOk_by (N := N_law) (sc := (relS (scopeAt s_law 1) (defScope s_law))) (by decide +kernel)) (fun _ _ _ _ _ => (dg_name (i := 18) sc_law.nd rfl (by first | exact Or.inl rfl | exact Or.inr rfl))) (fun _ _ _ _ _ => (dts_one (dt_cmp (op_gEq hr.units) (de_name (pv 18)) (de_name (pv 17))))) (fun _ _ _ _ _ => de_int)) da_nil)))) da_nil)))))
      (ds_one (ds_ret de_bl))
      ds_nil)
    (ds_cons (ds_if (dw_pt (dw_or (dt_cmp (op_gNe hr.units) (de_name (pv 5)) (de_name (pv 3))) (dw_or1 (dt_not (dt_val (de_own C__law_goals (hr.mono (by decide)) (by rfl) (da_cons (de_name (pv 1)) (da_cons (de_name (pv 3)) (da_cons (de_name (pv 5)) da_nil)))))))))
      (ds_one (ds_ret de_bl))
      ds_nil)
    (ds_one (ds_for PassesOwn.never rfl (di_range1 (by rfl) z_range (da_cons de_int da_nil)) (dg_name (i := 10) sc_law.nd rfl (by first | exact Or.inl rfl | exact Or.inr rfl))
      (ds_cons (ds_set (i := 11) sc_law.nd rfl (by first | exact Or.inl rfl | exact Or.inr rfl) (de_comp (own := [("k", 16)]) rfl sc_law.nd (di_range1 (by rfl) z_range (da_cons (de_name (pv 4)) da_nil)) (blkOk_by (N := N_law) (sc := (defScope s_law)) (by decide +kernel)) (fun _ _ _ _ _ => (dg_name (i := 16) sc_law.nd rfl (by first | exact Or.inl rfl | exact Or.inr rfl))) (fun _ _ _ _ _ => dts_nil) (fun _ _ _ _ _ => (de_own C__law_pick (hr.mono (by decide)) (by rfl) (da_cons (de_name (pv 1)) (da_cons (de_lst (da_cons de_int (da_cons de_int (da_cons de_int (da_cons de_int (da_cons (de_own C__law_draw (hr.mono (by decide)) (by rfl) (da_cons (de_name (pv 1)) (da_cons de_int da_nil))) da_nil)))))) da_nil))))))
      (ds_cons (ds_stI (de_op op_gAdd de_int (de_own C__law_draw (hr.mono (by decide)) (by rfl) (da_cons (de_name (pv 1)) (da_cons de_int da_nil)))) (de_name (pv 11)) (de_own C__law_draw (hr.mono (by decide)) (by rfl) (da_cons (de_name (pv 1)) (da_cons (de_name (pv 4)) da_nil))) set_gSetL)
      (ds_cons (ds_set (i := 12) sc_law.nd rfl (by first | exact Or.inl rfl | exact Or.inr rfl) (de_fnT cr_gListOf (by rfl) z_list rfl (da_cons (de_name (pv 11)) da_nil)))
      (ds_cons (ds_set (i := 13) sc_law.nd rfl (by first | exact Or.inl rfl | exact Or.inr rfl) (de_fnB (cr_gSum rfl) (by rfl) z_sum rfl (da_cons (de_comp (own := [("k", 16), ("mark", 17)]) rfl sc_law.nd (di_enum (by rfl) z_enumerate (da_cons (de_name (pv 3)) da_nil)) (blkOk_by (N := N_law) (sc := (defScope s_law)) (by decide +kernel)) (fun _ _ _ _ _ => (dg_tup rfl (dgs_cons (dg_name (i := 16) sc_law.nd rfl (by first | exact Or.inl rfl | exact Or.inr rfl)) (dgs_cons (dg_name (i := 17) sc_law.nd rfl (by first | exact Or.inl rfl | exact Or.inr rfl)) dgs_nil)))) (fun _ _ _ _ _ => dts_nil) (fun _ _ _ _ _ => (de_op op_gMul (de_name (pv 17)) (de_ix (de_name (pv 11)) (de_name (pv 16)))))) da_nil)))
      (ds_cons (ds_if (dt_not (dt_val (de_own C__law_same (hr.mono (by decide)) (by rfl) (da_cons (de_own C_weighted (hr.mono (by decide)) (by rfl) (da_cons (de_name (pv 5)) (da_cons (de_name (pv 12)) da_nil))) (da_cons (de_own C__law_low (hr.mono (by decide)) (by rfl) (da_cons (de_name (pv 13)) (da_cons (de_fnB (cr_gSum rfl) (by rfl) z_sum rfl (da_cons (de_name (pv 11)) da_nil)) da_nil))) da_nil)))))
        (ds_one (ds_ret de_bl))
        ds_nil)
      (ds_cons (ds_for PassesOwn.never rfl (di_range1 (by rfl) z_range (da_cons (de_name (pv 4)) da_nil)) (dg_name (i := 14) sc_law.nd rfl (by first | exact Or.inl rfl | exact Or.inr rfl))
        (ds_cons (ds_set (i := 15) sc_law.nd rfl (by first | exact Or.inl rfl | exact Or.inr rfl) (de_cmp op_gLt (de_op op_gMul (de_ix (de_name (pv 3)) (de_name (pv 14))) (de_fnB (cr_gSum rfl) (by rfl) z_sum rfl (da_cons (de_name (pv 11)) da_nil))) (de_name (pv 13))))
        (ds_one (ds_if (dw_pt (dw_or (dt_not (dt_val (de_own C__law_same (hr.mono (by decide)) (by rfl) (da_cons (de_own C_better_with (hr.mono (by decide)) (by rfl) (da_cons (de_name (pv 5)) (da_cons (de_name (pv 12)) (da_cons (de_name (pv 14)) da_nil)))) (da_cons (de_name (pv 15)) da_nil))))) (dw_or1 (dt_cmp (op_gNe hr.units) (de_name (pv 12)) (de_name (pv 11))))))
          (ds_one (ds_ret de_bl))
          ds_nil))))
      (ds_one (ds_if (dt_cmp (op_gNe hr.units) (de_name (pv 5)) (de_name (pv 3)))
        (ds_one (ds_ret de_bl))
        ds_nil)))))))))))))))))))))
  (ds_cons (ds_if (dw_pt (dw_or (dt_not (dt_val (de_own C__law_same (hr.mono (by decide)) (by rfl) (da_cons (de_own C_report (hr.mono (by decide)) (by rfl) (da_cons (de_lst (da_cons de_int (da_cons de_int da_nil))) da_nil)) (da_cons de_int da_nil))))) (dw_or (dt_not (dt_val (de_own C__law_same (hr.mono (by decide)) (by rfl) (da_cons (de_own C_report (hr.mono (by decide)) (by rfl) (da_cons (de_lst (da_cons de_int (da_cons de_int (da_cons de_int da_nil)))) da_nil)) (da_cons de_int da_nil))))) (dw_or1 (dt_not (dt_val (de_own C__law_same (hr.mono (by decide)) (by rfl) (da_cons (de_own C_middle (hr.mono (by decide)) (by rfl) (da_cons (de_lst (da_cons de_int (da_cons de_int (da_cons de_int (da_cons de_int da_nil))))) da_nil)) (da_cons (de_tup (da_cons de_int (da_cons de_int da_nil))) da_nil)))))))))
    (ds_one (ds_ret de_bl))
    ds_nil)
  (ds_cons (ds_if (dw_pt (dw_or (dt_not (dt_val (de_own C__law_same (hr.mono (by decide)) (by rfl) (da_cons (de_own C_needed (hr.mono (by decide)) (by rfl) (da_cons (de_lst (da_cons de_int (da_cons de_int da_nil))) (da_cons de_int (da_cons de_int da_nil)))) (da_cons de_int da_nil))))) (dw_or (dt_notN (de_own C_needed (hr.mono (by decide)) (by rfl) (da_cons (de_lst (da_cons de_int (da_cons de_int (da_cons de_int (da_cons de_int (da_cons de_int da_nil)))))) (da_cons de_int (da_cons de_int da_nil))))) (dw_or1 (dt_not (dt_val (de_own C__law_same (hr.mono (by decide)) (by rfl) (da_cons (de_own C_ones_needed (hr.mono (by decide)) (by rfl) (da_cons (de_lst (da_cons de_int da_nil)) (da_cons de_int da_nil))) (da_cons de_int da_nil)))))))))
    (ds_one (ds_ret de_bl))
    ds_nil)
  (ds_one (ds_ret (de_and (de_own C__law_same (hr.mono (by decide)) (by rfl) (da_cons (de_own C_fewest_changes (hr.mono (by decide)) (by rfl) (da_cons (de_lst (da_cons de_int (da_cons de_int (da_cons de_int (da_cons de_int da_nil))))) (da_cons de_int da_nil))) (da_cons de_int da_nil))) (de_one (de_own C__law_same (hr.mono (by decide)) (by rfl) (da_cons (de_own C_without_worst (hr.mono (by decide)) (by rfl) (da_cons (de_lst (da_cons de_int (da_cons de_int (da_cons de_int da_nil)))) (da_cons de_int da_nil))) (da_cons (de_tup (da_cons de_int (da_cons de_int da_nil))) da_nil)))))))))))) p_law
end
theorem law_sp {K : PySem.W.Frag} {H : Hp} {a : Addr} {ns : List Int} (hS : SqL K H a (ns.map V.int)) : spT K m_law t_law [.ref a] H (fun v _ => v = .bl true) fun _ _ _ => False :=
  ⟨H, [scrD ns], fun z _ => z = .fz (.bool true), Evl.Ex.refl H, ⟨.scr hS, trivial⟩, List.nodup_nil, ⟨ns, rfl, rfl⟩, fun z os v F1 H1 hk R => by subst hk; have f := R.fit; cases f; rfl⟩
theorem all_mk {l : PySem.W.OpenLaw} {w : World} {K : PySem.W.Frag} {h : Heap} {mg : Str → Option Value} {fa : Addr} (X : K.In h) (G : h.Ns mainGlobals mg) (hfa : mg "law" = some (.ref fa))
    {f0 : Addr} {od0 an0 : Option Addr} {sl0 : Array (Option Value)} {oc0 kV0 dc0 pm0 cd0 ct0 : Value}
    {f1 : Addr} {od1 an1 : Option Addr} {sl1 : Array (Option Value)} {oc1 kV1 dc1 pm1 cd1 ct1 : Value}
    {f2 : Addr} {od2 an2 : Option Addr} {sl2 : Array (Option Value)} {oc2 kV2 dc2 pm2 cd2 ct2 : Value}
    {f3 : Addr} {od3 an3 : Option Addr} {sl3 : Array (Option Value)} {oc3 kV3 dc3 pm3 cd3 ct3 : Value}
    {f4 : Addr} {od4 an4 : Option Addr} {sl4 : Array (Option Value)} {oc4 kV4 dc4 pm4 cd4 ct4 : Value}
    {f5 : Addr} {od5 an5 : Option Addr} {sl5 : Array (Option Value)} {oc5 kV5 dc5 pm5 cd5 ct5 : Value}
    {f6 : Addr} {od6 an6 : Option Addr} {sl6 : Array (Option Value)} {oc6 kV6 dc6 pm6 cd6 ct6 : Value}
    {f7 : Addr} {od7 an7 : Option Addr} {sl7 : Array (Option Value)} {oc7 kV7 dc7 pm7 cd7 ct7 : Value}
    {f8 : Addr} {od8 an8 : Option Addr} {sl8 : Array (Option Value)} {oc8 kV8 dc8 pm8 cd8 ct8 : Value}
    {f9 : Addr} {od9 an9 : Option Addr} {sl9 : Array (Option Value)} {oc9 kV9 dc9 pm9 cd9 ct9 : Value}
    {f10 : Addr} {od10 an10 : Option Addr} {sl10 : Array (Option Value)} {oc10 kV10 dc10 pm10 cd10 ct10 : Value}
    {f11 : Addr} {od11 an11 : Option Addr} {sl11 : Array (Option Value)} {oc11 kV11 dc11 pm11 cd11 ct11 : Value}
    {f12 : Addr} {od12 an12 : Option Addr} {sl12 : Array (Option Value)} {oc12 kV12 dc12 pm12 cd12 ct12 : Value}
    {f13 : Addr} {od13 an13 : Option Addr} {sl13 : Array (Option Value)} {oc13 kV13 dc13 pm13 cd13 ct13 : Value}
    {f14 : Addr} {od14 an14 : Option Addr} {sl14 : Array (Option Value)} {oc14 kV14 dc14 pm14 cd14 ct14 : Value}
    {f15 : Addr} {od15 an15 : Option Addr} {sl15 : Array (Option Value)} {oc15 kV15 dc15 pm15 cd15 ct15 : Value}
    {f16 : Addr} {od16 an16 : Option Addr} {sl16 : Array (Option Value)} {oc16 kV16 dc16 pm16 cd16 ct16 : Value}
    {f17 : Addr} {od17 an17 : Option Addr} {sl17 : Array (Option Value)} {oc17 kV17 dc17 pm17 cd17 ct17 : Value}
    {f18 : Addr} {od18 an18 : Option Addr} {sl18 : Array (Option Value)} {oc18 kV18 dc18 pm18 cd18 ct18 : Value}
    {f19 : Addr} {od19 an19 : Option Addr} {sl19 : Array (Option Value)} {oc19 kV19 dc19 pm19 cd19 ct19 : Value}
    {f20 : Addr} {od20 an20 : Option Addr} {sl20 : Array (Option Value)} {oc20 kV20 dc20 pm20 cd20 ct20 : Value}
    {f21 : Addr} {od21 an21 : Option Addr} {sl21 : Array (Option Value)} {oc21 kV21 dc21 pm21 cd21 ct21 : Value}
    {f22 : Addr} {od22 an22 : Option Addr} {sl22 : Array (Option Value)} {oc22 kV22 dc22 pm22 cd22 ct22 : Value}
    {f23 : Addr} {od23 an23 : Option Addr} {sl23 : Array (Option Value)} {oc23 kV23 dc23 pm23 cd23 ct23 : Value}
    (a0 : PySem.W.nsIn K mainGlobals "_law_cell" = some (some (.ref f0))) (l0 : K.lookup f0 = some ⟨oc0, od0, .func (PySem.W.fnOf "_law_cell" "_law_cell" (defArgs s__law_cell) (defBody s__law_cell) (defScope s__law_cell) .none kV0 dc0 pm0 an0 cd0 ct0), sl0⟩) (c0 : PySem.W.codeIn K cd0 "_law_cell" = true) (k0 : PySem.W.keepIn K (.ref f0) = true)
    (a1 : PySem.W.nsIn K mainGlobals "_law_digits" = some (some (.ref f1))) (l1 : K.lookup f1 = some ⟨oc1, od1, .func (PySem.W.fnOf "_law_digits" "_law_digits" (defArgs s__law_digits) (defBody s__law_digits) (defScope s__law_digits) .none kV1 dc1 pm1 an1 cd1 ct1), sl1⟩) (c1 : PySem.W.codeIn K cd1 "_law_digits" = true) (k1 : PySem.W.keepIn K (.ref f1) = true)
    (a2 : PySem.W.nsIn K mainGlobals "_law_draw" = some (some (.ref f2))) (l2 : K.lookup f2 = some ⟨oc2, od2, .func (PySem.W.fnOf "_law_draw" "_law_draw" (defArgs s__law_draw) (defBody s__law_draw) (defScope s__law_draw) .none kV2 dc2 pm2 an2 cd2 ct2), sl2⟩) (c2 : PySem.W.codeIn K cd2 "_law_draw" = true) (k2 : PySem.W.keepIn K (.ref f2) = true)
    (a3 : PySem.W.nsIn K mainGlobals "_law_marks" = some (some (.ref f3))) (l3 : K.lookup f3 = some ⟨oc3, od3, .func (PySem.W.fnOf "_law_marks" "_law_marks" (defArgs s__law_marks) (defBody s__law_marks) (defScope s__law_marks) .none kV3 dc3 pm3 an3 cd3 ct3), sl3⟩) (c3 : PySem.W.codeIn K cd3 "_law_marks" = true) (k3 : PySem.W.keepIn K (.ref f3) = true)
    (a4 : PySem.W.nsIn K mainGlobals "_law_same" = some (some (.ref f4))) (l4 : K.lookup f4 = some ⟨oc4, od4, .func (PySem.W.fnOf "_law_same" "_law_same" (defArgs s__law_same) (defBody s__law_same) (defScope s__law_same) .none kV4 dc4 pm4 an4 cd4 ct4), sl4⟩) (c4 : PySem.W.codeIn K cd4 "_law_same" = true) (k4 : PySem.W.keepIn K (.ref f4) = true)
    (a5 : PySem.W.nsIn K mainGlobals "_law_low" = some (some (.ref f5))) (l5 : K.lookup f5 = some ⟨oc5, od5, .func (PySem.W.fnOf "_law_low" "_law_low" (defArgs s__law_low) (defBody s__law_low) (defScope s__law_low) .none kV5 dc5 pm5 an5 cd5 ct5), sl5⟩) (c5 : PySem.W.codeIn K cd5 "_law_low" = true) (k5 : PySem.W.keepIn K (.ref f5) = true)
    (a6 : PySem.W.nsIn K mainGlobals "rounded" = some (some (.ref f6))) (l6 : K.lookup f6 = some ⟨oc6, od6, .func (PySem.W.fnOf "rounded" "rounded" (defArgs s_rounded) (defBody s_rounded) (defScope s_rounded) .none kV6 dc6 pm6 an6 cd6 ct6), sl6⟩) (c6 : PySem.W.codeIn K cd6 "rounded" = true) (k6 : PySem.W.keepIn K (.ref f6) = true)
    (a7 : PySem.W.nsIn K mainGlobals "fraction" = some (some (.ref f7))) (l7 : K.lookup f7 = some ⟨oc7, od7, .func (PySem.W.fnOf "fraction" "fraction" (defArgs s_fraction) (defBody s_fraction) (defScope s_fraction) .none kV7 dc7 pm7 an7 cd7 ct7), sl7⟩) (c7 : PySem.W.codeIn K cd7 "fraction" = true) (k7 : PySem.W.keepIn K (.ref f7) = true)
    (a8 : PySem.W.nsIn K mainGlobals "mean" = some (some (.ref f8))) (l8 : K.lookup f8 = some ⟨oc8, od8, .func (PySem.W.fnOf "mean" "mean" (defArgs s_mean) (defBody s_mean) (defScope s_mean) .none kV8 dc8 pm8 an8 cd8 ct8), sl8⟩) (c8 : PySem.W.codeIn K cd8 "mean" = true) (k8 : PySem.W.keepIn K (.ref f8) = true)
    (a9 : PySem.W.nsIn K mainGlobals "report" = some (some (.ref f9))) (l9 : K.lookup f9 = some ⟨oc9, od9, .func (PySem.W.fnOf "report" "report" (defArgs s_report) (defBody s_report) (defScope s_report) .none kV9 dc9 pm9 an9 cd9 ct9), sl9⟩) (c9 : PySem.W.codeIn K cd9 "report" = true) (k9 : PySem.W.keepIn K (.ref f9) = true)
    (a10 : PySem.W.nsIn K mainGlobals "needed" = some (some (.ref f10))) (l10 : K.lookup f10 = some ⟨oc10, od10, .func (PySem.W.fnOf "needed" "needed" (defArgs s_needed) (defBody s_needed) (defScope s_needed) .none kV10 dc10 pm10 an10 cd10 ct10), sl10⟩) (c10 : PySem.W.codeIn K cd10 "needed" = true) (k10 : PySem.W.keepIn K (.ref f10) = true)
    (a11 : PySem.W.nsIn K mainGlobals "fewest_changes" = some (some (.ref f11))) (l11 : K.lookup f11 = some ⟨oc11, od11, .func (PySem.W.fnOf "fewest_changes" "fewest_changes" (defArgs s_fewest_changes) (defBody s_fewest_changes) (defScope s_fewest_changes) .none kV11 dc11 pm11 an11 cd11 ct11), sl11⟩) (c11 : PySem.W.codeIn K cd11 "fewest_changes" = true) (k11 : PySem.W.keepIn K (.ref f11) = true)
    (a12 : PySem.W.nsIn K mainGlobals "without_worst" = some (some (.ref f12))) (l12 : K.lookup f12 = some ⟨oc12, od12, .func (PySem.W.fnOf "without_worst" "without_worst" (defArgs s_without_worst) (defBody s_without_worst) (defScope s_without_worst) .none kV12 dc12 pm12 an12 cd12 ct12), sl12⟩) (c12 : PySem.W.codeIn K cd12 "without_worst" = true) (k12 : PySem.W.keepIn K (.ref f12) = true)
    (a13 : PySem.W.nsIn K mainGlobals "middle" = some (some (.ref f13))) (l13 : K.lookup f13 = some ⟨oc13, od13, .func (PySem.W.fnOf "middle" "middle" (defArgs s_middle) (defBody s_middle) (defScope s_middle) .none kV13 dc13 pm13 an13 cd13 ct13), sl13⟩) (c13 : PySem.W.codeIn K cd13 "middle" = true) (k13 : PySem.W.keepIn K (.ref f13) = true)
    (a14 : PySem.W.nsIn K mainGlobals "table_of" = some (some (.ref f14))) (l14 : K.lookup f14 = some ⟨oc14, od14, .func (PySem.W.fnOf "table_of" "table_of" (defArgs s_table_of) (defBody s_table_of) (defScope s_table_of) .none kV14 dc14 pm14 an14 cd14 ct14), sl14⟩) (c14 : PySem.W.codeIn K cd14 "table_of" = true) (k14 : PySem.W.keepIn K (.ref f14) = true)
    (a15 : PySem.W.nsIn K mainGlobals "_law_at_most" = some (some (.ref f15))) (l15 : K.lookup f15 = some ⟨oc15, od15, .func (PySem.W.fnOf "_law_at_most" "_law_at_most" (defArgs s__law_at_most) (defBody s__law_at_most) (defScope s__law_at_most) .none kV15 dc15 pm15 an15 cd15 ct15), sl15⟩) (c15 : PySem.W.codeIn K cd15 "_law_at_most" = true) (k15 : PySem.W.keepIn K (.ref f15) = true)
    (a16 : PySem.W.nsIn K mainGlobals "ones_needed" = some (some (.ref f16))) (l16 : K.lookup f16 = some ⟨oc16, od16, .func (PySem.W.fnOf "ones_needed" "ones_needed" (defArgs s_ones_needed) (defBody s_ones_needed) (defScope s_ones_needed) .none kV16 dc16 pm16 an16 cd16 ct16), sl16⟩) (c16 : PySem.W.codeIn K cd16 "ones_needed" = true) (k16 : PySem.W.keepIn K (.ref f16) = true)
    (a17 : PySem.W.nsIn K mainGlobals "_law_goals" = some (some (.ref f17))) (l17 : K.lookup f17 = some ⟨oc17, od17, .func (PySem.W.fnOf "_law_goals" "_law_goals" (defArgs s__law_goals) (defBody s__law_goals) (defScope s__law_goals) .none kV17 dc17 pm17 an17 cd17 ct17), sl17⟩) (c17 : PySem.W.codeIn K cd17 "_law_goals" = true) (k17 : PySem.W.keepIn K (.ref f17) = true)
    (a18 : PySem.W.nsIn K mainGlobals "_law_pick" = some (some (.ref f18))) (l18 : K.lookup f18 = some ⟨oc18, od18, .func (PySem.W.fnOf "_law_pick" "_law_pick" (defArgs s__law_pick) (defBody s__law_pick) (defScope s__law_pick) .none kV18 dc18 pm18 an18 cd18 ct18), sl18⟩) (c18 : PySem.W.codeIn K cd18 "_law_pick" = true) (k18 : PySem.W.keepIn K (.ref f18) = true)
    (a19 : PySem.W.nsIn K mainGlobals "_law_report" = some (some (.ref f19))) (l19 : K.lookup f19 = some ⟨oc19, od19, .func (PySem.W.fnOf "_law_report" "_law_report" (defArgs s__law_report) (defBody s__law_report) (defScope s__law_report) .none kV19 dc19 pm19 an19 cd19 ct19), sl19⟩) (c19 : PySem.W.codeIn K cd19 "_law_report" = true) (k19 : PySem.W.keepIn K (.ref f19) = true)
    (a20 : PySem.W.nsIn K mainGlobals "weighted" = some (some (.ref f20))) (l20 : K.lookup f20 = some ⟨oc20, od20, .func (PySem.W.fnOf "weighted" "weighted" (defArgs s_weighted) (defBody s_weighted) (defScope s_weighted) .none kV20 dc20 pm20 an20 cd20 ct20), sl20⟩) (c20 : PySem.W.codeIn K cd20 "weighted" = true) (k20 : PySem.W.keepIn K (.ref f20) = true)
    (a21 : PySem.W.nsIn K mainGlobals "is_less" = some (some (.ref f21))) (l21 : K.lookup f21 = some ⟨oc21, od21, .func (PySem.W.fnOf "is_less" "is_less" (defArgs s_is_less) (defBody s_is_less) (defScope s_is_less) .none kV21 dc21 pm21 an21 cd21 ct21), sl21⟩) (c21 : PySem.W.codeIn K cd21 "is_less" = true) (k21 : PySem.W.keepIn K (.ref f21) = true)
    (a22 : PySem.W.nsIn K mainGlobals "better_with" = some (some (.ref f22))) (l22 : K.lookup f22 = some ⟨oc22, od22, .func (PySem.W.fnOf "better_with" "better_with" (defArgs s_better_with) (defBody s_better_with) (defScope s_better_with) .none kV22 dc22 pm22 an22 cd22 ct22), sl22⟩) (c22 : PySem.W.codeIn K cd22 "better_with" = true) (k22 : PySem.W.keepIn K (.ref f22) = true)
    (a23 : PySem.W.nsIn K mainGlobals "law" = some (some (.ref f23))) (l23 : K.lookup f23 = some ⟨oc23, od23, .func (PySem.W.fnOf "law" "law" (defArgs s_law) (defBody s_law) (defScope s_law) .none kV23 dc23 pm23 an23 cd23 ct23), sl23⟩) (c23 : PySem.W.codeIn K cd23 "law" = true) (k23 : PySem.W.keepIn K (.ref f23) = true)
    (z_len : PySem.W.nsIn K mainGlobals "len" = some none)
    (z_range : PySem.W.nsIn K mainGlobals "range" = some none)
    (z_int : PySem.W.nsIn K mainGlobals "int" = some none)
    (z_isinstance : PySem.W.nsIn K mainGlobals "isinstance" = some none)
    (z_str : PySem.W.nsIn K mainGlobals "str" = some none)
    (z_repr : PySem.W.nsIn K mainGlobals "repr" = some none)
    (z_bool : PySem.W.nsIn K mainGlobals "bool" = some none)
    (z_tuple : PySem.W.nsIn K mainGlobals "tuple" = some none)
    (z_list : PySem.W.nsIn K mainGlobals "list" = some none)
    (z_abs : PySem.W.nsIn K mainGlobals "abs" = some none)
    (z_sum : PySem.W.nsIn K mainGlobals "sum" = some none)
    (z_max : PySem.W.nsIn K mainGlobals "max" = some none)
    (z_sorted : PySem.W.nsIn K mainGlobals "sorted" = some none)
    (z_reversed : PySem.W.nsIn K mainGlobals "reversed" = some none)
    (z_zip : PySem.W.nsIn K mainGlobals "zip" = some none)
    (z_enumerate : PySem.W.nsIn K mainGlobals "enumerate" = some none)
    (i_gcd : PySem.W.nsIn K mainGlobals "gcd" = some (some (.builtin "math.gcd"))) :
    ∃ fd : FuncData, (∀ (s : Shared) (v : Value), BindsTo s fd ⟨[v], []⟩ [("script", v)]) ∧ ∀ base : Heap, K.In base → base.Ns mainGlobals mg → FnOk l.prog w K mg base CX0 14 fa fd ["script"] (spT K m_law t_law) := by
  have e := hfa.symm.trans (PySem.W.mg_of X G a23)
  cases e
  have F0 := fun_mk (st := s__law_cell) l0 c0 k0
  have b0 := F0.binds (ps := ["script", "k"]) fun _ _ _ _ _ _ us hl => match us, hl with | [_, _], _ => rfl
  have F1 := fun_mk (st := s__law_digits) l1 c1 k1
  have b1 := F1.binds (ps := ["script", "first", "last"]) fun _ _ _ _ _ _ us hl => match us, hl with | [_, _, _], _ => rfl
  have F2 := fun_mk (st := s__law_draw) l2 c2 k2
  have b2 := F2.binds (ps := ["box", "many"]) fun _ _ _ _ _ _ us hl => match us, hl with | [_, _], _ => rfl
  have F3 := fun_mk (st := s__law_marks) l3 c3 k3
  have b3 := F3.binds (ps := ["box"]) fun _ _ _ _ _ _ us hl => match us, hl with | [_], _ => rfl
  have F4 := fun_mk (st := s__law_same) l4 c4 k4
  have b4 := F4.binds (ps := ["told", "due"]) fun _ _ _ _ _ _ us hl => match us, hl with | [_, _], _ => rfl
  have F5 := fun_mk (st := s__law_low) l5 c5 k5
  have b5 := F5.binds (ps := ["top", "bottom"]) fun _ _ _ _ _ _ us hl => match us, hl with | [_, _], _ => rfl
  have F6 := fun_mk (st := s_rounded) l6 c6 k6
  have b6 := F6.binds (ps := ["one"]) fun _ _ _ _ _ _ us hl => match us, hl with | [_], _ => rfl
  have F7 := fun_mk (st := s_fraction) l7 c7 k7
  have b7 := F7.binds (ps := ["top", "bottom"]) fun _ _ _ _ _ _ us hl => match us, hl with | [_, _], _ => rfl
  have F8 := fun_mk (st := s_mean) l8 c8 k8
  have b8 := F8.binds (ps := ["marks"]) fun _ _ _ _ _ _ us hl => match us, hl with | [_], _ => rfl
  have F9 := fun_mk (st := s_report) l9 c9 k9
  have b9 := F9.binds (ps := ["marks"]) fun _ _ _ _ _ _ us hl => match us, hl with | [_], _ => rfl
  have F10 := fun_mk (st := s_needed) l10 c10 k10
  have b10 := F10.binds (ps := ["marks", "goal", "more"]) fun _ _ _ _ _ _ us hl => match us, hl with | [_, _, _], _ => rfl
  have F11 := fun_mk (st := s_fewest_changes) l11 c11 k11
  have b11 := F11.binds (ps := ["marks", "goal"]) fun _ _ _ _ _ _ us hl => match us, hl with | [_, _], _ => rfl
  have F12 := fun_mk (st := s_without_worst) l12 c12 k12
  have b12 := F12.binds (ps := ["marks", "many"]) fun _ _ _ _ _ _ us hl => match us, hl with | [_, _], _ => rfl
  have F13 := fun_mk (st := s_middle) l13 c13 k13
  have b13 := F13.binds (ps := ["marks"]) fun _ _ _ _ _ _ us hl => match us, hl with | [_], _ => rfl
  have F14 := fun_mk (st := s_table_of) l14 c14 k14
  have b14 := F14.binds (ps := ["marks"]) fun _ _ _ _ _ _ us hl => match us, hl with | [_], _ => rfl
  have F15 := fun_mk (st := s__law_at_most) l15 c15 k15
  have b15 := F15.binds (ps := ["total", "many", "goal"]) fun _ _ _ _ _ _ us hl => match us, hl with | [_, _, _], _ => rfl
  have F16 := fun_mk (st := s_ones_needed) l16 c16 k16
  have b16 := F16.binds (ps := ["marks", "goal"]) fun _ _ _ _ _ _ us hl => match us, hl with | [_, _], _ => rfl
  have F17 := fun_mk (st := s__law_goals) l17 c17 k17
  have b17 := F17.binds (ps := ["box", "marks", "handed"]) fun _ _ _ _ _ _ us hl => match us, hl with | [_, _, _], _ => rfl
  have F18 := fun_mk (st := s__law_pick) l18 c18 k18
  have b18 := F18.binds (ps := ["box", "row"]) fun _ _ _ _ _ _ us hl => match us, hl with | [_, _], _ => rfl
  have F19 := fun_mk (st := s__law_report) l19 c19 k19
  have b19 := F19.binds (ps := ["marks"]) fun _ _ _ _ _ _ us hl => match us, hl with | [_], _ => rfl
  have F20 := fun_mk (st := s_weighted) l20 c20 k20
  have b20 := F20.binds (ps := ["marks", "weights"]) fun _ _ _ _ _ _ us hl => match us, hl with | [_, _], _ => rfl
  have F21 := fun_mk (st := s_is_less) l21 c21 k21
  have b21 := F21.binds (ps := ["one", "other"]) fun _ _ _ _ _ _ us hl => match us, hl with | [_, _], _ => rfl
  have F22 := fun_mk (st := s_better_with) l22 c22 k22
  have b22 := F22.binds (ps := ["marks", "weights", "place"]) fun _ _ _ _ _ _ us hl => match us, hl with | [_, _, _], _ => rfl
  have F23 := fun_mk (st := s_law) l23 c23 k23
  refine ⟨PySem.W.fnOf "law" "law" (defArgs s_law) (defBody s_law) (defScope s_law) .none kV23 dc23 pm23 an23 cd23 ct23, fun s v => .of_eq rfl, fun base _ _ => ?_⟩
  have C__law_cell := w__law_cell (P := l.prog) (w := w) (base := base) F0 (PySem.W.mg_of X G a0) b0 (PySem.W.mg_none_of X G z_len)
  have C__law_digits := w__law_digits (P := l.prog) (w := w) (base := base) F1 (PySem.W.mg_of X G a1) b1 (PySem.W.mg_none_of X G z_range) C__law_cell (PySem.W.mg_none_of X G z_int)
  have C__law_draw := w__law_draw (P := l.prog) (w := w) (base := base) F2 (PySem.W.mg_of X G a2) b2 (PySem.W.mg_none_of X G z_len) (PySem.W.mg_none_of X G z_int)
  have C__law_marks := w__law_marks (P := l.prog) (w := w) (base := base) F3 (PySem.W.mg_of X G a3) b3 C__law_draw (PySem.W.mg_none_of X G z_range) (PySem.W.mg_none_of X G z_int)
  have C__law_same := w__law_same (P := l.prog) (w := w) (base := base) F4 (PySem.W.mg_of X G a4) b4 (PySem.W.mg_none_of X G z_isinstance) (PySem.W.mg_none_of X G z_str) (PySem.W.mg_none_of X G z_repr) (PySem.W.mg_none_of X G z_int) (PySem.W.mg_none_of X G z_bool) (PySem.W.mg_none_of X G z_tuple) (PySem.W.mg_none_of X G z_list) (PySem.W.mg_none_of X G z_len) (PySem.W.mg_none_of X G z_range)
  have C__law_low := w__law_low (P := l.prog) (w := w) (base := base) F5 (PySem.W.mg_of X G a5) b5 (PySem.W.mg_none_of X G z_abs) (PySem.W.mg_none_of X G z_int)
  have C_rounded := w_rounded (P := l.prog) (w := w) (base := base) F6 (PySem.W.mg_of X G a6) b6 
  have C_fraction := w_fraction (P := l.prog) (w := w) (base := base) F7 (PySem.W.mg_of X G a7) b7 (PySem.W.mg_of X G i_gcd)
  have C_mean := w_mean (P := l.prog) (w := w) (base := base) F8 (PySem.W.mg_of X G a8) b8 (PySem.W.mg_none_of X G z_len) (PySem.W.mg_none_of X G z_sum) C_fraction
  have C_report := w_report (P := l.prog) (w := w) (base := base) F9 (PySem.W.mg_of X G a9) b9 C_mean C_rounded
  have C_needed := w_needed (P := l.prog) (w := w) (base := base) F10 (PySem.W.mg_of X G a10) b10 (PySem.W.mg_none_of X G z_range) C_report (PySem.W.mg_none_of X G z_len) (PySem.W.mg_none_of X G z_max)
  have C_fewest_changes := w_fewest_changes (P := l.prog) (w := w) (base := base) F11 (PySem.W.mg_of X G a11) b11 (PySem.W.mg_none_of X G z_sorted) C_report (PySem.W.mg_none_of X G z_len)
  have C_without_worst := w_without_worst (P := l.prog) (w := w) (base := base) F12 (PySem.W.mg_of X G a12) b12 (PySem.W.mg_none_of X G z_sorted) (PySem.W.mg_none_of X G z_len) C_mean
  have C_middle := w_middle (P := l.prog) (w := w) (base := base) F13 (PySem.W.mg_of X G a13) b13 (PySem.W.mg_none_of X G z_sorted) (PySem.W.mg_none_of X G z_len) C_fraction
  have C_table_of := w_table_of (P := l.prog) (w := w) (base := base) F14 (PySem.W.mg_of X G a14) b14 (PySem.W.mg_none_of X G z_range)
  have C__law_at_most := w__law_at_most (P := l.prog) (w := w) (base := base) F15 (PySem.W.mg_of X G a15) b15 
  have C_ones_needed := w_ones_needed (P := l.prog) (w := w) (base := base) F16 (PySem.W.mg_of X G a16) b16 (PySem.W.mg_none_of X G z_range) C_report
  have C__law_goals := w__law_goals (P := l.prog) (w := w) (base := base) F17 (PySem.W.mg_of X G a17) b17 (PySem.W.mg_none_of X G z_sum) (PySem.W.mg_none_of X G z_len) (PySem.W.mg_none_of X G z_sorted) (PySem.W.mg_none_of X G z_list) (PySem.W.mg_none_of X G z_reversed) C__law_draw (PySem.W.mg_none_of X G z_range) C__law_at_most C_needed C__law_same C_ones_needed C_fewest_changes
  have C__law_pick := w__law_pick (P := l.prog) (w := w) (base := base) F18 (PySem.W.mg_of X G a18) b18 C__law_draw (PySem.W.mg_none_of X G z_int) (PySem.W.mg_none_of X G z_len)
  have C__law_report := w__law_report (P := l.prog) (w := w) (base := base) F19 (PySem.W.mg_of X G a19) b19 (PySem.W.mg_none_of X G z_range) (PySem.W.mg_none_of X G z_len) (PySem.W.mg_none_of X G z_sum) C__law_at_most
  have C_weighted := w_weighted (P := l.prog) (w := w) (base := base) F20 (PySem.W.mg_of X G a20) b20 (PySem.W.mg_none_of X G z_sum) (PySem.W.mg_none_of X G z_zip) C_fraction
  have C_is_less := w_is_less (P := l.prog) (w := w) (base := base) F21 (PySem.W.mg_of X G a21) b21 
  have C_better_with := w_better_with (P := l.prog) (w := w) (base := base) F22 (PySem.W.mg_of X G a22) b22 (PySem.W.mg_none_of X G z_list) C_weighted C_is_less
  exact w_law F23 C__law_digits (PySem.W.mg_none_of X G z_range) C__law_marks (PySem.W.mg_none_of X G z_len) (PySem.W.mg_none_of X G z_list) (PySem.W.mg_none_of X G z_sum) C__law_low C_mean C__law_same C__law_report C_report (PySem.W.mg_none_of X G z_sorted) C__law_draw C_without_worst (PySem.W.mg_none_of X G z_enumerate) C_middle C_table_of C__law_goals C__law_pick C_weighted C_better_with C_needed C_ones_needed C_fewest_changes
theorem walk {l : PySem.W.OpenLaw} {q : Program} {loose : List Str} {XP : (Str → Option Value) → Heap → Prop} {YP : World → Heap → Prop} {d : DefRec} {K : Params → PySem.W.Frag} (hn : l.most = some 63) (hdf : d.params.defaults = [])
    (hY : ∀ (w : World) (h : Heap), YP w h → (K w.params).In h)
    (F : ∀ (w : World) (mg : Str → Option Value) (fa : Addr) (h : Heap), (K w.params).In h → h.Ns mainGlobals mg → mg d.name = some (.ref fa) →
      ∃ fd : FuncData, (∀ (s : Shared) (u : Value), BindsTo s fd ⟨[u], []⟩ [("script", u)]) ∧ ∀ base : Heap, (K w.params).In base → base.Ns mainGlobals mg → FnOk l.prog w (K w.params) mg base CX0 14 fa fd ["script"] (spT (K w.params) m_law t_law)) :
    PySem.W.WalkO q loose XP YP l.row.toRowW d [] (fun f vs => PySem.call f vs) :=
  L2.walk_of (n := 63) (k := 14) (x := "script") (CX := fun _ => CX0) (sp := fun w => spT (K w.params) m_law t_law) hn (by decide) hdf ⟨rfl, by decide, by decide⟩ hY F (fun _ _ _ _ _ _ hS => law_sp hS) fun _ _ _ _ _ z => z
end TL.k59
open PySem PySem.W PyProof.Rows
set_option maxHeartbeats 0 in
theorem PySem.Challenge.cw_schoollands_k59_whole_means_and_reports_holds : PySem.Challenge.rw_schoollands_k59_whole_means_and_reports.Holds := by
  w_on; o_law; k_head; (case hw => w_witness2)
  k_fill
  refine TL.k59.walk (l := PySem.Challenge.rw_schoollands_k59_whole_means_and_reports) rfl rfl (fun w h Y => PySem.W.kIn_of Y) ?F
  case F =>
    intro w mg fa h KX G hmg
    refine' TL.k59.all_mk KX G hmg ?a0 ?l0 ?c0 ?k0 ?a1 ?l1 ?c1 ?k1 ?a2 ?l2 ?c2 ?k2 ?a3 ?l3 ?c3 ?k3 ?a4 ?l4 ?c4 ?k4 ?a5 ?l5 ?c5 ?k5 ?a6 ?l6 ?c6 ?k6 ?a7 ?l7 ?c7 ?k7 ?a8 ?l8 ?c8 ?k8 ?a9 ?l9 ?c9 ?k9 ?a10 ?l10 ?c10 ?k10 ?a11 ?l11 ?c11 ?k11 ?a12 ?l12 ?c12 ?k12 ?a13 ?l13 ?c13 ?k13 ?a14 ?l14 ?c14 ?k14 ?a15 ?l15 ?c15 ?k15 ?a16 ?l16 ?c16 ?k16 ?a17 ?l17 ?c17 ?k17 ?a18 ?l18 ?c18 ?k18 ?a19 ?l19 ?c19 ?k19 ?a20 ?l20 ?c20 ?k20 ?a21 ?l21 ?c21 ?k21 ?a22 ?l22 ?c22 ?k22 ?a23 ?l23 ?c23 ?k23 ?z_len ?z_range ?z_int ?z_isinstance ?z_str ?z_repr ?z_bool ?z_tuple ?z_list ?z_abs ?z_sum ?z_max ?z_sorted ?z_reversed ?z_zip ?z_enumerate ?i_gcd
    (case a0 => k_is); (case l0 => k_is); (case c0 => k_is); (case k0 => k_is); (case a1 => k_is); (case l1 => k_is); (case c1 => k_is); (case k1 => k_is)
    (case a2 => k_is); (case l2 => k_is); (case c2 => k_is); (case k2 => k_is); (case a3 => k_is); (case l3 => k_is); (case c3 => k_is); (case k3 => k_is)
    (case a4 => k_is); (case l4 => k_is); (case c4 => k_is); (case k4 => k_is); (case a5 => k_is); (case l5 => k_is); (case c5 => k_is); (case k5 => k_is)
    (case a6 => k_is); (case l6 => k_is); (case c6 => k_is); (case k6 => k_is); (case a7 => k_is); (case l7 => k_is); (case c7 => k_is); (case k7 => k_is)
    (case a8 => k_is); (case l8 => k_is); (case c8 => k_is); (case k8 => k_is); (case a9 => k_is); (case l9 => k_is); (case c9 => k_is); (case k9 => k_is)
    (case a10 => k_is); (case l10 => k_is); (case c10 => k_is); (case k10 => k_is); (case a11 => k_is); (case l11 => k_is); (case c11 => k_is); (case k11 => k_is)
    (case a12 => k_is); (case l12 => k_is); (case c12 => k_is); (case k12 => k_is); (case a13 => k_is); (case l13 => k_is); (case c13 => k_is); (case k13 => k_is)
    (case a14 => k_is); (case l14 => k_is); (case c14 => k_is); (case k14 => k_is); (case a15 => k_is); (case l15 => k_is); (case c15 => k_is); (case k15 => k_is)
    (case a16 => k_is); (case l16 => k_is); (case c16 => k_is); (case k16 => k_is); (case a17 => k_is); (case l17 => k_is); (case c17 => k_is); (case k17 => k_is)
    (case a18 => k_is); (case l18 => k_is); (case c18 => k_is); (case k18 => k_is); (case a19 => k_is); (case l19 => k_is); (case c19 => k_is); (case k19 => k_is)
    (case a20 => k_is); (case l20 => k_is); (case c20 => k_is); (case k20 => k_is); (case a21 => k_is); (case l21 => k_is); (case c21 => k_is); (case k21 => k_is)
    (case a22 => k_is); (case l22 => k_is); (case c22 => k_is); (case k22 => k_is); (case a23 => k_is); (case l23 => k_is); (case c23 => k_is); (case k23 => k_is)
    (case z_len => k_is); (case z_range => k_is); (case z_int => k_is); (case z_isinstance => k_is); (case z_str => k_is); (case z_repr => k_is); (case z_bool => k_is); (case z_tuple => k_is)
    (case z_list => k_is); (case z_abs => k_is); (case z_sum => k_is); (case z_max => k_is); (case z_sorted => k_is); (case z_reversed => k_is); (case z_zip => k_is); (case z_enumerate => k_is)
    (case i_gcd => k_is)
#print axioms PySem.Challenge.cw_schoollands_k59_whole_means_and_reports_holds
