import PyProof.Rows.All
import Wide.All
import OpenK.AllK
import Wide.FinOn
import HandS.ForMost
import HandS.Evl
import HandS.Lambda
import HandS.Deep
import HandS.TupAny
import HandS.SortInts
import HandS.RaiseMore
import HandS.SetFor
import HandS.Small
import HandS.IsInst
import HandS.Rev
import HandS.RevRange
import HandS.Zip
import HandS.Gcd
import PyProof.ListIndexNeg
import HandS.WideMore
import HandS.SetBool
import HandS.Strs
import HandS.Style
import HandS.Dict
import HandS.WordsDict
import HandS.TupLen
import PySem.Challenge.RW_schoollands_k49_whole_rooms_and_plans
set_option Elab.async false
set_option linter.all false
set_option maxRecDepth 100000
set_option maxHeartbeats 4000000
-- part TL1
/-! TL1: values as trees. Slots hold frozen trees, trees to be read, or one owned object; predicate transformers over such slots, lifted to the hand layer. -/
namespace TL
open PySem PySem.Spec L2
open Evl (Ex ex_l ex_t)

/-- the tables of code objects (for lambdas); norm: tuples stand as themselves -/
class Lay where
  T : List (Addr × Str)
  norm : Prop
variable [Lay]
abbrev D := PyData
def TpAt (K : PySem.W.Frag) (F : Hp) (a : Addr) (xs : List V) : Prop := F a = some (.tup xs) ∨ (¬ Lay.norm ∧ SqT K F a xs)
theorem TpAt.sq {K : PySem.W.Frag} {F : Hp} {a : Addr} {xs : List V} (h : TpAt K F a xs) : SqT K F a xs := h.elim Evl.st_of fun h => h.2
theorem TpAt.ext {K : PySem.W.Frag} {F F' : Hp} {a : Addr} {xs : List V} (e : Ex F F') (h : TpAt K F a xs) : TpAt K F' a xs := h.elim (fun h => .inl (e _ _ h)) fun h => .inr ⟨h.1, ex_t e h.2⟩
theorem TpAt.ex {K : PySem.W.Frag} {F : Hp} {a : Addr} {xs : List V} (hn : Lay.norm) (h : TpAt K F a xs) : F a = some (.tup xs) := h.resolve_right fun h => h.1 hn
/-- neither a table nor a code object -/
def NC (o : HO) : Prop := (∀ ps, o ≠ .tbl ps) ∧ ∀ c q, o ≠ LamX.CodeO c q
theorem nc_l {xs : List V} : NC (.lst xs) := ⟨fun _ z => (by cases z), fun c q z => (by unfold LamX.CodeO at z; cases z)⟩
theorem nc_k {xs : List (Key × V)} : NC (.dK xs) := ⟨fun _ z => (by cases z), fun c q z => (by unfold LamX.CodeO at z; cases z)⟩
theorem nc_t {xs : List (List Key × V)} : NC (.dT xs) := ⟨fun _ z => (by cases z), fun c q z => (by unfold LamX.CodeO at z; cases z)⟩
/-- the tables stand where one object alone is changed -/
theorem tabs_at {T : List (Addr × Str)} {H H' : Hp} {L : Addr} (t : LamX.Tabs T H) (n : ∀ o, H L = some o → NC o) (e : ∀ b, b ≠ L → H' b = H b) : LamX.Tabs T H' := fun p hp => by
  obtain ⟨ps, h1, h2, h3⟩ := t p hp
  refine ⟨ps, by rw [e _ fun z => (n _ (by rw [← z]; exact h1)).1 ps rfl]; exact h1, h2, fun pos cv hc => ?_⟩
  obtain ⟨c, e1, e2⟩ := h3 pos cv hc
  exact ⟨c, e1, by rw [e _ fun z => (n _ (by rw [← z]; exact e2)).2 _ _ rfl]; exact e2⟩
/-- no table -/
def NT (o : HO) : Prop := ∀ ps, o ≠ .tbl ps
theorem nt_l {xs : List V} : NT (.lst xs) := fun _ z => by cases z
theorem nt_k {xs : List (Key × V)} : NT (.dK xs) := fun _ z => by cases z
theorem nt_t {xs : List (List Key × V)} : NT (.dT xs) := fun _ z => by cases z
/-- the kind of an owned object: a list, a dict with int and text keys, a dict with tuple keys -/
inductive Kd | l | k | t
inductive Slot
  | un
  | fz (d : D)
  | rd (d : D)
  | ow (t : Option Addr) (κ : Kd) (d : D)
inductive Res
  | fz (d : D)
  | tm (κ : Kd) (d : D)
  | rd (d : D)
  | bo (i : Nat)
def kD : Key → D
  | .inl i => .int i
  | .inr x => .str x

mutual
/-- a frozen tree: its lists stand in F -/
inductive Dp (K : PySem.W.Frag) (F : Hp) : V → D → Prop
  | non : Dp K F .non .none
  | bl (b : Bool) : Dp K F (.bl b) (.bool b)
  | int (i : Int) : Dp K F (.int i) (.int i)
  | str (x : Str) : Dp K F (.str x) (.str x)
  | lst {a : Addr} {xs : List V} {ds : List D} : Rd F a (.lst xs) → DpAll K F xs ds → Dp K F (.ref a) (.list ds)
  | tup {a : Addr} {xs : List V} {ds : List D} : TpAt K F a xs → DpAll K F xs ds → Dp K F (.ref a) (.tuple ds)
  /-- the script, a thing of its own -/
  | scr {a : Addr} {ns : List Int} : SqL K F a (ns.map V.int) → Dp K F (.ref a) (.dict [(.list (ns.map .int), .none)])
inductive DpAll (K : PySem.W.Frag) (F : Hp) : List V → List D → Prop
  | nil : DpAll K F [] []
  | cons {v : V} {vs : List V} {d : D} {ds : List D} : Dp K F v d → DpAll K F vs ds → DpAll K F (v :: vs) (d :: ds)
end
section
variable {K : PySem.W.Frag} {F F' H H' : Hp}
theorem rd_ex {a : Addr} {u : HO} (e : Ex F F') (h : Rd F a u) : Rd F' a u := h.elim (fun h => .inl (e _ _ h)) fun ⟨o, h⟩ => .inr ⟨o, e _ _ h⟩
mutual
theorem dp_mono (e : Ex F F') : ∀ {v : V} {d : D}, Dp K F v d → Dp K F' v d
  | _, _, .non => .non
  | _, _, .bl b => .bl b
  | _, _, .int i => .int i
  | _, _, .str x => .str x
  | _, _, .lst h hs => .lst (rd_ex e h) (dpAll_mono e hs)
  | _, _, .tup h hs => .tup (h.ext e) (dpAll_mono e hs)
  | _, _, .scr h => .scr (ex_l e h)
theorem dpAll_mono (e : Ex F F') : ∀ {vs : List V} {ds : List D}, DpAll K F vs ds → DpAll K F' vs ds
  | _, _, .nil => .nil
  | _, _, .cons h hs => .cons (dp_mono e h) (dpAll_mono e hs)
end
mutual
theorem dp_l2 (e : Ex F H) : ∀ {v : V} {d : D}, Dp K F v d → d.canLay0 = true → L2.Dp K H v d
  | _, _, .non, _ => .non
  | _, _, .bl b, _ => .bl b
  | _, _, .int i, _ => .int i
  | _, _, .str x, _ => .str x
  | _, _, .lst h hs, c => .lst (.inl (rd_ex e h)) (dpAll_l2 e hs (by simpa [PyData.canLay0] using c))
  | _, _, .tup h hs, c => .tup (ex_t e h.sq) (dpAll_l2 e hs (by simpa [PyData.canLay0] using c))
  | _, _, .scr h, c => by simp [PyData.canLay0] at c
theorem dpAll_l2 (e : Ex F H) : ∀ {vs : List V} {ds : List D}, DpAll K F vs ds → PyData.canLayAll0 ds = true → L2.DpAll K H vs ds
  | _, _, .nil, _ => .nil
  | _, d :: ds, .cons h hs, c => by
    have c' : d.canLay0 = true ∧ PyData.canLayAll0 ds = true := by simpa [PyData.canLayAll0] using c
    exact .cons (dp_l2 e h c'.1) (dpAll_l2 e hs c'.2)
end
theorem dpAll_len : ∀ {vs : List V} {ds : List D}, DpAll K F vs ds → vs.length = ds.length
  | _, _, .nil => rfl
  | _, _, .cons _ h => by simp [dpAll_len h]
theorem dpAll_get : ∀ {vs : List V} {ds : List D} {i : Nat} {v : V}, DpAll K F vs ds → vs[i]? = some v → ∃ d, ds[i]? = some d ∧ Dp K F v d
  | _, _, i, v, .nil, e => by simp at e
  | _, _, 0, v, .cons h _, e => by simp at e; subst e; exact ⟨_, rfl, h⟩
  | _, _, i + 1, v, .cons _ h, e => by
    obtain ⟨d, h1, h2⟩ := dpAll_get (i := i) (v := v) h (by simpa using e)
    exact ⟨d, by simpa using h1, h2⟩
theorem dpAll_get' : ∀ {vs : List V} {ds : List D} {i : Nat} {d : D}, DpAll K F vs ds → ds[i]? = some d → ∃ v, vs[i]? = some v ∧ Dp K F v d
  | _, _, i, v, .nil, e => by simp at e
  | _, _, 0, v, .cons h _, e => by simp at e; subst e; exact ⟨_, rfl, h⟩
  | _, _, i + 1, v, .cons _ h, e => by
    obtain ⟨d, h1, h2⟩ := dpAll_get' (i := i) (d := v) h (by simpa using e)
    exact ⟨d, by simpa using h1, h2⟩
theorem dpAll_app : ∀ {vs ws : List V} {ds es : List D}, DpAll K F vs ds → DpAll K F ws es → DpAll K F (vs ++ ws) (ds ++ es)
  | _, _, _, _, .nil, h => h
  | _, _, _, _, .cons h hs, g => .cons h (dpAll_app hs g)
theorem dpAll_ints : ∀ {vs : List V} {ns : List Int}, DpAll K F vs (ns.map .int) → vs = ns.map .int
  | _, [], .nil => rfl
  | _, n :: ns, .cons h hs => by cases h; rw [dpAll_ints hs]; rfl
theorem dpAll_strs : ∀ {vs : List V} {ns : List Str}, DpAll K F vs (ns.map .str) → vs = ns.map .str
  | _, [], .nil => rfl
  | _, n :: ns, .cons h hs => by cases h; rw [dpAll_strs hs]; rfl
theorem dpAll_ints_mk : ∀ ns : List Int, DpAll K F (ns.map .int) (ns.map .int)
  | [] => .nil
  | n :: ns => .cons (.int n) (dpAll_ints_mk ns)
theorem dpAll_strs_mk : ∀ ns : List Str, DpAll K F (ns.map .str) (ns.map .str)
  | [] => .nil
  | n :: ns => .cons (.str n) (dpAll_strs_mk ns)
end
/-- b is owned by a slot -/
def OA (σ : L2.St) (ρ : List Slot) (b : Addr) : Prop := ∃ (i : Nat) (t : Option Addr) (κ : Kd) (d : D), ρ[i]? = some (.ow t κ d) ∧ σ[i]? = some (some (.ref b))
section
variable (K : PySem.W.Frag)
def OwAt (F H : Hp) (κ : Kd) (a : Addr) (d : D) : Prop := match κ with
  | .l => ∃ xs ds, d = .list ds ∧ H a = some (.lst xs) ∧ DpAll K F xs ds
  | .k => ∃ kvs ps, d = .dict ps ∧ H a = some (.dK kvs) ∧ Paired (fun (p : Key × V) (q : D × D) => q.1 = kD p.1 ∧ Dp K F p.2 q.2) kvs ps
  | .t => ∃ kvs ps, d = .dict ps ∧ H a = some (.dT kvs) ∧ Paired (fun (p : List Key × V) (q : D × D) => q.1 = .tuple (p.1.map kD) ∧ Dp K F p.2 q.2) kvs ps
def RdAt (F H : Hp) (v : V) (d : D) : Prop := Dp K F v d ∨ ∃ κ a, v = .ref a ∧ OwAt K F H κ a d
/-- .. and no slot owns it -/
def RdN (F H : Hp) (O : Addr → Prop) (v : V) (d : D) : Prop := Dp K F v d ∨ ∃ κ a, v = .ref a ∧ OwAt K F H κ a d ∧ ¬ O a
structure Sta (F H : Hp) (σ : L2.St) (ρ : List Slot) : Prop where
  sub : Ex F H
  len : σ.length = ρ.length
  fz : ∀ (i : Nat) (d : D), ρ[i]? = some (.fz d) → ∃ v, σ[i]? = some (some v) ∧ Dp K F v d
  rd : ∀ (i : Nat) (d : D), ρ[i]? = some (.rd d) → ∃ v, σ[i]? = some (some v) ∧ RdN K F H (OA σ ρ) v d
  ow : ∀ (i : Nat) (t : Option Addr) (κ : Kd) (d : D), ρ[i]? = some (.ow t κ d) → ∃ a, σ[i]? = some (some (.ref a)) ∧ OwAt K F H κ a d ∧ F a = none ∧ ∀ b, t = some b → b = a
  inj : ∀ (i j : Nat) (t t' : Option Addr) (κ κ' : Kd) (d d' : D) (a : Addr), ρ[i]? = some (.ow t κ d) → ρ[j]? = some (.ow t' κ' d') → σ[i]? = some (some (.ref a)) → σ[j]? = some (some (.ref a)) → i = j
  tab : LamX.Tabs Lay.T H
end
/-- what a piece of code may change -/
structure Tr (F H : Hp) (σ : L2.St) (ρ : List Slot) (F' H' : Hp) (σ' : L2.St) (ρ' : List Slot) : Prop where
  fext : Ex F F'
  keep : ∀ b o, H b = some o → NT o → ¬ OA σ ρ b → H' b = some o
  there : ∀ b o, H b = some o → ∃ o', H' b = some o'
  own : ∀ b, OA σ' ρ' b → OA σ ρ b ∨ H b = none
  fnew : ∀ b o, F' b = some o → F b = some o ∨ H b = none ∨ OA σ ρ b
section
variable {K : PySem.W.Frag} {F F' F1 F2 H H' H1 H2 : Hp} {σ σ' σ1 σ2 : L2.St} {ρ ρ' ρ1 ρ2 : List Slot}
theorem Tr.refl : Tr F H σ ρ F H σ ρ := ⟨Ex.refl F, fun _ _ h _ _ => h, fun _ o h => ⟨o, h⟩, fun _ h => .inl h, fun _ _ h => .inl h⟩
theorem Tr.trans (a : Tr F H σ ρ F1 H1 σ1 ρ1) (b : Tr F1 H1 σ1 ρ1 F2 H2 σ2 ρ2) : Tr F H σ ρ F2 H2 σ2 ρ2 := by
  have nn : ∀ c, H1 c = none → H c = none := fun c h => by
    cases e : H c with
    | none => rfl
    | some o =>
      obtain ⟨o', h'⟩ := a.there c o e
      rw [h] at h'; cases h'
  refine ⟨a.fext.trans b.fext, fun c o h nt n => ?_, fun c o h => ?_, fun c h => ?_, fun c o h => ?_⟩
  · refine b.keep c o (a.keep c o h nt n) nt fun z => ?_
    rcases a.own c z with y | y
    · exact n y
    · rw [h] at y; cases y
  · obtain ⟨o', h'⟩ := a.there c o h
    exact b.there c o' h'
  · rcases b.own c h with y | y
    · exact a.own c y
    · exact .inr (nn c y)
  · rcases b.fnew c o h with y | y | y
    · exact a.fnew c o y
    · exact .inr (.inl (nn c y))
    · rcases a.own c y with z | z
      · exact .inr (.inr z)
      · exact .inr (.inl z)
theorem Tr.none (a : Tr F H σ ρ F1 H1 σ1 ρ1) {c : Addr} (h : H1 c = none) : H c = none := by
  cases e : H c with
  | none => rfl
  | some o =>
    obtain ⟨o', h'⟩ := a.there c o e
    rw [h] at h'; cases h'
/-- what an expression may change: the names stand for what they stood for -/
structure TrX (F H : Hp) (σ : L2.St) (ρ : List Slot) (F' H' : Hp) (ρ' : List Slot) : Prop extends Tr F H σ ρ F' H' σ ρ' where
  slow : ∀ (i : Nat) (t : Option Addr) (κ : Kd) (d : D), ρ'[i]? = some (.ow t κ d) → ∃ d0, ρ[i]? = some (.ow t κ d0)
  slrd : ∀ (i : Nat) (d : D), ρ'[i]? = some (.rd d) → ρ[i]? = some (.rd d) ∨ ∃ t κ d0, ρ[i]? = some (.ow t κ d0)
instance : Coe (TrX F H σ ρ F' H' ρ') (Tr F H σ ρ F' H' σ ρ') := ⟨TrX.toTr⟩
theorem TrX.refl : TrX F H σ ρ F H ρ := ⟨Tr.refl, fun _ _ _ d h => ⟨d, h⟩, fun _ _ h => .inl h⟩
theorem TrX.trans (a : TrX F H σ ρ F1 H1 ρ1) (b : TrX F1 H1 σ ρ1 F2 H2 ρ2) : TrX F H σ ρ F2 H2 ρ2 := by
  refine ⟨a.toTr.trans b.toTr, fun i t κ d h => ?_, fun i d h => ?_⟩
  · obtain ⟨d1, h1⟩ := b.slow i t κ d h
    exact a.slow i t κ d1 h1
  · rcases b.slrd i d h with h1 | ⟨t, κ, d1, h1⟩
    · exact a.slrd i d h1
    · obtain ⟨d2, h2⟩ := a.slow i t κ d1 h1
      exact .inr ⟨t, κ, d2, h2⟩
theorem TrX.none (a : TrX F H σ ρ F1 H1 ρ1) {c : Addr} (h : H1 c = none) : H c = none := a.toTr.none h
theorem OwAt.some {κ : Kd} {a : Addr} {d : D} (h : OwAt K F H κ a d) : ∃ o, H a = some o := by
  cases κ with
  | l => obtain ⟨_, _, _, e, _⟩ := h; exact ⟨_, e⟩
  | k => obtain ⟨_, _, _, e, _⟩ := h; exact ⟨_, e⟩
  | t => obtain ⟨_, _, _, e, _⟩ := h; exact ⟨_, e⟩
theorem OwAt.nc {κ : Kd} {a : Addr} {d : D} (h : OwAt K F H κ a d) : ∀ o, H a = .some o → NC o := fun o e => by
  cases κ with
  | l => obtain ⟨_, _, _, q, _⟩ := h; rw [q] at e; cases e; exact nc_l
  | k => obtain ⟨_, _, _, q, _⟩ := h; rw [q] at e; cases e; exact nc_k
  | t => obtain ⟨_, _, _, q, _⟩ := h; rw [q] at e; cases e; exact nc_t
theorem OwAt.mono {κ : Kd} {a : Addr} {d : D} (h : OwAt K F H κ a d) (e : Ex F F') (k : ∀ o, NT o → H a = .some o → H' a = .some o) : OwAt K F' H' κ a d := by
  cases κ with
  | l => obtain ⟨xs, ds, rfl, q, r⟩ := h; exact ⟨xs, ds, rfl, k _ nt_l q, dpAll_mono e r⟩
  | k => obtain ⟨xs, ds, rfl, q, r⟩ := h; exact ⟨xs, ds, rfl, k _ nt_k q, Paired.mapP r fun _ _ z => ⟨z.1, dp_mono e z.2⟩⟩
  | t => obtain ⟨xs, ds, rfl, q, r⟩ := h; exact ⟨xs, ds, rfl, k _ nt_t q, Paired.mapP r fun _ _ z => ⟨z.1, dp_mono e z.2⟩⟩
theorem RdAt.mono {v : V} {d : D} (h : RdAt K F H v d) (e : Ex F F') (k : ∀ a o, NT o → v = .ref a → H a = .some o → H' a = .some o) : RdAt K F' H' v d := by
  rcases h with h | ⟨κ, a, rfl, h⟩
  · exact .inl (dp_mono e h)
  · exact .inr ⟨κ, a, rfl, h.mono e fun o nt q => k a o nt rfl q⟩
theorem RdN.at {O : Addr → Prop} {v : V} {d : D} (h : RdN K F H O v d) : RdAt K F H v d := by
  rcases h with h | ⟨κ, a, e, h, _⟩
  · exact .inl h
  · exact .inr ⟨κ, a, e, h⟩
theorem RdN.later {v : V} {d : D} (h : RdN K F1 H1 (OA σ1 ρ1) v d) (t : Tr F1 H1 σ1 ρ1 F2 H2 σ2 ρ2) : RdN K F2 H2 (OA σ2 ρ2) v d := by
  rcases h with h | ⟨κ, a, e, h, n⟩
  · exact .inl (dp_mono t.fext h)
  · obtain ⟨o, e'⟩ := h.some
    refine .inr ⟨κ, a, e, h.mono t.fext fun o nt q => t.keep _ _ q nt n, fun z => ?_⟩
    rcases t.own a z with y | y
    · exact n y
    · rw [e'] at y; cases y

section
variable (K)
/-- a result lies at v; H0: the heap ahead of its making -/
def Fits (F H : Hp) (σ : L2.St) (ρ : List Slot) (H0 : Hp) (v : V) : Res → Prop
  | .fz d => Dp K F v d
  | .tm κ d => ∃ a, v = .ref a ∧ OwAt K F H κ a d ∧ F a = none ∧ ¬ OA σ ρ a ∧ H0 a = none
  | .rd d => RdN K F H (OA σ ρ) v d
  | .bo i => σ[i]? = some (some v)
end
theorem Fits.later {H0 : Hp} {v : V} {r : Res} (f : Fits K F1 H1 σ ρ1 H0 v r) (t : Tr F1 H1 σ ρ1 F2 H2 σ ρ2) : Fits K F2 H2 σ ρ2 H0 v r := by
  cases r with
  | fz d => exact dp_mono t.fext f
  | tm κ d =>
    obtain ⟨a, rfl, h, hn, ho, h0⟩ := f
    obtain ⟨o, e⟩ := h.some
    refine ⟨a, rfl, h.mono t.fext fun o nt q => t.keep _ _ q nt ho, ?_, fun z => ?_, h0⟩
    · cases q : F2 a with
      | none => rfl
      | some u =>
        rcases t.fnew a u q with y | y | y
        · rw [hn] at y; cases y
        · rw [e] at y; cases y
        · exact absurd y ho
    · rcases t.own a z with y | y
      · exact ho y
      · rw [e] at y; cases y
  | rd d => exact RdN.later f t
  | bo i => exact f
end
end TL

-- part TL2
/-! TL2: transformers over slots, lifted; expressions, tests, small statements. -/
namespace TL
open PySem PySem.Spec L2
open Evl (Ex ex_l ex_t)
variable [Lay]

abbrev DTE := List Slot → (Res → List Slot → Prop) → Prop
abbrev DTT := List Slot → (Bool → List Slot → Prop) → Prop
abbrev DTA := List Slot → (List Res → List Slot → Prop) → Prop
structure DEnds where
  nx : List Slot → Prop
  rt : Res → List Slot → Prop
  bk : List Slot → Prop := fun _ => False
  ct : List Slot → Prop := fun _ => False
abbrev DTS := DEnds → List Slot → Prop
/-- the content of a result -/
@[simp] def wc (r : Res) (ρ : List Slot) (k : D → Prop) : Prop := match r with
  | .fz d => k d
  | .tm _ d => k d
  | .rd d => k d
  | .bo i => match ρ[i]? with
    | some (.ow _ _ d) => k d
    | some (.fz d) => k d
    | _ => False
section
variable (K : PySem.W.Frag)
def FitsAll (F H : Hp) (σ : L2.St) (ρ : List Slot) (H0 : Hp) : List V → List Res → Prop
  | [], [] => True
  | v :: vs, r :: rs => Fits K F H σ ρ H0 v r ∧ FitsAll F H σ ρ H0 vs rs
  | _, _ => False
def up (d : DTE) : TE := fun σ H Q => ∃ F ρ k, Sta K F H σ ρ ∧ d ρ k ∧ ∀ r ρ' v F' H', k r ρ' → Sta K F' H' σ ρ' → TrX F H σ ρ F' H' ρ' → Fits K F' H' σ ρ' H v r → Q v H'
def upT (d : DTT) : TT := fun σ H Q => ∃ F ρ k, Sta K F H σ ρ ∧ d ρ k ∧ ∀ b ρ' F' H', k b ρ' → Sta K F' H' σ ρ' → TrX F H σ ρ F' H' ρ' → Q b H'
def upA (d : DTA) : TA := fun σ H Q => ∃ F ρ k, Sta K F H σ ρ ∧ d ρ k ∧ ∀ rs ρ' vs F' H', k rs ρ' → Sta K F' H' σ ρ' → TrX F H σ ρ F' H' ρ' → FitsAll K F' H' σ ρ' H vs rs → Q vs H'
def upS (d : DTS) : TS := fun E σ H => ∃ F ρ G, Sta K F H σ ρ ∧ d G ρ ∧
  (∀ σ' ρ' F' H', G.nx ρ' → Sta K F' H' σ' ρ' → Tr F H σ ρ F' H' σ' ρ' → E.nx σ' H') ∧
  (∀ r σ' ρ' v F' H', G.rt r ρ' → Sta K F' H' σ' ρ' → Tr F H σ ρ F' H' σ' ρ' → Fits K F' H' σ' ρ' H v r → E.rt v H') ∧
  (∀ σ' ρ' F' H', G.bk ρ' → Sta K F' H' σ' ρ' → Tr F H σ ρ F' H' σ' ρ' → E.bk σ' H') ∧
  (∀ σ' ρ' F' H', G.ct ρ' → Sta K F' H' σ' ρ' → Tr F H σ ρ F' H' σ' ρ' → E.ct σ' H')
end
def DE (X : Cx) (e : Expr) (d : DTE) : Prop := PE X e (up X.K d)
def DT (X : Cx) (e : Expr) (d : DTT) : Prop := PT X e (upT X.K d)
def DW (X : Cx) (e : Expr) (d : DTT) : Prop := PW X e (upT X.K d)
def DA (X : Cx) (es : List Expr) (d : DTA) : Prop := PA X es (upA X.K d)
def DS (X : Cx) (st : Stmt) (d : DTS) : Prop := PS X st (upS X.K d)
def DSs (X : Cx) (st : List Stmt) (d : DTS) : Prop := PSs X st (upS X.K d)

section
variable {X : Cx} {a b c e : Expr} {pos : Pos}
theorem PE.le {t u : TE} (h : PE X e t) (w : ∀ σ H Q, u σ H Q → t σ H Q) : PE X e u := ⟨fun pins s σ H Q I q => h.run pins s σ H Q I (w _ _ _ q)⟩
theorem PT.le {t u : TT} (h : PT X e t) (w : ∀ σ H Q, u σ H Q → t σ H Q) : PT X e u := ⟨fun pins s σ H Q I q => h.run pins s σ H Q I (w _ _ _ q)⟩
theorem PW.le {t u : TT} (h : PW X e t) (w : ∀ σ H Q, u σ H Q → t σ H Q) : PW X e u := ⟨fun wh pins s σ H Q I q => h.run wh pins s σ H Q I (w _ _ _ q)⟩
theorem PA.le {es : List Expr} {t u : TA} (h : PA X es t) (w : ∀ σ H Q, u σ H Q → t σ H Q) : PA X es u := ⟨fun po pins s σ H Q I q => h.run po pins s σ H Q I (w _ _ _ q)⟩
theorem PS.le {st : Stmt} {t u : TS} (h : PS X st t) (w : ∀ E σ H, u E σ H → t E σ H) : PS X st u := ⟨fun pins s σ H E I q => h.run pins s σ H E I (w _ _ _ q)⟩
theorem PSs.le {st : List Stmt} {t u : TS} (h : PSs X st t) (w : ∀ E σ H, u E σ H → t E σ H) : PSs X st u := ⟨fun pins s σ H E I q => h.run pins s σ H E I (w _ _ _ q)⟩
end

section
variable {K : PySem.W.Frag} {F F' F1 F2 H H' H0 H1 H2 : Hp} {σ σ' σ1 σ2 : L2.St} {ρ ρ' ρ1 ρ2 : List Slot}
theorem wc_rd {v : V} {r : Res} {k : D → Prop} (S : Sta K F H σ ρ) (f : Fits K F H σ ρ H0 v r) (h : wc r ρ k) : ∃ d, RdAt K F H v d ∧ k d := by
  cases r with
  | fz d => exact ⟨d, .inl f, h⟩
  | tm κ d =>
    obtain ⟨a, rfl, q, _⟩ := f
    exact ⟨d, .inr ⟨κ, a, rfl, q⟩, h⟩
  | rd d => exact ⟨d, RdN.at f, h⟩
  | bo i =>
    have f : σ[i]? = some (some v) := f
    unfold wc at h
    simp only at h
    split at h
    · rename_i t κ d e
      obtain ⟨a, e1, q, _⟩ := S.ow i t κ d e
      rw [f] at e1
      cases e1
      exact ⟨d, .inr ⟨κ, a, rfl, q⟩, h⟩
    · rename_i d e
      obtain ⟨v', e1, q⟩ := S.fz i d e
      rw [f] at e1
      cases e1
      exact ⟨d, .inl q, h⟩
    · exact h.elim
theorem FitsAll.later {vs : List V} : ∀ {rs : List Res}, FitsAll K F1 H1 σ ρ1 H0 vs rs → Tr F1 H1 σ ρ1 F2 H2 σ ρ2 → FitsAll K F2 H2 σ ρ2 H0 vs rs := by
  induction vs with
  | nil => intro rs h t; cases rs with
    | nil => exact h
    | cons => exact h
  | cons v vs ih => intro rs h t; cases rs with
    | nil => exact h
    | cons r rs => exact ⟨h.1.later t, ih h.2 t⟩
/-- fits relative to an earlier heap -/
theorem Fits.back {v : V} {r : Res} (f : Fits K F2 H2 σ ρ2 H1 v r) (t : ∀ c, H1 c = none → H0 c = none) : Fits K F2 H2 σ ρ2 H0 v r := by
  cases r with
  | fz d => exact f
  | tm κ d => obtain ⟨a, e, h, n, o, z⟩ := f; exact ⟨a, e, h, n, o, t _ z⟩
  | rd d => exact f
  | bo i => exact f
theorem FitsAll.back {vs : List V} : ∀ {rs : List Res}, FitsAll K F2 H2 σ ρ2 H1 vs rs → (∀ c, H1 c = none → H0 c = none) → FitsAll K F2 H2 σ ρ2 H0 vs rs := by
  induction vs with
  | nil => intro rs h t; cases rs with
    | nil => exact h
    | cons => exact h
  | cons v vs ih => intro rs h t; cases rs with
    | nil => exact h
    | cons r rs => exact ⟨h.1.back t, ih h.2 t⟩
end

/-! ### operations on contents -/
section
variable (K : PySem.W.Frag)
/-- what an operation makes: nothing that stood is changed -/
structure New (F H F' H' : Hp) (v : V) (z : Res) : Prop where
  fext : Ex F F'
  hext : Ex H H'
  sub : Ex F' H'
  fnew : ∀ b o, F' b = some o → F b = some o ∨ H b = none
  fit : match z with
    | .fz d => Dp K F' v d
    | .tm κ d => ∃ a, v = .ref a ∧ OwAt K F' H' κ a d ∧ F' a = none ∧ H a = none
    | _ => False
def r2 (g : D → D → (Res → Prop) → Prop) : R2 := fun x y H Q => ∃ F dx dy k, Ex F H ∧ RdAt K F H x dx ∧ RdAt K F H y dy ∧ g dx dy k ∧ ∀ z v F' H', k z → New K F H F' H' v z → Q v H'
def r1 (g : D → (Res → Prop) → Prop) : V → Hp → VK → Prop := fun x H Q => ∃ F dx k, Ex F H ∧ RdAt K F H x dx ∧ g dx k ∧ ∀ z v F' H', k z → New K F H F' H' v z → Q v H'
inductive RdAll (F H : Hp) : List V → List D → Prop
  | nil : RdAll F H [] []
  | cons {v vs d ds} : RdAt K F H v d → RdAll F H vs ds → RdAll F H (v :: vs) (d :: ds)
def rn (g : List D → (Res → Prop) → Prop) : List V → Hp → VK → Prop := fun xs H Q => ∃ F ds k, Ex F H ∧ RdAll K F H xs ds ∧ g ds k ∧ ∀ z v F' H', k z → New K F H F' H' v z → Q v H'
def rm (g : D → List D → (Res → Prop) → Prop) : V → List V → Hp → VK → Prop := fun x xs H Q => ∃ F d ds k, Ex F H ∧ RdAt K F H x d ∧ RdAll K F H xs ds ∧ g d ds k ∧ ∀ z v F' H', k z → New K F H F' H' v z → Q v H'
end
section
variable {K : PySem.W.Frag} {F F' F1 F2 H H' H0 H1 H2 : Hp} {σ σ' σ1 σ2 : L2.St} {ρ ρ' ρ1 ρ2 : List Slot}
theorem New.tr {v : V} {z : Res} (n : New K F H F' H' v z) : TrX F H σ ρ F' H' ρ :=
  ⟨⟨n.fext, fun b o h _ _ => n.hext b o h, fun b o h => ⟨o, n.hext b o h⟩, fun _ h => .inl h, fun b o h => (n.fnew b o h).imp id .inl⟩, fun _ _ _ d h => ⟨d, h⟩, fun _ _ h => .inl h⟩
theorem Sta.grow {F' H' : Hp} (S : Sta K F H σ ρ) (fext : Ex F F') (hext : Ex H H') (sub : Ex F' H') (fnew : ∀ b o, F' b = some o → F b = some o ∨ H b = none) : Sta K F' H' σ ρ := by
  refine ⟨sub, S.len, fun i d e => ?_, fun i d e => ?_, fun i t κ d e => ?_, S.inj, S.tab.ext hext⟩
  · obtain ⟨v, q, r⟩ := S.fz i d e
    exact ⟨v, q, dp_mono fext r⟩
  · obtain ⟨v, q, r⟩ := S.rd i d e
    refine ⟨v, q, ?_⟩
    rcases r with r | ⟨κ, a, e', r, n⟩
    · exact .inl (dp_mono fext r)
    · exact .inr ⟨κ, a, e', r.mono fext fun o _ q => hext _ _ q, n⟩
  · obtain ⟨a, q, r, n, tt⟩ := S.ow i t κ d e
    refine ⟨a, q, r.mono fext fun o _ q => hext _ _ q, ?_, tt⟩
    obtain ⟨o, ho⟩ := r.some
    cases q' : F' a with
    | none => rfl
    | some u =>
      rcases fnew a u q' with y | y
      · rw [n] at y; cases y
      · rw [ho] at y; cases y
theorem New.sta {v : V} {z : Res} (n : New K F H F' H' v z) (S : Sta K F H σ ρ) : Sta K F' H' σ ρ := S.grow n.fext n.hext n.sub n.fnew
theorem New.fits {v : V} {z : Res} (n : New K F H F' H' v z) (S : Sta K F H σ ρ) (h0 : ∀ c, H c = none → H0 c = none) : Fits K F' H' σ ρ H0 v z := by
  have f := n.fit
  cases z with
  | fz d => exact f
  | tm κ d =>
    obtain ⟨a, e, q, r, s⟩ := f
    refine ⟨a, e, q, r, fun ⟨i, t, κ', d', h1, h2⟩ => ?_, h0 a s⟩
    obtain ⟨a', e1, q1, _⟩ := S.ow i t κ' d' h1
    rw [h2] at e1
    cases e1
    obtain ⟨o, ho⟩ := q1.some
    rw [s] at ho
    cases ho
  | rd d => exact f.elim
  | bo i => exact f.elim
/-- nothing new but a value -/
theorem New.val {v : V} {d : D} (s : Ex F H) (f : Dp K F v d) : New K F H F H v (.fz d) := ⟨Ex.refl F, Ex.refl H, s, fun _ _ h => .inl h, f⟩
/-- a new owned list -/
theorem New.list {p : Addr} {xs : List V} {ds : List D} (s : Ex F H) (hp : H p = none) (f : DpAll K F xs ds) : New K F H F (upd H p (.lst xs)) (.ref p) (.tm .l (.list ds)) := by
  have fp : F p = none := by
    cases e : F p with
    | none => rfl
    | some o => rw [s p o e] at hp; cases hp
  exact ⟨Ex.refl F, Ex.new hp, s.trans (Ex.new hp), fun _ _ h => .inl h, p, rfl, ⟨xs, ds, rfl, upd_same, f⟩, fp, hp⟩
/-- a new frozen tuple -/
theorem New.tuple {p : Addr} {xs : List V} {ds : List D} (s : Ex F H) (hp : H p = none) (f : DpAll K F xs ds) : New K F H (upd F p (.tup xs)) (upd H p (.tup xs)) (.ref p) (.fz (.tuple ds)) := by
  have fp : F p = none := by
    cases e : F p with
    | none => rfl
    | some o => rw [s p o e] at hp; cases hp
  refine ⟨Ex.new fp, Ex.new hp, fun b o h => ?_, fun b o h => ?_, .tup (.inl upd_same) (dpAll_mono (Ex.new fp) f)⟩
  · by_cases e : b = p
    · subst e; rw [upd_same] at h ⊢; exact h
    · rw [upd_ne e] at h ⊢; exact s b o h
  · by_cases e : b = p
    · subst e; exact .inr hp
    · rw [upd_ne e] at h; exact .inl h
end

/-! ### expressions -/
@[simp] def dName (i : Nat) : DTE := fun ρ k => match ρ[i]? with
  | some (.fz d) => k (.fz d) ρ
  | some (.rd d) => k (.rd d) ρ
  | some (.ow _ _ _) => k (.bo i) ρ
  | _ => False
@[simp] def dC (d : D) : DTE := fun ρ k => k (.fz d) ρ
@[simp] def dBin (g : D → D → (Res → Prop) → Prop) (da db : DTE) : DTE := fun ρ k => da ρ fun x ρ1 => db ρ1 fun y ρ2 => wc x ρ2 fun dx => wc y ρ2 fun dy => g dx dy fun z => k z ρ2
@[simp] def dUn (g : D → (Res → Prop) → Prop) (da : DTE) : DTE := fun ρ k => da ρ fun x ρ1 => wc x ρ1 fun dx => g dx fun z => k z ρ1
@[simp] def dTest (d : DTE) : DTT := fun ρ k => d ρ fun r ρ1 => match r with
  | .fz (.bool b) => k b ρ1
  | _ => False
@[simp] def dAnd (t u : DTT) : DTT := fun ρ k => t ρ fun b ρ1 => if b = true then u ρ1 k else k false ρ1
@[simp] def dOr (t u : DTT) : DTT := fun ρ k => t ρ fun b ρ1 => if b = true then k true ρ1 else u ρ1 k
@[simp] def dNot (t : DTT) : DTT := fun ρ k => t ρ fun b ρ1 => k (!b) ρ1
/-- and, or, not as values that are bools -/
@[simp] def dAndV (da db : DTE) : DTE := fun ρ k => dTest da ρ fun b ρ1 => if b = true then db ρ1 k else k (.fz (.bool false)) ρ1
@[simp] def dOrV (da db : DTE) : DTE := fun ρ k => dTest da ρ fun b ρ1 => if b = true then k (.fz (.bool true)) ρ1 else db ρ1 k
@[simp] def dNotV (da : DTE) : DTE := fun ρ k => dTest da ρ fun b ρ1 => k (.fz (.bool !b)) ρ1
@[simp] def dIf (t : DTT) (da db : DTE) : DTE := fun ρ k => t ρ fun b ρ1 => if b = true then da ρ1 k else db ρ1 k
@[simp] def dChain (g g' : D → D → (Res → Prop) → Prop) (da db dc : DTE) : DTE := fun ρ k => da ρ fun x ρ1 => db ρ1 fun y ρ2 => wc x ρ2 fun dx => wc y ρ2 fun dy => g dx dy fun z => match z with
  | .fz (.bool b) => if b = true then dc ρ2 (fun w ρ3 => wc y ρ3 fun dy => wc w ρ3 fun dw => g' dy dw fun z => k z ρ3) else k (.fz (.bool false)) ρ2
  | _ => False
@[simp] def dNil : DTA := fun ρ k => k [] ρ
@[simp] def dCons (da : DTE) (dr : DTA) : DTA := fun ρ k => da ρ fun x ρ1 => dr ρ1 fun xs ρ2 => k (x :: xs) ρ2
@[simp] def isN (d : D) : Bool := match d with | .none => true | _ => false
@[simp] def gIsN (d : D) (k : Res → Prop) : Prop := k (.fz (.bool (isN d)))
@[simp] def gNotN (d : D) (k : Res → Prop) : Prop := k (.fz (.bool (!isN d)))

section
variable {X : Cx} {a b c e : Expr} {es : List Expr} {pos : Pos} {da db dc : DTE} {ta tb : DTT}
theorem de_name {x : Str} {i : Nat} (h : PE X (.Name x pos) (tVar i)) : DE X (.Name x pos) (dName i) := PE.le h fun σ H Q ⟨F, ρ, k, S, q, fin⟩ => by
  unfold dName at q
  split at q
  · rename_i d e
    obtain ⟨v, e1, r⟩ := S.fz i d e
    exact ⟨v, e1, fin _ _ v F H q S .refl r⟩
  · rename_i d e
    obtain ⟨v, e1, r⟩ := S.rd i d e
    exact ⟨v, e1, fin _ _ v F H q S .refl r⟩
  · rename_i t κ d e
    obtain ⟨a, e1, r⟩ := S.ow i t κ d e
    exact ⟨.ref a, e1, fin _ _ _ F H q S .refl e1⟩
  · exact q.elim
theorem de_c {v : V} {d : D} (h : PE X e (tC v)) (hv : ∀ K F, Dp K F v d) : DE X e (dC d) := PE.le h fun σ H Q ⟨F, ρ, k, S, q, fin⟩ =>
  fin _ _ v F H q S .refl (hv _ _)
theorem de_int {i : Int} {j : Nat} : DE X (.Constant (.int i) j pos) (dC (.int i)) := de_c pe_int fun _ _ => .int i
theorem de_bl {i : Bool} {j : Nat} : DE X (.Constant (.bool i) j pos) (dC (.bool i)) := de_c pe_bl fun _ _ => .bl i
theorem de_str {i : Str} {j : Nat} : DE X (.Constant (.str i) j pos) (dC (.str i)) := de_c pe_str fun _ _ => .str i
theorem de_non {j : Nat} : DE X (.Constant .none j pos) (dC .none) := de_c pe_non fun _ _ => .non
/-- two in a row -/
theorem up2 {K : PySem.W.Frag} {σ : L2.St} {H : Hp} {R : V → V → Hp → Prop} {F : Hp} {ρ : List Slot} {k : Res → Res → List Slot → Prop} (S : Sta K F H σ ρ) (h : da ρ fun x ρ1 => db ρ1 fun y ρ2 => k x y ρ2)
    (fin : ∀ x y ρ' v u F' H', k x y ρ' → Sta K F' H' σ ρ' → TrX F H σ ρ F' H' ρ' → Fits K F' H' σ ρ' H v x → Fits K F' H' σ ρ' H u y → R v u H') :
    up K da σ H fun x H1 => up K db σ H1 fun y H2 => R x y H2 :=
  ⟨F, ρ, _, S, h, fun x ρ1 v F1 H1 q1 S1 T1 f1 => ⟨F1, ρ1, _, S1, q1, fun y ρ2 u F2 H2 q2 S2 T2 f2 =>
    fin x y ρ2 v u F2 H2 q2 S2 (T1.trans T2) (f1.later T2) (f2.back fun _ z => T1.none z)⟩⟩
/-- an operation's answer -/
theorem op2_fin {K : PySem.W.Frag} {σ : L2.St} {H H0 F : Hp} {ρ : List Slot} {x y : Res} {v u : V} {g : D → D → (Res → Prop) → Prop} {k : Res → List Slot → Prop} {Q : VK} {F0 : Hp} {ρ0 : List Slot}
    (q : wc x ρ fun dx => wc y ρ fun dy => g dx dy fun z => k z ρ) (S : Sta K F H σ ρ) (T : TrX F0 H0 σ ρ0 F H ρ) (f1 : Fits K F H σ ρ H0 v x) (f2 : Fits K F H σ ρ H0 u y)
    (fin : ∀ r ρ' v F' H', k r ρ' → Sta K F' H' σ ρ' → TrX F0 H0 σ ρ0 F' H' ρ' → Fits K F' H' σ ρ' H0 v r → Q v H') : r2 K g v u H Q := by
  obtain ⟨dx, r1, q⟩ := wc_rd S f1 q
  obtain ⟨dy, r2, q⟩ := wc_rd S f2 q
  exact ⟨F, dx, dy, _, S.sub, r1, r2, q, fun z w F' H' kz n => fin z ρ w F' H' kz (n.sta S) (T.trans n.tr) (n.fits S fun _ z => T.none z)⟩
theorem de_op {op : Operator} {g : D → D → (Res → Prop) → Prop} (ho : OpR X (binaryOp op) (r2 X.K g)) (ha : DE X a da) (hb : DE X b db) : DE X (.BinOp a op b pos) (dBin g da db) :=
  PE.le (pe_op ho ha hb) fun σ H Q ⟨F, ρ, k, S, q, fin⟩ => up2 S q fun x y ρ' v u F' H' q S' T f1 f2 => op2_fin q S' T f1 f2 fin
theorem de_cmp {op : CmpOp} {g : D → D → (Res → Prop) → Prop} (ho : OpR X (compareOp op) (r2 X.K g)) (ha : DE X a da) (hb : DE X b db) (hm : behindInMarks op b = false := by first | exact nobehind _ (by decide) (by decide) | rfl) : DE X (.Compare a [op] [b] pos) (dBin g da db) :=
  PE.le (pe_cmpR ho ha hb hm) fun σ H Q ⟨F, ρ, k, S, q, fin⟩ => up2 S q fun x y ρ' v u F' H' q S' T f1 f2 => op2_fin q S' T f1 f2 fin
theorem de_un {op : UnaryOp} {g : D → (Res → Prop) → Prop} (ho : UnR X (unaryOp op) (r1 X.K g)) (ha : DE X a da) : DE X (.UnaryOp op a pos) (dUn g da) :=
  PE.le (pe_un ho ha) fun σ H Q ⟨F, ρ, k, S, q, fin⟩ => ⟨F, ρ, _, S, q, fun x ρ1 v F1 H1 q1 S1 T1 f1 => by
    obtain ⟨dx, r1, q1⟩ := wc_rd S1 f1 q1
    exact ⟨F1, dx, _, S1.sub, r1, q1, fun z w F' H' kz n => fin z ρ1 w F' H' kz (n.sta S1) (T1.trans n.tr) (n.fits S1 fun _ z => T1.none z)⟩⟩
/-- the test of a bool -/
theorem up_test {K : PySem.W.Frag} {d : DTE} {σ : L2.St} {H : Hp} {Q : Bool → Hp → Prop} (h : upT K (dTest d) σ H Q) : up K d σ H fun x H1 => ∃ c, x = .bl c ∧ Q c H1 := by
  obtain ⟨F, ρ, k, S, q, fin⟩ := h
  refine ⟨F, ρ, _, S, q, fun r ρ' v F' H' q S' T f => ?_⟩
  split at q
  · rename_i b
    have f : Dp K F' v (.bool b) := f
    cases f
    exact ⟨b, rfl, fin _ _ _ _ q S' T⟩
  · exact q.elim
theorem dt_cmp {op : CmpOp} {g : D → D → (Res → Prop) → Prop} (ho : OpR X (compareOp op) (r2 X.K g)) (ha : DE X a da) (hb : DE X b db) (hm : behindInMarks op b = false := by first | exact nobehind _ (by decide) (by decide) | rfl) : DT X (.Compare a [op] [b] pos) (dTest (dBin g da db)) :=
  PT.le (pt_cmpR ho ha hb hm) fun σ H Q h => by
    obtain ⟨F, ρ, k, S, q, fin⟩ := up_test h
    exact up2 S q fun x y ρ' v u F' H' q S' T f1 f2 => op2_fin q S' T f1 f2 fin
theorem dt_val (h : DE X e da) (he : ∀ whole, isTrue e X.env whole = (do let v ← whole; standAt e.pos; holding [v] (truthy v)) := by intro _; rfl) : DT X e (dTest da) :=
  PT.le (pt_val h he) fun σ H Q h => up_test h
theorem de_chain {op op' : CmpOp} {g g' : D → D → (Res → Prop) → Prop} (ho : OpR X (compareOp op) (r2 X.K g)) (ho' : OpR X (compareOp op') (r2 X.K g')) (ha : DE X a da) (hb : DE X b db) (hc : DE X c dc)
    (hm : lastMarks [op, op'] [b, c] = false := by with_unfolding_all rfl) : DE X (.Compare a [op, op'] [b, c] pos) (dChain g g' da db dc) :=
  PE.le (pe_chain ho ho' ha hb hc hm) fun σ H Q ⟨F, ρ, k, S, q, fin⟩ => by
    refine up2 S q fun x y ρ1 v u F1 H1 q S1 T1 f1 f2 => ?_
    obtain ⟨dx, r1, q⟩ := wc_rd S1 f1 q
    obtain ⟨dy, r2, q⟩ := wc_rd S1 f2 q
    refine ⟨F1, dx, dy, _, S1.sub, r1, r2, q, fun z w F2 H2 kz n => ?_⟩
    have S2 := n.sta S1
    have T2 := T1.trans n.tr
    have f3 := n.fit
    split at kz
    · rename_i bb
      have f3 : Dp X.K F2 w (.bool bb) := f3
      cases f3
      refine ⟨bb, rfl, ?_⟩
      cases bb with
      | true =>
        refine ⟨F2, ρ1, _, S2, kz, fun z ρ3 w3 F3 H3 q3 S3 T3 f4 => ?_⟩
        exact op2_fin q3 S3 (T2.trans T3) ((f2.later n.tr.toTr).later T3.toTr) (f4.back fun _ z => T2.none z) fin
      | false => exact fin _ _ _ _ _ kz S2 T2 (.bl false)
    · exact kz.elim
theorem dw_and1 (ha : DT X a ta) : DW X (.BoolOp .And [a] pos) ta := pw_and1 ha
theorem dw_or1 (ha : DT X a ta) : DW X (.BoolOp .Or [a] pos) ta := pw_or1 ha
theorem dw_and {rest : List Expr} (ha : DT X a ta) (hb : DW X (.BoolOp .And (b :: rest) pos) tb) : DW X (.BoolOp .And (a :: b :: rest) pos) (dAnd ta tb) :=
  PW.le (pw_and ha hb) fun σ H Q ⟨F, ρ, k, S, q, fin⟩ => ⟨F, ρ, _, S, q, fun c ρ1 F1 H1 q S1 T1 => by
    cases c with
    | true => exact ⟨F1, ρ1, k, S1, q, fun b ρ' F' H' q S' T' => fin b ρ' F' H' q S' (T1.trans T')⟩
    | false => exact fin _ _ _ _ q S1 T1⟩
theorem dw_or {rest : List Expr} (ha : DT X a ta) (hb : DW X (.BoolOp .Or (b :: rest) pos) tb) : DW X (.BoolOp .Or (a :: b :: rest) pos) (dOr ta tb) :=
  PW.le (pw_or ha hb) fun σ H Q ⟨F, ρ, k, S, q, fin⟩ => ⟨F, ρ, _, S, q, fun c ρ1 F1 H1 q S1 T1 => by
    cases c with
    | false => exact ⟨F1, ρ1, k, S1, q, fun b ρ' F' H' q S' T' => fin b ρ' F' H' q S' (T1.trans T')⟩
    | true => exact fin _ _ _ _ q S1 T1⟩
theorem dw_pt (h : DW X a ta) : DT X a ta := PW.pt h
theorem dt_not (ha : DT X a ta) : DT X (.UnaryOp .Not a pos) (dNot ta) :=
  PT.le (pt_not ha) fun σ H Q ⟨F, ρ, k, S, q, fin⟩ => ⟨F, ρ, _, S, q, fun c ρ1 F1 H1 q S1 T1 => fin _ _ _ _ q S1 T1⟩
theorem de_one {op} (h : DE X a da) : DE X (.BoolOp op [a] pos) da := pe_one h
theorem de_and {rest : List Expr} (ha : DE X a da) (hb : DE X (.BoolOp .And (b :: rest) pos) db) : DE X (.BoolOp .And (a :: b :: rest) pos) (dAndV da db) :=
  PE.le (pe_and ha hb) fun σ H Q ⟨F, ρ, k, S, q, fin⟩ => by
    refine up_test (K := X.K) (d := da) (Q := fun c H1 => if c = true then up X.K db σ H1 Q else Q (.bl false) H1) ⟨F, ρ, _, S, q, fun c ρ1 F1 H1 q S1 T1 => ?_⟩
    cases c with
    | true => exact ⟨F1, ρ1, k, S1, q, fun r ρ' v F' H' q S' T' f => fin r ρ' v F' H' q S' (T1.trans T') (f.back fun _ z => T1.none z)⟩
    | false => exact fin _ _ _ _ _ q S1 T1 (.bl false)
theorem de_or {rest : List Expr} (ha : DE X a da) (hb : DE X (.BoolOp .Or (b :: rest) pos) db) : DE X (.BoolOp .Or (a :: b :: rest) pos) (dOrV da db) :=
  PE.le (pe_or ha hb) fun σ H Q ⟨F, ρ, k, S, q, fin⟩ => by
    refine up_test (K := X.K) (d := da) (Q := fun c H1 => if c = true then Q (.bl true) H1 else up X.K db σ H1 Q) ⟨F, ρ, _, S, q, fun c ρ1 F1 H1 q S1 T1 => ?_⟩
    cases c with
    | false => exact ⟨F1, ρ1, k, S1, q, fun r ρ' v F' H' q S' T' f => fin r ρ' v F' H' q S' (T1.trans T') (f.back fun _ z => T1.none z)⟩
    | true => exact fin _ _ _ _ _ q S1 T1 (.bl true)
theorem de_not (ha : DE X a da) : DE X (.UnaryOp .Not a pos) (dNotV da) :=
  PE.le (pe_not ha) fun σ H Q ⟨F, ρ, k, S, q, fin⟩ =>
    up_test (K := X.K) (d := da) (Q := fun c H1 => Q (.bl (!c)) H1) ⟨F, ρ, _, S, q, fun c ρ1 F1 H1 q S1 T1 => fin _ _ _ _ _ q S1 T1 (.bl _)⟩
theorem de_ifExp (hc : DT X c ta) (ha : DE X a da) (hb : DE X b db) : DE X (.IfExp c a b pos) (dIf ta da db) :=
  PE.le (pe_ifExp hc ha hb) fun σ H Q ⟨F, ρ, k, S, q, fin⟩ => ⟨F, ρ, _, S, q, fun c ρ1 F1 H1 q S1 T1 => by
    cases c with
    | true => exact ⟨F1, ρ1, k, S1, q, fun r ρ' v F' H' q S' T' f => fin r ρ' v F' H' q S' (T1.trans T') (f.back fun _ z => T1.none z)⟩
    | false => exact ⟨F1, ρ1, k, S1, q, fun r ρ' v F' H' q S' T' f => fin r ρ' v F' H' q S' (T1.trans T') (f.back fun _ z => T1.none z)⟩⟩
theorem da_nil : DA X [] dNil := PA.le pa_nil fun σ H Q ⟨F, ρ, k, S, q, fin⟩ => fin [] ρ [] F H q S .refl trivial
theorem da_cons {dr : DTA} (ha : DE X e da) (hr : DA X es dr) (hs : starEach (e :: es) X.env = (false, eval e X.env) :: starEach es X.env := by rfl) : DA X (e :: es) (dCons da dr) :=
  PA.le (pa_cons ha hr hs) fun σ H Q ⟨F, ρ, k, S, q, fin⟩ => ⟨F, ρ, _, S, q, fun x ρ1 v F1 H1 q S1 T1 f1 => ⟨F1, ρ1, _, S1, q, fun xs ρ2 vs F2 H2 q S2 T2 f2 =>
    fin (x :: xs) ρ2 (v :: vs) F2 H2 q S2 (T1.trans T2) ⟨f1.later T2, f2.back fun _ z => T1.none z⟩⟩⟩
theorem RdAt.non_iff {K : PySem.W.Frag} {F H : Hp} {v : V} {d : D} (h : RdAt K F H v d) : decide (v = .non) = isN d := by
  rcases h with h | ⟨κ, a, rfl, h⟩
  · cases h <;> rfl
  · cases κ <;> (obtain ⟨_, _, rfl, _⟩ := h; rfl)
theorem de_isN {j pos'} (ha : DE X a da) : DE X (.Compare a [.Is] [.Constant .none j pos'] pos) (dUn gIsN da) :=
  PE.le (pe_cmp (pc_isN ha) rfl) fun σ H Q ⟨F, ρ, k, S, q, fin⟩ => ⟨F, ρ, _, S, q, fun x ρ1 v F1 H1 q1 S1 T1 f1 => by
    obtain ⟨dx, r1, q1⟩ := wc_rd S1 f1 q1
    rw [r1.non_iff]
    exact fin _ _ _ _ _ q1 S1 T1 (.bl _)⟩
theorem de_notN {j pos'} (ha : DE X a da) : DE X (.Compare a [.IsNot] [.Constant .none j pos'] pos) (dUn gNotN da) :=
  PE.le (pe_cmp (pc_notN ha) rfl) fun σ H Q ⟨F, ρ, k, S, q, fin⟩ => ⟨F, ρ, _, S, q, fun x ρ1 v F1 H1 q1 S1 T1 f1 => by
    obtain ⟨dx, r1, q1⟩ := wc_rd S1 f1 q1
    rw [r1.non_iff]
    exact fin _ _ _ _ _ q1 S1 T1 (.bl _)⟩
end
end TL

-- part TL3
/-! TL3: freezing, displays, statements, targets, for, while, comprehensions. -/
namespace TL
open PySem PySem.Spec L2
open Evl (Ex ex_l ex_t)
variable [Lay]

@[simp] def fzR (r : Res) (ρ : List Slot) (k : D → List Slot → Prop) : Prop := match r with
  | .fz d => k d ρ
  | .tm .l d => k d ρ
  | .bo i => match ρ[i]? with
    | some (.fz d) => k d ρ
    | some (.ow none .l d) => k d (ρ.set i (.fz d))
    | _ => False
  | _ => False
@[simp] def fzAll : List Res → List Slot → (List D → List Slot → Prop) → Prop
  | [], ρ, k => k [] ρ
  | r :: rs, ρ, k => fzR r ρ fun d ρ1 => fzAll rs ρ1 fun ds ρ2 => k (d :: ds) ρ2
section
variable {K : PySem.W.Frag} {F F' F0 F1 F2 H H' H0 H1 H2 : Hp} {σ σ' σ0 σ1 σ2 : L2.St} {ρ ρ' ρ0 ρ1 ρ2 : List Slot}
section
variable (K)
/-- a pending result, weakly (its object may have been frozen since) -/
def FitsW (F H : Hp) (σ : L2.St) (ρ : List Slot) (H0 : Hp) (v : V) : Res → Prop
  | .fz d => Dp K F v d
  | .tm κ d => ∃ a, v = .ref a ∧ OwAt K F H κ a d ∧ ¬ OA σ ρ a ∧ H0 a = none
  | .rd d => RdN K F H (OA σ ρ) v d
  | .bo i => σ[i]? = some (some v)
def FitsWAll (F H : Hp) (σ : L2.St) (ρ : List Slot) (H0 : Hp) : List V → List Res → Prop
  | [], [] => True
  | v :: vs, r :: rs => FitsW K F H σ ρ H0 v r ∧ FitsWAll F H σ ρ H0 vs rs
  | _, _ => False
end
theorem Fits.w {v : V} {r : Res} (f : Fits K F H σ ρ H0 v r) : FitsW K F H σ ρ H0 v r := by
  cases r with
  | fz d => exact f
  | tm κ d => obtain ⟨a, e, q, _, o, h⟩ := f; exact ⟨a, e, q, o, h⟩
  | rd d => exact f
  | bo i => exact f
theorem FitsAll.w {vs : List V} : ∀ {rs : List Res}, FitsAll K F H σ ρ H0 vs rs → FitsWAll K F H σ ρ H0 vs rs := by
  induction vs with
  | nil => intro rs h; cases rs with
    | nil => exact h
    | cons => exact h
  | cons v vs ih => intro rs h; cases rs with
    | nil => exact h
    | cons r rs => exact ⟨h.1.w, ih h.2⟩
/-- F has grown by what stood already; fewer slots own -/
theorem FitsW.frz {v : V} {r : Res} (f : FitsW K F H σ ρ H0 v r) (e : Ex F F') (o : ∀ b, OA σ ρ' b → OA σ ρ b) : FitsW K F' H σ ρ' H0 v r := by
  cases r with
  | fz d => exact dp_mono e f
  | tm κ d => obtain ⟨a, e1, q, o1, h⟩ := f; exact ⟨a, e1, q.mono e fun _ _ z => z, fun z => o1 (o _ z), h⟩
  | rd d =>
    rcases f with f | ⟨κ, a, e1, q, n⟩
    · exact .inl (dp_mono e f)
    · exact .inr ⟨κ, a, e1, q.mono e fun _ _ z => z, fun z => n (o _ z)⟩
  | bo i => exact f
theorem FitsWAll.frz {vs : List V} : ∀ {rs : List Res}, FitsWAll K F H σ ρ H0 vs rs → Ex F F' → (∀ b, OA σ ρ' b → OA σ ρ b) → FitsWAll K F' H σ ρ' H0 vs rs := by
  induction vs with
  | nil => intro rs h e o; cases rs with
    | nil => exact h
    | cons => exact h
  | cons v vs ih => intro rs h e o; cases rs with
    | nil => exact h
    | cons r rs => exact ⟨h.1.frz e o, ih h.2 e o⟩
theorem ex_upd_in {a : Addr} {o : HO} (h : H a = some o) (s : Ex F H) : Ex F (upd F a o) := fun b u e => by
  by_cases z : b = a
  · subst z
    rw [upd_same]
    have := s b u e
    rw [h] at this
    exact this
  · rw [upd_ne z]; exact e
theorem sub_upd_in {a : Addr} {o : HO} (h : H a = some o) (s : Ex F H) : Ex (upd F a o) H := fun b u e => by
  by_cases z : b = a
  · subst z
    rw [upd_same] at e
    cases e
    exact h
  · rw [upd_ne z] at e; exact s b u e
/-- an object that no slot owns is frozen -/
theorem Sta.frzAt {a : Addr} {o : HO} (S : Sta K F H σ ρ) (h : H a = some o) (n : ¬ OA σ ρ a) : Sta K (upd F a o) H σ ρ := by
  have e := ex_upd_in h S.sub
  refine ⟨sub_upd_in h S.sub, S.len, fun i d q => ?_, fun i d q => ?_, fun i t κ d q => ?_, S.inj, S.tab⟩
  · obtain ⟨v, h1, h2⟩ := S.fz i d q; exact ⟨v, h1, dp_mono e h2⟩
  · obtain ⟨v, h1, h2⟩ := S.rd i d q
    refine ⟨v, h1, ?_⟩
    rcases h2 with h2 | ⟨κ, b, e1, h2, n2⟩
    · exact .inl (dp_mono e h2)
    · exact .inr ⟨κ, b, e1, h2.mono e fun _ _ z => z, n2⟩
  · obtain ⟨b, h1, h2, h3, h4⟩ := S.ow i t κ d q
    refine ⟨b, h1, h2.mono e fun _ _ z => z, ?_, h4⟩
    rw [upd_ne (fun z => n ⟨i, t, κ, d, q, by rw [← z]; exact h1⟩)]
    exact h3
theorem oa_set {i : Nat} {s : Slot} {b : Addr} (hs : ∀ t κ d, s ≠ .ow t κ d) (h : OA σ (ρ.set i s) b) : OA σ ρ b := by
  obtain ⟨j, t, κ, d, h1, h2⟩ := h
  by_cases e : i = j
  · subst e
    rw [List.getElem?_set] at h1
    simp only [if_pos] at h1
    split at h1
    · cases h1
      exact (hs _ _ _ rfl).elim
    · cases h1
  · rw [List.getElem?_set_ne e] at h1
    exact ⟨j, t, κ, d, h1, h2⟩
theorem get_set_cases {i j : Nat} {s u : Slot} (h : (ρ.set i s)[j]? = some u) : (i = j ∧ u = s) ∨ (i ≠ j ∧ ρ[j]? = some u) := by
  by_cases e : i = j
  · subst e
    rw [List.getElem?_set] at h
    simp only [if_pos] at h
    split at h
    · cases h; exact .inl ⟨rfl, rfl⟩
    · cases h
  · rw [List.getElem?_set_ne e] at h
    exact .inr ⟨e, h⟩
/-- a slot's content is given up: the slot is then a frozen one, one to be read, or nothing -/
theorem Sta.drop {i : Nat} {s : Slot} (S : Sta K F H σ ρ) (hs : ∀ t κ d, s ≠ .ow t κ d) (h1 : ∀ d, s = .fz d → ∃ v, σ[i]? = some (some v) ∧ Dp K F v d)
    (h2 : ∀ d, s = .rd d → ∃ v, σ[i]? = some (some v) ∧ RdN K F H (OA σ (ρ.set i s)) v d) : Sta K F H σ (ρ.set i s) := by
  refine ⟨S.sub, by simpa using S.len, fun j d q => ?_, fun j d q => ?_, fun j t κ d q => ?_, fun j j' t t' κ κ' d d' a q q' => ?_, S.tab⟩
  · rcases get_set_cases q with ⟨e, z⟩ | ⟨e, z⟩
    · subst e; exact h1 d z.symm
    · exact S.fz j d z
  · rcases get_set_cases q with ⟨e, z⟩ | ⟨e, z⟩
    · subst e; exact h2 d z.symm
    · obtain ⟨v, h1, h2⟩ := S.rd j d z
      refine ⟨v, h1, ?_⟩
      rcases h2 with h2 | ⟨κ, b, e1, h2, n2⟩
      · exact .inl h2
      · exact .inr ⟨κ, b, e1, h2, fun z => n2 (oa_set hs z)⟩
  · rcases get_set_cases q with ⟨e, z⟩ | ⟨e, z⟩
    · exact (hs _ _ _ z.symm).elim
    · exact S.ow j t κ d z
  · rcases get_set_cases q with ⟨e, z⟩ | ⟨e, z⟩
    · exact (hs _ _ _ z.symm).elim
    · rcases get_set_cases q' with ⟨e, z'⟩ | ⟨e, z'⟩
      · exact (hs _ _ _ z'.symm).elim
      · exact S.inj j j' t t' κ κ' d d' a z z'
theorem fzR_ok {v : V} {r : Res} {k : D → List Slot → Prop} (S : Sta K F H σ ρ) (f : FitsW K F H σ ρ H0 v r) (T : TrX F0 H0 σ ρ0 F H ρ) (h : fzR r ρ k) :
    ∃ d ρ' F', k d ρ' ∧ Sta K F' H σ ρ' ∧ TrX F0 H0 σ ρ0 F' H ρ' ∧ Dp K F' v d ∧ Ex F F' ∧ ∀ b, OA σ ρ' b → OA σ ρ b := by
  cases r with
  | fz d => exact ⟨d, ρ, F, h, S, T, f, Ex.refl F, fun _ z => z⟩
  | tm κ d =>
    cases κ with
    | l =>
      obtain ⟨a, rfl, ⟨xs, ds, rfl, e1, q⟩, n, z⟩ := f
      have e := ex_upd_in e1 S.sub
      refine ⟨_, ρ, upd F a (.lst xs), h, S.frzAt e1 n, ⟨⟨T.fext.trans e, T.keep, T.there, T.own, fun b o hb => ?_⟩, T.slow, T.slrd⟩, .lst (.inl upd_same) (dpAll_mono e q), e, fun _ z => z⟩
      by_cases y : b = a
      · subst y; exact .inr (.inl z)
      · rw [upd_ne y] at hb; exact T.fnew b o hb
    | k => exact h.elim
    | t => exact h.elim
  | rd d => exact h.elim
  | bo i =>
    have f : σ[i]? = some (some v) := f
    unfold fzR at h
    simp only at h
    split at h
    · rename_i d e
      obtain ⟨v', h1, h2⟩ := S.fz i d e
      rw [f] at h1; cases h1
      exact ⟨d, ρ, F, h, S, T, h2, Ex.refl F, fun _ z => z⟩
    · rename_i d e
      obtain ⟨a, h1, ⟨xs, ds, rfl, h2, h3⟩, h4, _⟩ := S.ow i none .l d e
      rw [f] at h1; cases h1
      have hs : ∀ t κ d, Slot.fz (.list ds) ≠ .ow t κ d := fun _ _ _ z => by cases z
      have no : ¬ OA σ (ρ.set i (.fz (.list ds))) a := fun ⟨j, t, κ, d, q1, q2⟩ => by
        rcases get_set_cases q1 with ⟨e', z⟩ | ⟨e', z⟩
        · cases z
        · exact e' (S.inj i j _ _ _ _ _ _ a e z f q2)
      have S1 : Sta K F H σ (ρ.set i .un) := S.drop (fun _ _ _ z => by cases z) (fun _ z => by cases z) (fun _ z => by cases z)
      have ee := ex_upd_in h2 S.sub
      have n1 : ¬ OA σ (ρ.set i .un) a := fun ⟨j, t, κ, d, q1, q2⟩ => by
        rcases get_set_cases q1 with ⟨e', z⟩ | ⟨e', z⟩
        · cases z
        · exact e' (S.inj i j _ _ _ _ _ _ a e z f q2)
      have S2 := S1.frzAt h2 n1
      have dp : Dp K (upd F a (.lst xs)) (.ref a) (.list ds) := .lst (.inl upd_same) (dpAll_mono ee h3)
      have S3 : Sta K (upd F a (.lst xs)) H σ ((ρ.set i .un).set i (.fz (.list ds))) := S2.drop hs (fun d z => by cases z; exact ⟨_, f, dp⟩) (fun _ z => by cases z)
      rw [List.set_set] at S3
      refine ⟨_, _, upd F a (.lst xs), h, S3, ⟨⟨T.fext.trans ee, T.keep, T.there, fun b z => T.own b (oa_set hs z), fun b o hb => ?_⟩, fun j t κ d q => ?_, fun j d q => ?_⟩, dp, ee, fun b z => oa_set hs z⟩
      by_cases y : b = a
      · subst y
        exact (T.own b ⟨i, none, .l, _, e, f⟩).elim (fun z => .inr (.inr z)) (fun z => .inr (.inl z))
      · rw [upd_ne y] at hb; exact T.fnew b o hb
      · rcases get_set_cases q with ⟨_, z⟩ | ⟨_, z⟩
        · cases z
        · exact T.slow j t κ d z
      · rcases get_set_cases q with ⟨_, z⟩ | ⟨_, z⟩
        · cases z
        · exact T.slrd j d z
    · exact h.elim
theorem fzAll_ok {vs : List V} : ∀ {rs : List Res} {ρ : List Slot} {F : Hp} {k : List D → List Slot → Prop}, Sta K F H σ ρ → FitsWAll K F H σ ρ H0 vs rs → TrX F0 H0 σ ρ0 F H ρ → fzAll rs ρ k →
    ∃ ds ρ' F', k ds ρ' ∧ Sta K F' H σ ρ' ∧ TrX F0 H0 σ ρ0 F' H ρ' ∧ DpAll K F' vs ds ∧ Ex F F' ∧ ∀ b, OA σ ρ' b → OA σ ρ b := by
  induction vs with
  | nil => intro rs ρ F k S f T h; cases rs with
    | nil => exact ⟨[], ρ, F, h, S, T, .nil, Ex.refl F, fun _ z => z⟩
    | cons => exact f.elim
  | cons v vs ih => intro rs ρ F k S f T h; cases rs with
    | nil => exact f.elim
    | cons r rs =>
      obtain ⟨f1, f2⟩ := f
      obtain ⟨d, ρ1, F1, h, S1, T1, dp, e1, o1⟩ := fzR_ok S f1 T h
      obtain ⟨ds, ρ2, F2, h, S2, T2, dps, e2, o2⟩ := ih S1 (f2.frz e1 o1) T1 h
      exact ⟨d :: ds, ρ2, F2, h, S2, T2, .cons (dp_mono e2 dp) dps, e1.trans e2, fun b z => o1 b (o2 b z)⟩
theorem FitsW.len {vs : List V} : ∀ {rs : List Res}, FitsWAll K F H σ ρ H0 vs rs → vs.length = rs.length := by
  induction vs with
  | nil => intro rs h; cases rs with
    | nil => rfl
    | cons => exact h.elim
  | cons v vs ih => intro rs h; cases rs with
    | nil => exact h.elim
    | cons r rs => simp [ih h.2]
end

/-! ### displays -/
@[simp] def dTup (da : DTA) : DTE := fun ρ k => da ρ fun rs ρ1 => rs.length ≤ sizeLine ∧ fzAll rs ρ1 fun ds ρ2 => k (.fz (.tuple ds)) ρ2
@[simp] def dLst (da : DTA) : DTE := fun ρ k => da ρ fun rs ρ1 => rs.length ≤ sizeLine ∧ fzAll rs ρ1 fun ds ρ2 => k (.tm .l (.list ds)) ρ2
section
variable {X : Cx} {es : List Expr} {pos : Pos} {da : DTA}
theorem de_tup {x1} (h : DA X es da) : DE X (.Tuple es x1 pos) (dTup da) := PE.le (pe_tup h) fun σ H Q ⟨F, ρ, k, S, q, fin⟩ => ⟨F, ρ, _, S, q, fun rs ρ1 vs F1 H1 q S1 T1 f => by
  obtain ⟨z, q⟩ := q
  refine ⟨by rw [FitsW.len f.w]; exact z, fun p hp => ?_⟩
  obtain ⟨ds, ρ2, F2, q, S2, T2, dp, _⟩ := fzAll_ok S1 f.w T1 q
  have n := New.tuple (K := X.K) S2.sub hp dp
  exact fin _ _ _ _ _ q (n.sta S2) (T2.trans n.tr) (n.fits S2 fun _ z => T2.none z)⟩
theorem de_lst (h : DA X es da) : DE X (.List es pos) (dLst da) := PE.le (pe_lst h) fun σ H Q ⟨F, ρ, k, S, q, fin⟩ => ⟨F, ρ, _, S, q, fun rs ρ1 vs F1 H1 q S1 T1 f => by
  obtain ⟨z, q⟩ := q
  refine ⟨by rw [FitsW.len f.w]; exact z, fun p hp => ?_⟩
  obtain ⟨ds, ρ2, F2, q, S2, T2, dp, _⟩ := fzAll_ok S1 f.w T1 q
  have n := New.list (K := X.K) S2.sub hp dp
  exact fin _ _ _ _ _ q (n.sta S2) (T2.trans n.tr) (n.fits S2 fun _ z => T2.none z)⟩
end

/-! ### storing in a slot -/
@[simp] def toSlot (r : Res) (ρ : List Slot) (k : Slot → List Slot → Prop) : Prop := match r with
  | .fz d => k (.fz d) ρ
  | .tm κ d => k (.ow none κ d) ρ
  | .rd d => k (.rd d) ρ
  | .bo i => match ρ[i]? with
    | some (.fz d) => k (.fz d) ρ
    | some (.ow none .l d) => k (.fz d) (ρ.set i (.fz d))
    | _ => False
section
variable {K : PySem.W.Frag} {F F' F0 F1 F2 H H' H0 H1 H2 : Hp} {σ σ' σ0 σ1 σ2 : L2.St} {ρ ρ' ρ0 ρ1 ρ2 : List Slot}
theorem get_sets {α : Type} {l : List α} {i j : Nat} {s u : α} (h : (l.set i s)[j]? = some u) : (i = j ∧ u = s) ∨ (i ≠ j ∧ l[j]? = some u) := by
  by_cases e : i = j
  · subst e
    rw [List.getElem?_set] at h
    simp only [if_pos] at h
    split at h
    · cases h; exact .inl ⟨rfl, rfl⟩
    · cases h
  · rw [List.getElem?_set_ne e] at h
    exact .inr ⟨e, h⟩
theorem get_set_at {α : Type} {l : List α} {i : Nat} {s : α} (h : i < l.length) : (l.set i s)[i]? = some s := by
  rw [List.getElem?_set]; simp [h]
/-- a slot is stored to: s fits v -/
theorem Sta.store {i : Nat} {v : V} {s : Slot} (S : Sta K F H σ ρ) (f : match s with
    | .un => True
    | .fz d => Dp K F v d
    | .rd d => RdN K F H (OA σ ρ) v d
    | .ow t κ d => t = none ∧ ∃ a, v = .ref a ∧ OwAt K F H κ a d ∧ F a = none ∧ ¬ OA σ ρ a ∧ ∀ (j : Nat) (d' : D), ρ[j]? = some (Slot.rd d') → σ[j]? = some (some (V.ref a)) → Dp K F (V.ref a) d') : Sta K F H (σ.set i (some v)) (ρ.set i s) := by
  have hl : ∀ {u : Slot} {j : Nat}, (ρ.set i s)[j]? = some u → i = j → (σ.set i (some v))[i]? = some (some v) := fun {u j} h e => by
    subst e
    refine get_set_at ?_
    rw [S.len]
    have := (List.getElem?_eq_some_iff.mp h).1
    simpa using this
  have oa : ∀ b, OA (σ.set i (some v)) (ρ.set i s) b → OA σ ρ b ∨ ((∃ t κ d, s = .ow t κ d) ∧ v = .ref b) := fun b ⟨j, t, κ, d, h1, h2⟩ => by
    rcases get_sets h1 with ⟨e, z⟩ | ⟨e, z⟩
    · rw [← e, hl h1 e] at h2
      cases h2
      exact .inr ⟨⟨_, _, _, z.symm⟩, rfl⟩
    · rw [List.getElem?_set_ne e] at h2
      exact .inl ⟨j, t, κ, d, z, h2⟩
  have rdn : ∀ {w : V} {d : D}, RdN K F H (OA σ ρ) w d → (∀ a κ d', w = .ref a → OwAt K F H κ a d' → (∃ t κ d, s = .ow t κ d) → v = .ref a → False) → RdN K F H (OA (σ.set i (some v)) (ρ.set i s)) w d := fun {w d} h n => by
    rcases h with h | ⟨κ, a, e, h, m⟩
    · exact .inl h
    · refine .inr ⟨κ, a, e, h, fun z => ?_⟩
      rcases oa a z with y | ⟨y1, y2⟩
      · exact m y
      · exact n a κ d e h y1 y2
  refine ⟨S.sub, by simpa using S.len, fun j d q => ?_, fun j d q => ?_, fun j t κ d q => ?_, fun j j' t t' κ κ' d d' a q q' r r' => ?_, S.tab⟩
  · rcases get_sets q with ⟨e, z⟩ | ⟨e, z⟩
    · subst z; rw [← e]; exact ⟨v, hl q e, f⟩
    · obtain ⟨w, h1, h2⟩ := S.fz j d z
      exact ⟨w, by rw [List.getElem?_set_ne e]; exact h1, h2⟩
  · rcases get_sets q with ⟨e, z⟩ | ⟨e, z⟩
    · subst z; rw [← e]; exact ⟨v, hl q e, rdn f fun a κ d' _ _ ⟨_, _, _, y⟩ _ => by cases y⟩
    · obtain ⟨w, h1, h2⟩ := S.rd j d z
      refine ⟨w, by rw [List.getElem?_set_ne e]; exact h1, ?_⟩
      cases s with
      | ow t κ d0 =>
        obtain ⟨_, a, e1, q1, q2, q3, q4⟩ := f
        subst e1
        by_cases ha : w = .ref a
        · subst ha; exact .inl (q4 j d z h1)
        · rcases h2 with h2 | ⟨κ', b, e', h2, m⟩
          · exact .inl h2
          · refine .inr ⟨κ', b, e', h2, fun y => ?_⟩
            rcases oa b y with y | ⟨_, y2⟩
            · exact m y
            · exact ha (by rw [e', ← y2])
      | _ => exact rdn h2 fun a κ d' _ _ ⟨_, _, _, y⟩ _ => by cases y
  · rcases get_sets q with ⟨e, z⟩ | ⟨e, z⟩
    · subst z
      obtain ⟨rfl, a, e1, q1, q2, q3, _⟩ := f
      subst e1
      rw [← e]
      exact ⟨a, hl q e, q1, q2, fun _ z => by cases z⟩
    · obtain ⟨a, h1, h2⟩ := S.ow j t κ d z
      exact ⟨a, by rw [List.getElem?_set_ne e]; exact h1, h2⟩
  · rcases get_sets q with ⟨e, z⟩ | ⟨e, z⟩
    · rcases get_sets q' with ⟨e', z'⟩ | ⟨e', z'⟩
      · rw [← e, ← e']
      · exfalso
        rw [← e, hl q e] at r
        cases r
        rw [List.getElem?_set_ne e'] at r'
        subst z
        obtain ⟨_, b, e1, q1, q2, q3, _⟩ := f
        cases e1
        exact q3 ⟨j', t', κ', d', z', r'⟩
    · rcases get_sets q' with ⟨e', z'⟩ | ⟨e', z'⟩
      · exfalso
        rw [← e', hl q' e'] at r'
        cases r'
        rw [List.getElem?_set_ne e] at r
        subst z'
        obtain ⟨_, b, e1, q1, q2, q3, _⟩ := f
        cases e1
        exact q3 ⟨j, t, κ, d, z, r⟩
      · rw [List.getElem?_set_ne e] at r
        rw [List.getElem?_set_ne e'] at r'
        exact S.inj j j' t t' κ κ' d d' a z z' r r'
end
end TL

-- part TL4
/-! TL4: statements. -/
namespace TL
open PySem PySem.Spec L2
open Evl (Ex ex_l ex_t)
variable [Lay]

section
variable {K : PySem.W.Frag} {F F' F0 F1 F2 H H' H0 H1 H2 : Hp} {σ σ' σ0 σ1 σ2 : L2.St} {ρ ρ' ρ0 ρ1 ρ2 : List Slot}
theorem oa_store {i : Nat} {v : V} {s : Slot} (S : Sta K F H σ ρ) : ∀ b, OA (σ.set i (some v)) (ρ.set i s) b → OA σ ρ b ∨ ((∃ t κ d, s = .ow t κ d) ∧ v = .ref b) := fun b ⟨j, t, κ, d, h1, h2⟩ => by
  rcases get_sets h1 with ⟨e, z⟩ | ⟨e, z⟩
  · subst e
    have hl : (σ.set i (some v))[i]? = some (some v) := by
      refine get_set_at ?_
      rw [S.len]
      have := (List.getElem?_eq_some_iff.mp h1).1
      simpa using this
    rw [hl] at h2
    cases h2
    exact .inr ⟨⟨_, _, _, z.symm⟩, rfl⟩
  · rw [List.getElem?_set_ne e] at h2
    exact .inl ⟨j, t, κ, d, z, h2⟩
theorem TrX.store {i : Nat} {v : V} {s : Slot} (T : TrX F0 H0 σ ρ0 F H ρ) (S : Sta K F H σ ρ) (h : ∀ b, (∃ t κ d, s = .ow t κ d) → v = .ref b → H0 b = Option.none) : Tr F0 H0 σ ρ0 F H (σ.set i (some v)) (ρ.set i s) :=
  ⟨T.fext, T.keep, T.there, fun b z => by
    rcases oa_store S b z with y | ⟨y, y'⟩
    · exact T.own b y
    · exact .inr (h b y y'), T.fnew⟩
/-- a result is stored in slot i -/
theorem toSlot_ok {i : Nat} {v : V} {r : Res} {k : Slot → List Slot → Prop} (S0 : Sta K F0 H0 σ ρ0) (S : Sta K F H σ ρ) (T : TrX F0 H0 σ ρ0 F H ρ) (f : Fits K F H σ ρ H0 v r) (h : toSlot r ρ k) :
    ∃ s ρ' F', k s ρ' ∧ Sta K F' H (σ.set i (some v)) (ρ'.set i s) ∧ Tr F0 H0 σ ρ0 F' H (σ.set i (some v)) (ρ'.set i s) := by
  cases r with
  | fz d => exact ⟨.fz d, ρ, F, h, S.store f, T.store S fun _ h _ => by obtain ⟨_, _, _, z⟩ := h; cases z⟩
  | tm κ d =>
    obtain ⟨a, rfl, q, n, o, z⟩ := f
    refine ⟨.ow none κ d, ρ, F, h, S.store (s := .ow none κ d) ⟨rfl, a, rfl, q, n, o, fun j d' hj hs => ?_⟩, T.store S fun b _ e => by cases e; exact z⟩
    rcases T.slrd j d' hj with y | ⟨t, κ', d0, y⟩
    · obtain ⟨w, h1, h2⟩ := S0.rd j d' y
      rw [hs] at h1
      cases h1
      rcases h2 with h2 | ⟨κ', b, e, h2, _⟩
      · exact dp_mono T.fext h2
      · cases e
        obtain ⟨o', ho⟩ := h2.some
        rw [z] at ho; cases ho
    · obtain ⟨b, h1, h2, _⟩ := S0.ow j t κ' d0 y
      rw [hs] at h1
      cases h1
      obtain ⟨o', ho⟩ := h2.some
      rw [z] at ho; cases ho
  | rd d => exact ⟨.rd d, ρ, F, h, S.store (s := .rd d) f, T.store S fun _ h _ => by obtain ⟨_, _, _, z⟩ := h; cases z⟩
  | bo j =>
    have hz : ∃ d ρ', toSlot (.bo j) ρ k = k (.fz d) ρ' ∧ fzR (.bo j) ρ (fun d' ρ'' => d' = d ∧ ρ'' = ρ') := by
      unfold toSlot at h ⊢
      simp only at h ⊢
      split at h
      · rename_i d e; exact ⟨d, ρ, rfl, by unfold fzR; simp [e]⟩
      · rename_i d e; exact ⟨d, ρ.set j (.fz d), rfl, by unfold fzR; simp [e]⟩
      · exact h.elim
    obtain ⟨d, ρ', e, hz⟩ := hz
    rw [e] at h
    obtain ⟨d', ρ'', F', ⟨rfl, rfl⟩, S', T', dp, _⟩ := fzR_ok S f.w T hz
    exact ⟨.fz d', ρ'', F', h, S'.store dp, T'.store S' fun _ h _ => by obtain ⟨_, _, _, z⟩ := h; cases z⟩
end

@[simp] def dNext : DTS := fun E ρ => E.nx ρ
@[simp] def dSeq (s u : DTS) : DTS := fun E ρ => s { E with nx := u E } ρ
@[simp] def dBrk : DTS := fun E ρ => E.bk ρ
@[simp] def dCnt : DTS := fun E ρ => E.ct ρ
@[simp] def dDrop (da : DTE) : DTS := fun E ρ => da ρ fun _ ρ1 => E.nx ρ1
@[simp] def dRet (da : DTE) : DTS := fun E ρ => da ρ E.rt
@[simp] def dRetN : DTS := fun E ρ => E.rt (.fz .none) ρ
@[simp] def dIfS (t : DTT) (s u : DTS) : DTS := fun E ρ => t ρ fun b ρ1 => if b = true then s E ρ1 else u E ρ1
@[simp] def dSet (i : Nat) (da : DTE) : DTS := fun E ρ => da ρ fun r ρ1 => toSlot r ρ1 fun s ρ2 => E.nx (ρ2.set i s)
@[simp] def dPar (i j : Nat) (da : DTA) : DTS := fun E ρ => da ρ fun rs ρ1 => match rs with
  | [r, r'] => fzR r ρ1 fun d ρ2 => fzR r' ρ2 fun d' ρ3 => E.nx ((ρ3.set i (.fz d)).set j (.fz d'))
  | _ => False
@[simp] def dAug (i : Nat) (g : D → D → (Res → Prop) → Prop) (da : DTE) : DTS := fun E ρ => (match ρ[i]? with | some (.fz _) => True | _ => False) ∧ dBin g (dName i) da ρ fun r ρ1 => toSlot r ρ1 fun s ρ2 => E.nx (ρ2.set i s)

section
variable {X : Cx} {st : Stmt} {rest : List Stmt} {s u : DTS} {e : Expr} {da : DTE} {ta : DTT} {pos : Pos}
theorem ds_nil : DSs X [] dNext := PSs.le pss_nil fun E σ H ⟨F, ρ, G, S, q, f1, f2, f3, f4⟩ => f1 σ ρ F H q S .refl
theorem ds_cons (h1 : DS X st s) (h2 : DSs X rest u) : DSs X (st :: rest) (dSeq s u) := PSs.le (pss_cons h1 h2) fun E σ H ⟨F, ρ, G, S, q, f1, f2, f3, f4⟩ =>
  ⟨F, ρ, _, S, q, fun σ1 ρ1 F1 H1 q S1 T1 => ⟨F1, ρ1, G, S1, q, fun σ2 ρ2 F2 H2 q S2 T2 => f1 σ2 ρ2 F2 H2 q S2 (T1.trans T2), fun r σ2 ρ2 v F2 H2 q S2 T2 f => f2 r σ2 ρ2 v F2 H2 q S2 (T1.trans T2) (f.back fun _ z => T1.none z),
    fun σ2 ρ2 F2 H2 q S2 T2 => f3 σ2 ρ2 F2 H2 q S2 (T1.trans T2), fun σ2 ρ2 F2 H2 q S2 T2 => f4 σ2 ρ2 F2 H2 q S2 (T1.trans T2)⟩, f2, f3, f4⟩
theorem ds_one (h1 : DS X st s) : DSs X [st] s := PSs.le (pss_one h1) fun E σ H h => h
theorem ds_pass : DS X (.Pass pos) dNext := PS.le ps_pass fun E σ H ⟨F, ρ, G, S, q, f1, f2, f3, f4⟩ => f1 σ ρ F H q S .refl
theorem ds_doc {x j pos'} : DS X (.Expr (.Constant (.str x) j pos) pos') dNext := PS.le ps_doc fun E σ H ⟨F, ρ, G, S, q, f1, f2, f3, f4⟩ => f1 σ ρ F H q S .refl
theorem ds_break : DS X (.Break pos) dBrk := PS.le ps_break fun E σ H ⟨F, ρ, G, S, q, f1, f2, f3, f4⟩ => f3 σ ρ F H q S .refl
theorem ds_continue : DS X (.Continue pos) dCnt := PS.le ps_continue fun E σ H ⟨F, ρ, G, S, q, f1, f2, f3, f4⟩ => f4 σ ρ F H q S .refl
theorem ds_expr (he : DE X e da) (hs : swapsWith e none pos.line X.env = pure false := by rfl) : DS X (.Expr e pos) (dDrop da) := PS.le (ps_expr he hs) fun E σ H ⟨F, ρ, G, S, q, f1, f2, f3, f4⟩ =>
  ⟨F, ρ, _, S, q, fun r ρ1 v F1 H1 q S1 T1 _ => f1 σ ρ1 F1 H1 q S1 T1⟩
theorem ds_ret (he : DE X e da) : DS X (.Return (some e) pos) (dRet da) := PS.le (ps_ret he) fun E σ H ⟨F, ρ, G, S, q, f1, f2, f3, f4⟩ =>
  ⟨F, ρ, _, S, q, fun r ρ1 v F1 H1 q S1 T1 f => f2 r σ ρ1 v F1 H1 q S1 T1 f⟩
theorem ds_retN : DS X (.Return none pos) dRetN := PS.le ps_retN fun E σ H ⟨F, ρ, G, S, q, f1, f2, f3, f4⟩ => f2 _ σ ρ _ F H q S .refl .non
theorem ds_if {c : Expr} {a b : List Stmt} (hc : DT X c ta) (ha : DSs X a s) (hb : DSs X b u) : DS X (.If c a b pos) (dIfS ta s u) := PS.le (ps_if hc ha hb) fun E σ H ⟨F, ρ, G, S, q, f1, f2, f3, f4⟩ =>
  ⟨F, ρ, _, S, q, fun b ρ1 F1 H1 q S1 T1 => by
    have T1 := T1.toTr
    have fin : ∀ {w : DTS}, w G ρ1 → upS X.K w E σ H1 := fun q =>
      ⟨F1, ρ1, G, S1, q, fun σ2 ρ2 F2 H2 q S2 T2 => f1 σ2 ρ2 F2 H2 q S2 (T1.trans T2), fun r σ2 ρ2 v F2 H2 q S2 T2 f => f2 r σ2 ρ2 v F2 H2 q S2 (T1.trans T2) (f.back fun _ z => T1.none z),
        fun σ2 ρ2 F2 H2 q S2 T2 => f3 σ2 ρ2 F2 H2 q S2 (T1.trans T2), fun σ2 ρ2 F2 H2 q S2 T2 => f4 σ2 ρ2 F2 H2 q S2 (T1.trans T2)⟩
    cases b with
    | true => exact fin q
    | false => exact fin q⟩
theorem ds_set {i : Nat} {x : Str} {pos' : Pos} (hN : X.N.Nodup) (hi : X.N[i]? = some x) (hx : Loc X.env.scope x) (he : DE X e da) (hs : swapsWith e (some (.Name x pos')) pos.line X.env = pure false := by rfl) (hf : X.fn x = true ∨ X.env.scope.names.lookup x = some .local := by first | exact .inl rfl | exact .inr rfl | assumption) :
    DS X (.Assign [.Name x pos'] e pos) (dSet i da) := PS.le (ps_set hN hi hx he hs hf) fun E σ H ⟨F, ρ, G, S, q, f1, f2, f3, f4⟩ =>
  ⟨F, ρ, _, S, q, fun r ρ1 v F1 H1 q S1 T1 f => by
    obtain ⟨s, ρ2, F2, q, S2, T2⟩ := toSlot_ok (i := i) S S1 T1 f q
    exact f1 _ _ _ _ q S2 T2⟩
/-- two frozen values stored -/
theorem ds_par {i j : Nat} {x y : Str} {a b : Expr} {da : DTA} {px py pt : Pos} {kt k2 pt2} (hc : X.calm = true) (hN : X.N.Nodup) (hi : X.N[i]? = some x) (hj : X.N[j]? = some y) (hij : i ≠ j)
    (hx : X.env.scope.names.lookup x = some .local) (hy : X.env.scope.names.lookup y = some .local) (ha : DA X [a, b] da)
    (hw : swappedStores [.Tuple [.Name x px, .Name y py] kt pt] (.Tuple [a, b] k2 pt2) X.env = pure (some [x, y]))
    (hs : swapsWithSole [.Tuple [.Name x px, .Name y py] kt pt] (.Tuple [a, b] k2 pt2) pos.line X.env = pure false := by rfl) :
    DS X (.Assign [.Tuple [.Name x px, .Name y py] kt pt] (.Tuple [a, b] k2 pt2) pos) (dPar i j da) := PS.le (ps_par hc hN hi hj hij hx hy ha hw hs) fun E σ H ⟨F, ρ, G, S, q, f1, f2, f3, f4⟩ =>
  ⟨F, ρ, _, S, q, fun rs ρ1 vs F1 H1 q S1 T1 f => by
    split at q
    · rename_i r r'
      match vs, f with
      | [v, w], ⟨g1, g2, _⟩ =>
        refine ⟨v, w, rfl, ?_⟩
        obtain ⟨d, ρ2, F2, q, S2, T2, dp, e2, o2⟩ := fzR_ok S1 g1.w T1 q
        obtain ⟨d', ρ3, F3, q, S3, T3, dp', e3, o3⟩ := fzR_ok S2 (g2.w.frz e2 o2) T2 q
        have S4 := S3.store (i := i) (v := v) (s := .fz d) (dp_mono e3 dp)
        have S5 := S4.store (i := j) (v := w) (s := .fz d') dp'
        refine f1 _ _ _ _ q S5 ⟨T3.fext, T3.keep, T3.there, fun b z => ?_, T3.fnew⟩
        rcases oa_store S4 b z with y | ⟨⟨_, _, _, y⟩, _⟩
        · rcases oa_store S3 b y with y | ⟨⟨_, _, _, y⟩, _⟩
          · exact T3.own b y
          · cases y
        · cases y
    · exact q.elim⟩
theorem ds_aug {i : Nat} {x : Str} {op : Operator} {g : D → D → (Res → Prop) → Prop} {pos' : Pos} (hN : X.N.Nodup) (hi : X.N[i]? = some x) (hx : Loc X.env.scope x) (ho : OpR X (inplaceOp op) (r2 X.K g)) (he : DE X e da) (hf : X.fn x = true ∨ X.env.scope.names.lookup x = some .local := by first | exact .inl rfl | exact .inr rfl | assumption) :
    DS X (.AugAssign (.Name x pos') op e pos) (dAug i g da) := PS.le (ps_aug hN hi hx he (show PIp X op (r2 X.K g) from ho) hf) fun E σ H ⟨F, ρ, G, S, q, f1, f2, f3, f4⟩ => by
  obtain ⟨q0, q⟩ := q
  split at q0
  · rename_i d0 e0
    obtain ⟨v, h1, dp⟩ := S.fz i d0 e0
    refine ⟨v, h1, ?_⟩
    unfold dBin dName at q
    rw [e0] at q
    refine ⟨F, ρ, _, S, q, fun y ρ1 w F1 H1 q S1 T1 f => ?_⟩
    have fv : Fits X.K F1 H1 σ ρ1 H v (.fz d0) := dp_mono T1.fext dp
    exact op2_fin (k := fun r ρ1 => toSlot r ρ1 fun s ρ2 => G.nx (ρ2.set i s)) q S1 T1 fv f fun r ρ' w' F' H' q S' T' f' => by
      obtain ⟨s, ρ2, F2, q, S2, T2⟩ := toSlot_ok (i := i) S S' T' f' q
      exact f1 _ _ _ _ q S2 T2
  · exact q0.elim

/-! ### targets -/
abbrev DTG := D → List Slot → (List Slot → Prop) → Prop
section
variable (K : PySem.W.Frag)
/-- js: the slots that the target names -/
def upG (js : List Nat) (g : DTG) : TG := fun v σ H Q => ∃ F ρ d k, Sta K F H σ ρ ∧ Dp K F v d ∧ g d ρ k ∧ ∀ σ' ρ' F' H', k ρ' → Sta K F' H' σ' ρ' → Tr F H σ ρ F' H' σ' ρ' → σ'.length = σ.length → (∀ j, j ∉ js → σ'[j]? = σ[j]? ∧ ρ'[j]? = ρ[j]?) → Q σ' H'
def upGs (js : List Nat) (g : List D → List Slot → (List Slot → Prop) → Prop) : TGs := fun vs σ H Q => ∃ F ρ ds k, Sta K F H σ ρ ∧ DpAll K F vs ds ∧ g ds ρ k ∧ ∀ σ' ρ' F' H', k ρ' → Sta K F' H' σ' ρ' → Tr F H σ ρ F' H' σ' ρ' → σ'.length = σ.length → (∀ j, j ∉ js → σ'[j]? = σ[j]? ∧ ρ'[j]? = ρ[j]?) → Q σ' H'
end
theorem PG.le {tg : Expr} {t u : TG} (h : PG X tg t) (w : ∀ v σ H Q, u v σ H Q → t v σ H Q) : PG X tg u := ⟨fun pins s σ H v x Q I r q => h.run pins s σ H v x Q I r (w _ _ _ _ q)⟩
theorem PGs.le {tg : List Expr} {t u : TGs} (h : PGs X tg t) (w : ∀ v σ H Q, u v σ H Q → t v σ H Q) : PGs X tg u := ⟨fun pins s σ H v x Q I r q => h.run pins s σ H v x Q I r (w _ _ _ _ q)⟩
def DG (X : Cx) (tg : Expr) (js : List Nat) (g : DTG) : Prop := PG X tg (upG X.K js g)
def DGs (X : Cx) (tg : List Expr) (js : List Nat) (g : List D → List Slot → (List Slot → Prop) → Prop) : Prop := PGs X tg (upGs X.K js g)
@[simp] def gN (i : Nat) : DTG := fun d ρ k => k (ρ.set i (.fz d))
@[simp] def gsN : List D → List Slot → (List Slot → Prop) → Prop := fun ds ρ k => match ds with | [] => k ρ | _ => False
@[simp] def gsC (g : DTG) (gs : List D → List Slot → (List Slot → Prop) → Prop) : List D → List Slot → (List Slot → Prop) → Prop := fun ds ρ k => match ds with | d :: ds => g d ρ fun ρ1 => gs ds ρ1 k | [] => False
@[simp] def gT (n : Nat) (gs : List D → List Slot → (List Slot → Prop) → Prop) : DTG := fun d ρ k => match d with | .tuple ds => ds.length = n ∧ gs ds ρ k | _ => False
theorem dg_name {i : Nat} {x : Str} (hN : X.N.Nodup) (hi : X.N[i]? = some x) (hx : Loc X.env.scope x) (hf : X.fn x = true ∨ X.env.scope.names.lookup x = some .local := by first | exact .inl rfl | exact .inr rfl | assumption) : DG X (.Name x pos) [i] (gN i) :=
  PG.le (pg_name hN hi hx hf) fun v σ H Q ⟨F, ρ, d, k, S, dp, q, fin⟩ => by
    refine fin _ _ F H q (S.store dp) (TrX.refl.store S fun _ h _ => by obtain ⟨_, _, _, z⟩ := h; cases z) (by simp) fun j hj => ?_
    have hne : i ≠ j := fun z => hj (by simp [z])
    rw [List.getElem?_set_ne hne, List.getElem?_set_ne hne]
    exact ⟨rfl, rfl⟩
theorem dgs_nil : DGs X [] [] gsN := PGs.le pgs_nil fun vs σ H Q ⟨F, ρ, ds, k, S, dp, q, fin⟩ => by
  cases dp with
  | nil => exact ⟨rfl, fin σ ρ F H q S .refl rfl fun _ _ => ⟨rfl, rfl⟩⟩
  | cons _ _ => exact q.elim
theorem dgs_cons {e : Expr} {es : List Expr} {js js' : List Nat} {g : DTG} {gs} (h1 : DG X e js g) (h2 : DGs X es js' gs) (hs : (assignEach (e :: es) X.env).map (·.2) = assign e X.env :: (assignEach es X.env).map (·.2) := by rfl) : DGs X (e :: es) (js ++ js') (gsC g gs) :=
  PGs.le (pgs_cons h1 h2 hs) fun vs σ H Q ⟨F, ρ, ds, k, S, dp, q, fin⟩ => by
    cases dp with
    | nil => exact q.elim
    | cons p ps =>
      exact ⟨_, _, rfl, F, ρ, _, _, S, p, q, fun σ1 ρ1 F1 H1 q S1 T1 l1 n1 => ⟨F1, ρ1, _, k, S1, dpAll_mono T1.fext ps, q, fun σ2 ρ2 F2 H2 q S2 T2 l2 n2 =>
        fin σ2 ρ2 F2 H2 q S2 (T1.trans T2) (l2.trans l1) fun j hj => by
          rw [List.mem_append, not_or] at hj
          exact ⟨(n2 j hj.2).1.trans (n1 j hj.1).1, (n2 j hj.2).2.trans (n1 j hj.1).2⟩⟩⟩
theorem dg_tup {es : List Expr} {kk : Nat} {js : List Nat} {gs} {n : Nat} (hc : X.calm = true) (h : DGs X es js gs)
    (hn : (assignEach es X.env).length = n := by rfl) (hst : (assignEach es X.env).findIdx? (·.1) = none := by rfl) : DG X (.Tuple es kk pos) js (gT n gs) :=
  PG.le (pg_tup hc h hn hst) fun v σ H Q ⟨F, ρ, d, k, S, dp, q, fin⟩ => by
    unfold gT at q
    split at q
    · rename_i ds
      obtain ⟨q1, q⟩ := q
      cases dp with
      | tup h1 h2 =>
        refine ⟨_, _, rfl, ex_t S.sub h1.sq, ?_, F, ρ, ds, k, S, h2, q, fin⟩
        rw [dpAll_len h2, q1]
    · exact q.elim
/-- targets = value: the value is frozen first -/
@[simp] def dAsg (g : DTG) (da : DTE) : DTS := fun E ρ => da ρ fun r ρ1 => fzR r ρ1 fun d ρ2 => g d ρ2 E.nx
theorem ds_asg {tg e : Expr} {js : List Nat} {g : DTG} (he : DE X e da) (hg : DG X tg js g) (hs : swapsWithSole [tg] e pos.line X.env = pure false := by rfl) (hw : swappedStores [tg] e X.env = pure none := by rfl)
    (h1 : (assignEach [tg] X.env).map (·.2) = [assign tg X.env] := by rfl) : DS X (.Assign [tg] e pos) (dAsg g da) :=
  PS.le (ps_asg he hg hs hw h1) fun E σ H ⟨F, ρ, G, S, q, f1, f2, f3, f4⟩ => ⟨F, ρ, _, S, q, fun r ρ1 v F1 H1 q S1 T1 f => by
    obtain ⟨d, ρ2, F2, q, S2, T2, dp, _⟩ := fzR_ok S1 f.w T1 q
    exact ⟨F2, ρ2, d, _, S2, dp, q, fun σ3 ρ3 F3 H3 q S3 T3 _ _ => f1 σ3 ρ3 F3 H3 q S3 (T2.toTr.trans T3)⟩⟩

/-! ### while -/
def dWhileN (t : DTT) (s : DTS) (E : DEnds) : Nat → List Slot → Prop
  | 0, _ => False
  | n + 1, ρ => t ρ fun b ρ1 => if b = true then s { nx := dWhileN t s E n, rt := E.rt, bk := E.nx, ct := dWhileN t s E n } ρ1 else E.nx ρ1
def dWhile (t : DTT) (s : DTS) : DTS := fun E ρ => ∃ n, dWhileN t s E n ρ
theorem ds_while {c : Expr} {body : List Stmt} (hp : PassesOwn (model X.prog X.w) X.A X.env X.xe) (hc : DT X c ta) (hb : DSs X body s) : DS X (.While c body [] pos) (dWhile ta s) :=
  PS.le (ps_while hp hc hb) fun E σ H ⟨F, ρ, G, S, q, f1, f2, f3, f4⟩ => by
    obtain ⟨n, q⟩ := q
    refine ⟨fun m σ' H' => ∃ F' ρ', Sta X.K F' H' σ' ρ' ∧ Tr F H σ ρ F' H' σ' ρ' ∧ dWhileN ta s G m ρ', ⟨n, F, ρ, S, .refl, q⟩, ?_⟩
    rintro m σ1 H1 ⟨F1, ρ1, S1, T1, q1⟩
    cases m with
    | zero => exact q1.elim
    | succ m =>
      refine ⟨F1, ρ1, _, S1, q1, fun b ρ2 F2 H2 q2 S2 T2 => ?_⟩
      have T2 := T1.trans T2.toTr
      cases b with
      | true =>
        refine ⟨fun σ' H' => ∃ F' ρ', Sta X.K F' H' σ' ρ' ∧ Tr F H σ ρ F' H' σ' ρ' ∧ dWhileN ta s G m ρ', fun σ' H' ⟨F', ρ', a, b, c⟩ => ⟨m, Nat.lt_succ_self m, F', ρ', a, b, c⟩, ?_⟩
        exact ⟨F2, ρ2, _, S2, q2, fun σ3 ρ3 F3 H3 q S3 T3 => ⟨F3, ρ3, S3, T2.trans T3, q⟩, fun r σ3 ρ3 v F3 H3 q S3 T3 f => f2 r σ3 ρ3 v F3 H3 q S3 (T2.trans T3) (f.back fun _ z => T2.none z),
          fun σ3 ρ3 F3 H3 q S3 T3 => f1 σ3 ρ3 F3 H3 q S3 (T2.trans T3), fun σ3 ρ3 F3 H3 q S3 T3 => ⟨F3, ρ3, S3, T2.trans T3, q⟩⟩
      | false => exact f1 σ1 ρ2 F2 H2 q2 S2 T2
end
end TL

-- part TL5
/-! TL5: what is walked; for; comprehensions. -/
namespace TL
open PySem PySem.Spec L2
open Evl (Ex ex_l ex_t)
variable [Lay]

@[simp] def cont (ρ : List Slot) (j : Nat) : Option D := match ρ[j]? with
  | some (.ow _ _ d) => some d
  | some (.fz d) => some d
  | some (.rd d) => some d
  | _ => none
/-- the slots that are walked stand as they stood -/
@[simp] def stl : List (Nat × D) → List Slot → Prop
  | [], _ => True
  | (j, d) :: r, ρ => cont ρ j = some d ∧ stl r ρ
theorem stl_all {src : List (Nat × D)} {ρ : List Slot} : stl src ρ → ∀ p ∈ src, cont ρ p.1 = some p.2 := by
  induction src with
  | nil => intro _ p hp; cases hp
  | cons a r ih =>
    intro h p hp
    obtain ⟨h1, h2⟩ := h
    rcases List.mem_cons.mp hp with e | e
    · rw [e]; exact h1
    · exact ih h2 p e
section
variable (K : PySem.W.Frag)
/-- an iterator J yields the items, from any state to which the state at its making may lead -/
def Wk (J : It) (items : List D) (src : List (Nat × D)) (F0 H0 : Hp) (σ0 : L2.St) (ρ0 : List Slot) : Prop :=
  ∀ F H σ ρ, Sta K F H σ ρ → Tr F0 H0 σ0 ρ0 F H σ ρ → (∀ p ∈ src, σ[p.1]? = σ0[p.1]? ∧ cont ρ p.1 = some p.2) →
    (∀ i, items.length ≤ i → J.stop i H) ∧ ∀ i d, items[i]? = some d → J.go i H ∧ ∀ x H', J.yld i H x H' → ∃ F', Ex F F' ∧ Ex H H' ∧ Ex F' H' ∧ (∀ b o, F' b = some o → F b = some o ∨ H b = none) ∧ Dp K F' x d
end
abbrev DTI := List Slot → (List D → List (Nat × D) → List Slot → Prop) → Prop
def upI (K : PySem.W.Frag) (w : DTI) : TI := fun σ H R => ∃ F ρ k, Sta K F H σ ρ ∧ w ρ k ∧ ∀ items src ρ' F' H' J, k items src ρ' → Sta K F' H' σ ρ' → TrX F H σ ρ F' H' ρ' → Wk K J items src F' H' σ ρ' → R J H'
theorem PI.le {X : Cx} {tg it : Expr} {t u : TI} (h : PI X tg it t) (w : ∀ σ H R, u σ H R → t σ H R) : PI X tg it u := ⟨fun pins s σ H R I q => h.run pins s σ H R I (w _ _ _ q)⟩
def DI (X : Cx) (tg it : Expr) (w : DTI) : Prop := PI X tg it (upI X.K w)
def dLoop (g : DTG) (s : DTS) (E : DEnds) : List D → List Slot → Prop
  | [], ρ => E.nx ρ
  | d :: ds, ρ => g d ρ fun ρ1 => s { nx := dLoop g s E ds, rt := E.rt, bk := E.nx, ct := dLoop g s E ds } ρ1
@[simp] def dFor (w : DTI) (g : DTG) (s : DTS) : DTS := fun E ρ => w ρ fun items src ρ1 => (match src with | [] => True | _ => False) ∧ dLoop g s E items ρ1
section
variable {X : Cx} {pos : Pos}
theorem ds_for {tg iter : Expr} {body : List Stmt} {w : DTI} {js : List Nat} {g : DTG} {s : DTS} (hp : PassesOwn (model X.prog X.w) X.A X.env X.xe) (hc : X.calm = true) (hi : DI X tg iter w) (hg : DG X tg js g) (hb : DSs X body s)
    (hs : ∀ x, foldedSetIterable iter X.env x = pure x := by intro _; rfl) : DS X (.For tg iter body [] pos) (dFor w g s) :=
  PS.le (ps_for hp hc hi hg hb hs) fun E σ H ⟨F, ρ, G, S, q, f1, f2, f3, f4⟩ => ⟨F, ρ, _, S, q, fun items src ρ1 F1 H1 J q S1 T1 wk => by
    obtain ⟨q0, q⟩ := q
    split at q0
    · refine ⟨fun i m σ' H' => m = items.length - i ∧ i ≤ items.length ∧ ∃ F' ρ', Sta X.K F' H' σ' ρ' ∧ Tr F1 H1 σ ρ1 F' H' σ' ρ' ∧ dLoop g s G (items.drop i) ρ', ⟨items.length, by simp, Nat.zero_le _, F1, ρ1, S1, .refl, q⟩, ?_⟩
      rintro i m σ2 H2 ⟨rfl, hi, F2, ρ2, S2, T2, q2⟩
      obtain ⟨w1, w2⟩ := wk F2 H2 σ2 ρ2 S2 T2 fun p hp => absurd hp (by simp)
      by_cases hl : i < items.length
      · rw [List.drop_eq_getElem_cons hl] at q2
        obtain ⟨go, yl⟩ := w2 i items[i] (List.getElem?_eq_getElem hl)
        refine .inr ⟨go, fun σ' H' => ∃ F' ρ', Sta X.K F' H' σ' ρ' ∧ Tr F1 H1 σ ρ1 F' H' σ' ρ' ∧ dLoop g s G (items.drop (i + 1)) ρ', fun σ' H' z => ⟨items.length - (i + 1), by omega, rfl, hl, z⟩, fun x H3 hy => ?_⟩
        obtain ⟨F3, e1, e2, e3, e4, dp⟩ := yl x H3 hy
        have S3 := S2.grow e1 e2 e3 e4
        have T3 : Tr F2 H2 σ2 ρ2 F3 H3 σ2 ρ2 := ⟨e1, fun b o h _ _ => e2 b o h, fun b o h => ⟨o, e2 b o h⟩, fun _ h => .inl h, fun b o h => (e4 b o h).imp id .inl⟩
        have T3 := T2.trans T3
        refine ⟨F3, ρ2, items[i], _, S3, dp, q2, fun σ4 ρ4 F4 H4 q4 S4 T4 _ _ => ?_⟩
        have T4 := T3.trans T4
        have T5 := T1.toTr.trans T4
        exact ⟨F4, ρ4, _, S4, q4, fun σ5 ρ5 F5 H5 q S5 T5 => ⟨F5, ρ5, S5, T4.trans T5, q⟩, fun r σ' ρ' v F' H' q S' T' f => f2 r σ' ρ' v F' H' q S' (T5.trans T') (f.back fun _ z => T5.none z),
          fun σ5 ρ5 F5 H5 q S5 T' => f1 σ5 ρ5 F5 H5 q S5 (T5.trans T'), fun σ5 ρ5 F5 H5 q S5 T5 => ⟨F5, ρ5, S5, T4.trans T5, q⟩⟩
      · have e : i = items.length := by omega
        subst e
        rw [List.drop_length] at q2
        exact .inl ⟨w1 _ (Nat.le_refl _), f1 σ2 ρ2 F2 H2 q2 S2 (T1.toTr.trans T2)⟩
    · exact q0.elim⟩
end

/-! ### comprehensions -/
@[simp] def wipeR (ρ : List Slot) : List Nat → List Slot
  | [] => ρ
  | j :: vs => (wipeR ρ vs).set j .un
@[simp] def keepS : Option Slot → Slot
  | some (.fz d) => .fz d
  | some (.rd d) => .rd d
  | _ => .un
@[simp] def restR (vs : List Nat) (ρ0 ρ1 : List Slot) : List Slot := match vs with
  | [] => ρ1
  | j :: vs => (restR vs ρ0 ρ1).set j (keepS ρ0[j]?)
def dCompL (g : DTG) (tt : DTT) (te : DTE) (src : List (Nat × D)) (vs : List Nat) (k : List D → List Slot → Prop) : List D → List D → List Slot → Prop
  | [], acc, ρ => stl src ρ ∧ k acc ρ
  | d :: ds, acc, ρ => stl src ρ ∧ g d ρ fun ρ1 => tt ρ1 fun b ρ2 => if b = true then te ρ2 fun r ρ3 => fzR r ρ3 fun v ρ4 => acc.length < sizeLine ∧ dCompL g tt te src vs k ds (acc ++ [v]) (wipeR ρ4 vs)
      else dCompL g tt te src vs k ds acc (wipeR ρ2 vs)
@[simp] def dComp (w : DTI) (g : DTG) (tt : DTT) (te : DTE) (vs : List Nat) : DTE := fun ρ k => w ρ fun items src ρ1 => (∀ p ∈ src, p.1 ∉ vs) ∧ dCompL g tt te src vs (fun acc ρ2 => k (.tm .l (.list acc)) (restR vs ρ1 ρ2)) items [] (wipeR ρ1 vs)
def DTsT (X : Cx) (ifs : List Expr) (d : DTT) : Prop := PTs X ifs (upT X.K d)
@[simp] def dYes : DTT := fun ρ k => k true ρ
section
variable {X : Cx}
theorem PTs.le {ifs : List Expr} {t u : TT} (h : PTs X ifs t) (w : ∀ σ H Q, u σ H Q → t σ H Q) : PTs X ifs u := ⟨fun pins s σ H Q I q => h.run pins s σ H Q I (w _ _ _ q)⟩
theorem dts_nil : DTsT X [] dYes := PTs.le pts_nil fun σ H Q ⟨F, ρ, k, S, q, fin⟩ => fin _ _ F H q S .refl
theorem dts_one {c : Expr} {t : DTT} (h : DT X c t) : DTsT X [c] t := pts_one h
end
section
variable {K : PySem.W.Frag} {F F' F0 F1 F2 H H' H0 H1 H2 : Hp} {σ σ' σ0 σ1 σ2 : L2.St} {ρ ρ' ρ0 ρ1 ρ2 : List Slot}
theorem wipeR_get {j : Nat} : ∀ {vs : List Nat}, j ∉ vs → (wipeR ρ vs)[j]? = ρ[j]?
  | [], _ => rfl
  | v :: vs, h => by
    have h1 : v ≠ j := fun z => h (by simp [z])
    show ((wipeR ρ vs).set v .un)[j]? = _
    rw [List.getElem?_set_ne h1]
    exact wipeR_get fun z => h (by simp [z])
theorem wipeR_un {j : Nat} {s : Slot} : ∀ {vs : List Nat}, j ∈ vs → (wipeR ρ vs)[j]? = some s → s = .un
  | v :: vs, h, e => by
    have e : ((wipeR ρ vs).set v .un)[j]? = some s := e
    rcases get_sets e with ⟨_, z⟩ | ⟨z1, z2⟩
    · exact z
    · rcases List.mem_cons.mp h with y | y
      · exact absurd y.symm z1
      · exact wipeR_un y z2
theorem wipeR_cases {j : Nat} {s : Slot} {vs : List Nat} (e : (wipeR ρ vs)[j]? = some s) : s = .un ∨ (j ∉ vs ∧ ρ[j]? = some s) := by
  by_cases h : j ∈ vs
  · exact .inl (wipeR_un h e)
  · exact .inr ⟨h, by rw [← wipeR_get h]; exact e⟩
theorem wipeR_len : ∀ {vs : List Nat}, (wipeR ρ vs).length = ρ.length
  | [] => rfl
  | v :: vs => by show ((wipeR ρ vs).set v .un).length = _; rw [List.length_set]; exact wipeR_len
theorem wipe_get {j : Nat} : ∀ {vs : List Nat}, j ∉ vs → (wipe σ vs)[j]? = σ[j]? := fun {vs} h => by
  exact wipe_out h
theorem oa_wipe {vs : List Nat} {b : Addr} (h : OA (wipe σ vs) (wipeR ρ vs) b) : OA σ ρ b := by
  obtain ⟨i, t, κ, d, h1, h2⟩ := h
  rcases wipeR_cases h1 with z | ⟨z, h1⟩
  · cases z
  · rw [wipe_get z] at h2
    exact ⟨i, t, κ, d, h1, h2⟩
theorem Sta.wipe {vs : List Nat} (S : Sta K F H σ ρ) : Sta K F H (wipe σ vs) (wipeR ρ vs) := by
  refine ⟨S.sub, by rw [wipe_length, wipeR_len]; exact S.len, fun i d e => ?_, fun i d e => ?_, fun i t κ d e => ?_, fun i j t t' κ κ' d d' a e e' h h' => ?_, S.tab⟩
  · rcases wipeR_cases e with z | ⟨z, e⟩
    · cases z
    · rw [wipe_get z]; exact S.fz i d e
  · rcases wipeR_cases e with z | ⟨z, e⟩
    · cases z
    · rw [wipe_get z]
      obtain ⟨v, h1, h2⟩ := S.rd i d e
      refine ⟨v, h1, ?_⟩
      rcases h2 with h2 | ⟨κ, a, e1, h2, n⟩
      · exact .inl h2
      · exact .inr ⟨κ, a, e1, h2, fun y => n (oa_wipe y)⟩
  · rcases wipeR_cases e with z | ⟨z, e⟩
    · cases z
    · rw [wipe_get z]; exact S.ow i t κ d e
  · rcases wipeR_cases e with z | ⟨z, e⟩
    · cases z
    · rcases wipeR_cases e' with z' | ⟨z', e'⟩
      · cases z'
      · rw [wipe_get z] at h
        rw [wipe_get z'] at h'
        exact S.inj i j t t' κ κ' d d' a e e' h h'
theorem restR_out {j : Nat} : ∀ {vs : List Nat}, j ∉ vs → (restR vs ρ0 ρ1)[j]? = ρ1[j]?
  | [], _ => rfl
  | v :: vs, h => by
    have h1 : v ≠ j := fun z => h (by simp [z])
    show ((restR vs ρ0 ρ1).set v (keepS ρ0[v]?))[j]? = _
    rw [List.getElem?_set_ne h1]
    exact restR_out fun z => h (by simp [z])
theorem restR_in {j : Nat} {s : Slot} : ∀ {vs : List Nat}, j ∈ vs → (restR vs ρ0 ρ1)[j]? = some s → s = keepS ρ0[j]?
  | v :: vs, h, e => by
    have e : ((restR vs ρ0 ρ1).set v (keepS ρ0[v]?))[j]? = some s := e
    rcases get_sets e with ⟨y, z⟩ | ⟨z1, z2⟩
    · rw [← y]; exact z
    · rcases List.mem_cons.mp h with y | y
      · exact absurd y.symm z1
      · exact restR_in y z2
theorem restR_len : ∀ {vs : List Nat}, (restR vs ρ0 ρ1).length = ρ1.length
  | [] => rfl
  | v :: vs => by show ((restR vs ρ0 ρ1).set v _).length = _; rw [List.length_set]; exact restR_len
theorem keepS_fz {s : Option Slot} {d : D} (h : Slot.fz d = keepS s) : s = some (.fz d) := by
  unfold keepS at h; split at h <;> cases h; rfl
theorem keepS_rd {s : Option Slot} {d : D} (h : Slot.rd d = keepS s) : s = some (.rd d) := by
  unfold keepS at h; split at h <;> cases h; rfl
theorem keepS_ow {s : Option Slot} {t κ} {d : D} (h : Slot.ow t κ d = keepS s) : False := by
  unfold keepS at h; split at h <;> cases h
/-- behind a block: the names around it stand again -/
theorem Sta.rest {vs : List Nat} (S0 : Sta K F0 H0 σ ρ0) (S : Sta K F H (L2.wipe σ vs) (wipeR ρ vs)) (T : Tr F0 H0 (L2.wipe σ vs) (wipeR ρ0 vs) F H (L2.wipe σ vs) (wipeR ρ vs)) : Sta K F H σ (restR vs ρ0 (wipeR ρ vs)) := by
  have cs : ∀ {j : Nat} {s : Slot}, (restR vs ρ0 (wipeR ρ vs))[j]? = some s → (j ∈ vs ∧ s = keepS ρ0[j]?) ∨ (j ∉ vs ∧ (wipeR ρ vs)[j]? = some s) := fun {j s} e => by
    by_cases h : j ∈ vs
    · exact .inl ⟨h, restR_in h e⟩
    · exact .inr ⟨h, by rw [← restR_out h (ρ0 := ρ0)]; exact e⟩
  have oa : ∀ b, OA σ (restR vs ρ0 (wipeR ρ vs)) b → OA (L2.wipe σ vs) (wipeR ρ vs) b := fun b ⟨i, t, κ, d, h1, h2⟩ => by
    rcases cs h1 with ⟨_, z⟩ | ⟨z, h1⟩
    · exact (keepS_ow z).elim
    · exact ⟨i, t, κ, d, h1, by rw [wipe_get z]; exact h2⟩
  refine ⟨S.sub, ?_, fun i d e => ?_, fun i d e => ?_, fun i t κ d e => ?_, fun i j t t' κ κ' d d' a e e' h h' => ?_, S.tab⟩
  · rw [restR_len, ← S.len, wipe_length]
  · rcases cs e with ⟨_, z⟩ | ⟨z, e⟩
    · obtain ⟨v, h1, h2⟩ := S0.fz i d (keepS_fz z)
      exact ⟨v, h1, dp_mono T.fext h2⟩
    · obtain ⟨v, h1, h2⟩ := S.fz i d e
      rw [wipe_get z] at h1
      exact ⟨v, h1, h2⟩
  · rcases cs e with ⟨_, z⟩ | ⟨z, e⟩
    · obtain ⟨v, h1, h2⟩ := S0.rd i d (keepS_rd z)
      refine ⟨v, h1, ?_⟩
      have h2' : RdN K F0 H0 (OA (L2.wipe σ vs) (wipeR ρ0 vs)) v d := by
        rcases h2 with h2 | ⟨κ, a, e1, h2, n⟩
        · exact .inl h2
        · exact .inr ⟨κ, a, e1, h2, fun y => n (oa_wipe y)⟩
      rcases RdN.later h2' T with h3 | ⟨κ, a, e1, h3, n⟩
      · exact .inl h3
      · exact .inr ⟨κ, a, e1, h3, fun y => n (oa a y)⟩
    · obtain ⟨v, h1, h2⟩ := S.rd i d e
      rw [wipe_get z] at h1
      refine ⟨v, h1, ?_⟩
      rcases h2 with h3 | ⟨κ, a, e1, h3, n⟩
      · exact .inl h3
      · exact .inr ⟨κ, a, e1, h3, fun y => n (oa a y)⟩
  · rcases cs e with ⟨_, z⟩ | ⟨z, e⟩
    · exact (keepS_ow z).elim
    · obtain ⟨a, h1, h2⟩ := S.ow i t κ d e
      rw [wipe_get z] at h1
      exact ⟨a, h1, h2⟩
  · rcases cs e with ⟨_, z⟩ | ⟨z, e⟩
    · exact (keepS_ow z).elim
    · rcases cs e' with ⟨_, z'⟩ | ⟨z', e'⟩
      · exact (keepS_ow z').elim
      · exact S.inj i j t t' κ κ' d d' a e e' (by rw [wipe_get z]; exact h) (by rw [wipe_get z']; exact h')
theorem Tr.rest {vs : List Nat} (S0 : Sta K F0 H0 σ ρ0) (T : Tr F0 H0 (L2.wipe σ vs) (wipeR ρ0 vs) F H (L2.wipe σ vs) (wipeR ρ vs)) (sl : ∀ (i : Nat) (t : Option Addr) (κ : Kd) (d : D), (wipeR ρ vs)[i]? = some (.ow t κ d) → ∃ d0, (wipeR ρ0 vs)[i]? = some (.ow t κ d0))
    (sr : ∀ (i : Nat) (d : D), (wipeR ρ vs)[i]? = some (.rd d) → (wipeR ρ0 vs)[i]? = some (.rd d) ∨ ∃ t κ d0, (wipeR ρ0 vs)[i]? = some (.ow t κ d0)) : TrX F0 H0 σ ρ0 F H (restR vs ρ0 (wipeR ρ vs)) := by
  have cs : ∀ {j : Nat} {s : Slot}, (restR vs ρ0 (wipeR ρ vs))[j]? = some s → (j ∈ vs ∧ s = keepS ρ0[j]?) ∨ (j ∉ vs ∧ (wipeR ρ vs)[j]? = some s) := fun {j s} e => by
    by_cases h : j ∈ vs
    · exact .inl ⟨h, restR_in h e⟩
    · exact .inr ⟨h, by rw [← restR_out h (ρ0 := ρ0)]; exact e⟩
  refine ⟨⟨T.fext, fun b o h nt n => T.keep b o h nt fun z => n (oa_wipe z), T.there, fun b h => ?_, fun b o h => ?_⟩, fun i t κ d e => ?_, fun i d e => ?_⟩
  · obtain ⟨i, t, κ, d, h1, h2⟩ := h
    rcases cs h1 with ⟨_, z⟩ | ⟨z, h1⟩
    · exact (keepS_ow z).elim
    · exact (T.own b ⟨i, t, κ, d, h1, by rw [wipe_get z]; exact h2⟩).imp oa_wipe id
  · rcases T.fnew b o h with y | y | y
    · exact .inl y
    · exact .inr (.inl y)
    · exact .inr (.inr (oa_wipe y))
  · rcases cs e with ⟨_, z⟩ | ⟨z, e⟩
    · exact (keepS_ow z).elim
    · obtain ⟨d0, h⟩ := sl i t κ d e
      rw [wipeR_get z] at h
      exact ⟨d0, h⟩
  · rcases cs e with ⟨_, z⟩ | ⟨z, e⟩
    · exact .inl (keepS_rd z)
    · have h := sr i d e
      rw [wipeR_get z] at h
      exact h
/-- an object that is neither frozen nor owned is changed -/
theorem Sta.updD {L : Addr} {o : HO} (S : Sta K F H σ ρ) (nl : ∀ o, H L = some o → NC o) (f : F L = none) (n : ¬ OA σ ρ L) (r : ∀ (i : Nat) (d : D), ρ[i]? = some (.rd d) → σ[i]? = some (some (.ref L)) → Dp K F (.ref L) d) : Sta K F (upd H L o) σ ρ := by
  refine ⟨fun b u h => ?_, S.len, S.fz, fun i d e => ?_, fun i t κ d e => ?_, S.inj, tabs_at S.tab nl fun b hb => upd_ne hb⟩
  · rw [upd_ne (fun z => by rw [z, f] at h; cases h)]
    exact S.sub b u h
  · obtain ⟨v, h1, h2⟩ := S.rd i d e
    refine ⟨v, h1, ?_⟩
    by_cases hv : v = .ref L
    · subst hv; exact .inl (r i d e h1)
    · rcases h2 with h2 | ⟨κ, a, e1, h2, m⟩
      · exact .inl h2
      · refine .inr ⟨κ, a, e1, h2.mono (Ex.refl F) fun u _ q => ?_, m⟩
        rw [upd_ne (fun z => hv (by rw [e1, z]))]
        exact q
  · obtain ⟨a, h1, h2, h3, h4⟩ := S.ow i t κ d e
    refine ⟨a, h1, h2.mono (Ex.refl F) fun u _ q => ?_, h3, h4⟩
    rw [upd_ne (fun z => n ⟨i, t, κ, d, e, by rw [← z]; exact h1⟩)]
    exact q
theorem Tr.wiped {vs : List Nat} (T : Tr F0 H0 σ0 ρ0 F H σ ρ) : Tr F0 H0 σ0 ρ0 F H (L2.wipe σ vs) (wipeR ρ vs) := ⟨T.fext, T.keep, T.there, fun b h => T.own b (oa_wipe h), T.fnew⟩
/-- what a comprehension's block keeps: L the new list -/
structure Blk (K : PySem.W.Frag) (L : Addr) (vs : List Nat) (F1 H1 : Hp) (σ : L2.St) (ρ1 : List Slot) (F H : Hp) (ρ : List Slot) (acc : List D) : Prop where
  sta : Sta K F H (L2.wipe σ vs) (wipeR ρ vs)
  tr : Tr F1 H1 (L2.wipe σ vs) (wipeR ρ1 vs) F H (L2.wipe σ vs) (wipeR ρ vs)
  slow : ∀ (i : Nat) (t : Option Addr) (κ : Kd) (d : D), (wipeR ρ vs)[i]? = some (.ow t κ d) → ∃ d0, (wipeR ρ1 vs)[i]? = some (.ow t κ d0)
  slrd : ∀ (i : Nat) (d : D), (wipeR ρ vs)[i]? = some (.rd d) → (wipeR ρ1 vs)[i]? = some (.rd d) ∨ ∃ t κ d0, (wipeR ρ1 vs)[i]? = some (.ow t κ d0)
  lst : ∃ xs, H L = some (.lst xs) ∧ DpAll K F xs acc
theorem Tr.nof {L : Addr} {o : HO} (T : Tr F0 H0 σ0 ρ0 F H σ ρ) (h : H0 L = some o) (f : F0 L = Option.none) (n : ¬ OA σ0 ρ0 L) : F L = Option.none ∧ ¬ OA σ ρ L := by
  constructor
  · cases e : F L with
    | none => rfl
    | some u =>
      rcases T.fnew L u e with y | y | y
      · rw [f] at y; cases y
      · rw [h] at y; cases y
      · exact absurd y n
  · intro z
    rcases T.own L z with y | y
    · exact n y
    · rw [h] at y; cases y
end
section
variable {X : Cx} {pos : Pos}
theorem up_comp {w : DTI} {js : List Nat} {g : DTG} {tt : DTT} {te : DTE} {vs : List Nat} {K : PySem.W.Frag} (hj : ∀ j ∈ js, j ∈ vs) {σ : L2.St} {H : Hp} {Q : VK} (h : up K (dComp w g tt te vs) σ H Q) :
    tLc (upI K w) (upG K js g) (upT K tt) (up K te) vs σ H Q := by
  obtain ⟨F, ρ, k, S, q, fin⟩ := h
  refine ⟨F, ρ, _, S, q, fun items src ρ1 F1 H1 J q S1 T1 wk L hL => ?_⟩
  obtain ⟨q0, q⟩ := q
  have fL : F1 L = none := by
    cases e : F1 L with
    | none => rfl
    | some o => rw [S1.sub L o e] at hL; cases hL
  have oL : ¬ OA σ ρ1 L := fun ⟨i, t, κ, d, h1, h2⟩ => by
    obtain ⟨a, e1, h3, _⟩ := S1.ow i t κ d h1
    rw [h2] at e1
    cases e1
    obtain ⟨o, ho⟩ := h3.some
    rw [hL] at ho; cases ho
  have oLw : ¬ OA (L2.wipe σ vs) (wipeR ρ1 vs) L := fun z => oL (oa_wipe z)
  have Sw := S1.wipe (vs := vs)
  have rdw : ∀ (i : Nat) (d : D), (wipeR ρ1 vs)[i]? = some (.rd d) → (L2.wipe σ vs)[i]? = some (some (.ref L)) → Dp K F1 (.ref L) d := fun i d e1 e2 => by
    obtain ⟨v, h1, h2⟩ := Sw.rd i d e1
    rw [e2] at h1
    cases h1
    rcases h2 with h2 | ⟨κ, a, e3, h2, _⟩
    · exact h2
    · cases e3
      obtain ⟨o, ho⟩ := h2.some
      rw [hL] at ho; cases ho
  let W : Nat → Nat → Hp → Prop := fun i m H' => m = items.length - i ∧ i ≤ items.length ∧ ∃ F' ρ' acc, F' L = none ∧ ¬ OA (L2.wipe σ vs) (wipeR ρ' vs) L ∧ Blk K L vs F1 H1 σ ρ1 F' H' ρ' acc ∧
    dCompL g tt te src vs (fun acc ρ2 => k (.tm .l (.list acc)) (restR vs ρ1 ρ2)) (items.drop i) acc (wipeR ρ' vs)
  refine ⟨W, ⟨items.length, by simp, Nat.zero_le _, F1, ρ1, [], fL, oLw, ⟨Sw.updD (fun o z => by rw [hL] at z; cases z) fL oLw rdw, ⟨Ex.refl F1, fun b o h _ _ => Ex.new hL b o h, fun b o h => ⟨o, Ex.new hL b o h⟩, fun _ h => .inl h, fun _ _ h => .inl h⟩, fun _ _ _ d h => ⟨d, h⟩, fun _ _ h => .inl h, [], upd_same, .nil⟩, q⟩, ?_⟩
  rintro i m H2 ⟨rfl, hi, F2, ρ2, acc, f2, o2, B, q2⟩
  have src_ok : stl src (wipeR ρ2 vs) → ∀ p ∈ src, σ[p.1]? = σ[p.1]? ∧ cont (wipeR ρ2 vs) p.1 = some p.2 := fun z p hp => ⟨rfl, stl_all z p hp⟩
  -- the iterator's word, in the block's state
  have wk2 : stl src (wipeR ρ2 vs) → (∀ i, items.length ≤ i → J.stop i H2) ∧ ∀ i d, items[i]? = some d → J.go i H2 ∧ ∀ x H', J.yld i H2 x H' → ∃ F', Ex F2 F' ∧ Ex H2 H' ∧ Ex F' H' ∧ (∀ b o, F' b = some o → F2 b = some o ∨ H2 b = none) ∧ Dp K F' x d := fun z => by
    have TX := Tr.rest S1 B.tr B.slow B.slrd
    refine wk F2 H2 σ (restR vs ρ1 (wipeR ρ2 vs)) (Sta.rest S1 B.sta B.tr) TX.toTr fun p hp => ⟨rfl, ?_⟩
    have := stl_all z p hp
    unfold cont at this ⊢
    rw [restR_out (q0 p hp)]
    exact this
  by_cases hl : i < items.length
  · rw [List.drop_eq_getElem_cons hl] at q2
    obtain ⟨qs, q2⟩ := q2
    obtain ⟨go, yl⟩ := (wk2 qs).2 i items[i] (List.getElem?_eq_getElem hl)
    refine .inr ⟨go, fun H' => W (i + 1) (items.length - (i + 1)) H', fun H' z => ⟨items.length - (i + 1), by omega, z⟩, fun x H3 hy => ?_⟩
    obtain ⟨F3, e1, e2, e3, e4, dp⟩ := yl x H3 hy
    have S3 := B.sta.grow e1 e2 e3 e4
    have T3 : Tr F2 H2 (L2.wipe σ vs) (wipeR ρ2 vs) F3 H3 (L2.wipe σ vs) (wipeR ρ2 vs) := ⟨e1, fun b o h _ _ => e2 b o h, fun b o h => ⟨o, e2 b o h⟩, fun _ h => .inl h, fun b o h => (e4 b o h).imp id .inl⟩
    refine ⟨F3, wipeR ρ2 vs, items[i], _, S3, dp, q2, fun σ4 ρ4 F4 H4 q4 S4 T4 l4 n4 => ?_⟩
    have wσ : L2.wipe σ4 vs = L2.wipe σ vs := by
      refine List.ext_getElem? fun j => ?_
      by_cases hj' : j ∈ vs
      · have wn : ∀ {τ : L2.St} {us : List Nat}, j ∈ us → j < τ.length → (L2.wipe τ us)[j]? = some none := fun {τ us} => by
          induction us with
          | nil => intro h; cases h
          | cons u us ih =>
            intro h hl
            by_cases e : u = j
            · subst e
              show ((L2.wipe τ us).set u none)[u]? = _
              rw [List.getElem?_set]
              simp [wipe_length, hl]
            · show ((L2.wipe τ us).set u none)[j]? = _
              rw [List.getElem?_set_ne e]
              exact ih ((List.mem_cons.mp h).resolve_left (fun z => e z.symm)) hl
        have le : σ4.length = σ.length := by rw [l4, wipe_length]
        by_cases hlt : j < σ.length
        · rw [wn hj' (by omega), wn hj' hlt]
        · rw [List.getElem?_eq_none (by rw [wipe_length]; omega), List.getElem?_eq_none (by rw [wipe_length]; omega)]
      · rw [wipe_get hj', (n4 j fun z => hj' (hj j z)).1]
    refine ⟨wσ, F4, ρ4, _, S4, q4, fun b ρ5 F5 H5 q5 S5 T5 => ?_⟩
    have ρslow : ∀ {ρ6 : List Slot}, (∀ (i : Nat) (t : Option Addr) (κ : Kd) (d : D), ρ6[i]? = some (.ow t κ d) → ∃ d0, ρ4[i]? = some (.ow t κ d0)) → ∀ (i : Nat) (t : Option Addr) (κ : Kd) (d : D), (wipeR ρ6 vs)[i]? = some (.ow t κ d) → ∃ d0, (wipeR ρ1 vs)[i]? = some (.ow t κ d0) := fun {ρ6} h i t κ d e => by
      rcases wipeR_cases e with z | ⟨z, e⟩
      · cases z
      · obtain ⟨d1, h1⟩ := h i t κ d e
        rw [(n4 i fun y => z (hj i y)).2] at h1
        exact B.slow i t κ d1 h1
    have ρslrd : ∀ {ρ6 : List Slot}, (∀ (i : Nat) (d : D), ρ6[i]? = some (.rd d) → ρ4[i]? = some (.rd d) ∨ ∃ t κ d0, ρ4[i]? = some (.ow t κ d0)) → ∀ (i : Nat) (d : D), (wipeR ρ6 vs)[i]? = some (.rd d) → (wipeR ρ1 vs)[i]? = some (.rd d) ∨ ∃ t κ d0, (wipeR ρ1 vs)[i]? = some (.ow t κ d0) := fun {ρ6} h i d e => by
      rcases wipeR_cases e with z | ⟨z, e⟩
      · cases z
      · rcases h i d e with h1 | ⟨t, κ, d1, h1⟩
        · rw [(n4 i fun y => z (hj i y)).2] at h1
          exact B.slrd i d h1
        · rw [(n4 i fun y => z (hj i y)).2] at h1
          obtain ⟨d2, h2⟩ := B.slow i t κ d1 h1
          exact .inr ⟨t, κ, d2, h2⟩
    obtain ⟨xs, hx, hd⟩ := B.lst
    cases b with
    | false =>
      have T6 : Tr F2 H2 (L2.wipe σ vs) (wipeR ρ2 vs) F5 H5 σ4 ρ5 := T3.trans (T4.trans T5.toTr)
      have T6w := T6.wiped (vs := vs)
      rw [wσ] at T6w
      obtain ⟨f6, o6⟩ := T6w.nof hx f2 o2
      have S6 := S5.wipe (vs := vs)
      rw [wσ] at S6
      exact ⟨rfl, hl, F5, ρ5, acc, f6, o6, ⟨S6, B.tr.trans T6w, ρslow T5.slow, ρslrd T5.slrd, xs, T6.keep _ _ hx nt_l o2, dpAll_mono T6.fext hd⟩, q5⟩
    | true =>
      refine ⟨F5, ρ5, _, S5, q5, fun r ρ6 v F6 H6 q6 S6 T6 f => ?_⟩
      obtain ⟨dv, ρ7, F7, q7, S7, T7, dpv, _⟩ := fzR_ok S6 f.w T6 q6
      obtain ⟨hz, q7⟩ := q7
      have T7' := T5.trans T7
      have T8 : Tr F2 H2 (L2.wipe σ vs) (wipeR ρ2 vs) F7 H6 σ4 ρ7 := T3.trans (T4.trans T7'.toTr)
      have T8w := T8.wiped (vs := vs)
      rw [wσ] at T8w
      obtain ⟨f8, o8⟩ := T8w.nof hx f2 o2
      have S8 := S7.wipe (vs := vs)
      rw [wσ] at S8
      have sl := ρslow T7'.slow
      have sr := ρslrd T7'.slrd
      refine ⟨xs, T8.keep _ _ hx nt_l o2, ?_, rfl, hl, F7, ρ7, acc ++ [dv], f8, o8, ⟨S8.updD (fun o z => by rw [T8.keep _ _ hx nt_l o2] at z; cases z; exact nc_l) f8 o8 fun i d e1 e2 => ?_, ?_, sl, sr, xs ++ [v], upd_same, ?_⟩, q7⟩
      · have : ∀ {ys : List V} {ds : List D}, DpAll K F2 ys ds → ys.length = ds.length := fun {ys} => by
          induction ys with
          | nil => intro ds h; cases h; rfl
          | cons y ys ih => intro ds h; cases h with | cons _ r => simp [ih r]
        rw [this hd]; exact hz
      · rcases sr i d e1 with y | ⟨t, κ, d0, y⟩
        · exact dp_mono (B.tr.fext.trans T8.fext) (rdw i d y e2)
        · exact absurd ⟨i, t, κ, d0, y, e2⟩ oLw
      · have T9 := B.tr.trans T8w
        refine ⟨T9.fext, fun b o h nt n => ?_, fun b o h => ?_, T9.own, T9.fnew⟩
        · have hne : b ≠ L := fun z => by rw [z, hL] at h; cases h
          rw [upd_ne hne]; exact T9.keep b o h nt n
        · have hne : b ≠ L := fun z => by rw [z, hL] at h; cases h
          rw [upd_ne hne]; exact T9.there b o h
      · have ap : ∀ {ys : List V} {ds : List D}, DpAll K F7 ys ds → DpAll K F7 (ys ++ [v]) (ds ++ [dv]) := fun {ys} => by
          induction ys with
          | nil => intro ds h; cases h; exact .cons dpv .nil
          | cons y ys ih => intro ds h; cases h with | cons p r => exact .cons p (ih r)
        exact ap (dpAll_mono T8.fext hd)
  · have e : i = items.length := by omega
    subst e
    rw [List.drop_length] at q2
    obtain ⟨qs, q2⟩ := q2
    refine .inl ⟨(wk2 qs).1 _ (Nat.le_refl _), ?_⟩
    have TX := Tr.rest S1 B.tr B.slow B.slrd
    have SX := Sta.rest S1 B.sta B.tr
    obtain ⟨xs, hx, hd⟩ := B.lst
    refine fin _ _ _ _ _ q2 SX (T1.trans TX) ⟨L, rfl, ⟨xs, acc, rfl, hx, hd⟩, f2, fun ⟨i, t, κ, d, h1, h2⟩ => ?_, T1.none hL⟩
    obtain ⟨d0, h3⟩ := TX.slow i t κ d h1
    exact oL ⟨i, t, κ, d0, h3, h2⟩
theorem de_comp {elt tg iter : Expr} {ifs : List Expr} {scope : Scope} {own : List (Str × Nat)} {w : DTI} {js : List Nat} {g : DTG} {tt : DTT} {te : DTE} (hc : X.calm = true) (hN : X.N.Nodup) (hi : DI X tg iter w) (ok : BlkOk X.N X.env.scope scope own)
    (hg : ∀ (s : Shared) (H : Hp) (C : Addr) (cl : List (Str × Addr)) (fp : List Addr), DG (X.blk s H scope (compEnvC scope cl C X.env) fp) tg js g) (ht : ∀ (s : Shared) (H : Hp) (C : Addr) (cl : List (Str × Addr)) (fp : List Addr), DTsT (X.blk s H scope (compEnvC scope cl C X.env) fp) ifs tt)
    (he : ∀ (s : Shared) (H : Hp) (C : Addr) (cl : List (Str × Addr)) (fp : List Addr), DE (X.blk s H scope (compEnvC scope cl C X.env) fp) elt te) (hj : ∀ j ∈ js, j ∈ own.map (·.2) := by decide) (hs : ∀ x, foldedSetIterable iter X.env x = pure x := by intro _; rfl) :
    DE X (.ListComp elt [⟨tg, iter, ifs, 0⟩] scope pos) (dComp w g tt te (own.map (·.2))) :=
  PE.le (pe_lc (wi := upI X.K w) (g := upG X.K js g) (tt := upT X.K tt) (te := up X.K te) hc hN hi ok hg ht he hs) fun σ H Q h => up_comp hj h
theorem ds_setLc {i : Nat} {y : Str} {py : Pos} {elt tg iter : Expr} {ifs : List Expr} {scope : Scope} {own : List (Str × Nat)} {spos : Pos} {w : DTI} {js : List Nat} {g : DTG} {tt : DTT} {te : DTE} (hc : X.calm = true) (hN : X.N.Nodup) (hy : X.N[i]? = some y) (hyl : X.env.scope.names.lookup y = some .local)
    (hsw : swapsWith (.ListComp elt [⟨tg, iter, ifs, 0⟩] scope pos) (some (.Name y py)) spos.line X.env = pure true) (hi : DI X tg iter w) (ok : BlkOk X.N X.env.scope scope own)
    (hg : ∀ (s : Shared) (H : Hp) (C : Addr) (cl : List (Str × Addr)) (fp : List Addr), DG (X.blk s H scope (compEnvC scope cl C X.env) fp) tg js g) (ht : ∀ (s : Shared) (H : Hp) (C : Addr) (cl : List (Str × Addr)) (fp : List Addr), DTsT (X.blk s H scope (compEnvC scope cl C X.env) fp) ifs tt)
    (he : ∀ (s : Shared) (H : Hp) (C : Addr) (cl : List (Str × Addr)) (fp : List Addr), DE (X.blk s H scope (compEnvC scope cl C X.env) fp) elt te) (hj : ∀ j ∈ js, j ∈ own.map (·.2) := by decide) (hs : ∀ x, foldedSetIterable iter X.env x = pure x := by intro _; rfl) :
    DS X (.Assign [.Name y py] (.ListComp elt [⟨tg, iter, ifs, 0⟩] scope pos) spos) (dSet i (dComp w g tt te (own.map (·.2)))) :=
  PS.le (ps_setLc (wi := upI X.K w) (g := upG X.K js g) (tt := upT X.K tt) (te := up X.K te) hc hN hy hyl hsw hi ok hg ht he hs) fun E σ H ⟨F, ρ, G, S, q, f1, f2, f3, f4⟩ => by
    refine up_comp (K := X.K) (Q := fun x H1 => E.nx (σ.set i (some x)) H1) hj ⟨F, ρ, _, S, q, fun r ρ1 v F1 H1 q S1 T1 f => ?_⟩
    obtain ⟨s, ρ2, F2, q, S2, T2⟩ := toSlot_ok (i := i) S S1 T1 f q
    exact f1 _ _ _ _ q S2 T2
end
end TL

-- part TL6
/-! TL6: defs: their promises over trees, their calls. -/
namespace TL
open PySem PySem.Spec L2
open Evl (Ex ex_l ex_t)
variable [Lay]

/-- how a parameter is handed in: frozen; to be read; owned, and given back -/
inductive Md | fz | rd | io (κ : Kd)
abbrev TSp := List D → (Res → List D → Prop) → Prop
section
variable (K : PySem.W.Frag)
def ios : List Md → List V → List Addr
  | .io _ :: ms, .ref a :: vs => a :: ios ms vs
  | _ :: ms, _ :: vs => ios ms vs
  | _, _ => []
def ArgAt (F H : Hp) (O : Addr → Prop) : List Md → List V → List D → Prop
  | [], [], [] => True
  | .fz :: ms, v :: vs, d :: ds => Dp K F v d ∧ ArgAt F H O ms vs ds
  | .rd :: ms, v :: vs, d :: ds => RdN K F H O v d ∧ ArgAt F H O ms vs ds
  | .io κ :: ms, v :: vs, d :: ds => (∃ a, v = .ref a ∧ OwAt K F H κ a d ∧ F a = none) ∧ ArgAt F H O ms vs ds
  | _, _, _ => False
def OutAt (F H : Hp) : List Md → List V → List D → Prop
  | [], _, os => os = []
  | .io κ :: ms, v :: vs, d :: os => (∃ a, v = .ref a ∧ OwAt K F H κ a d) ∧ OutAt F H ms vs os
  | .fz :: ms, _ :: vs, os => OutAt F H ms vs os
  | .rd :: ms, _ :: vs, os => OutAt F H ms vs os
  | _, _, _ => False
structure Ret (F H F' H' : Hp) (ms : List Md) (vs : List V) (z : Res) (os : List D) (v : V) : Prop where
  fext : Ex F F'
  sub : Ex F' H'
  keep : ∀ b o, H b = some o → NT o → b ∉ ios ms vs → H' b = some o
  tab : LamX.Tabs Lay.T H'
  there : ∀ b o, H b = some o → ∃ o', H' b = some o'
  fnew : ∀ b o, F' b = some o → F b = some o ∨ H b = none
  outs : OutAt K F' H' ms vs os
  fit : match z with
    | .fz d => Dp K F' v d
    | .tm κ d => ∃ a, v = .ref a ∧ OwAt K F' H' κ a d ∧ F' a = none ∧ H a = none
    | _ => False
def spT (ms : List Md) (ts : TSp) : Sp := fun vs H Q _ => ∃ F ds k, Ex F H ∧ ArgAt K F H (· ∈ ios ms vs) ms vs ds ∧ (ios ms vs).Nodup ∧ LamX.Tabs Lay.T H ∧ ts ds k ∧ ∀ z os v F' H', k z os → Ret K F H F' H' ms vs z os v → Q v H'
end
/-! ### the call -/
@[simp] def idx : List Md → List Res → List Nat
  | .io _ :: ms, .bo i :: rs => i :: idx ms rs
  | _ :: ms, _ :: rs => idx ms rs
  | _, _ => []
@[simp] def rbo : List Md → List Res → List Nat
  | .io _ :: ms, _ :: rs => rbo ms rs
  | _ :: ms, .bo j :: rs => j :: rbo ms rs
  | _ :: ms, _ :: rs => rbo ms rs
  | _, _ => []
@[simp] def isOw (ρ : List Slot) (i : Nat) : Prop := match ρ[i]? with | some (.ow _ _ _) => True | _ => False
@[simp] def okIo (ms : List Md) (rs : List Res) (ρ : List Slot) : Prop := (idx ms rs).Nodup ∧ (∀ j ∈ rbo ms rs, j ∉ idx ms rs) ∧ ∀ i ∈ idx ms rs, isOw ρ i
@[simp] def passA : List Md → List Res → List Slot → (List D → List Slot → Prop) → Prop
  | [], [], ρ, k => k [] ρ
  | .fz :: ms, r :: rs, ρ, k => fzR r ρ fun d ρ1 => passA ms rs ρ1 fun ds ρ2 => k (d :: ds) ρ2
  | .rd :: ms, r :: rs, ρ, k => wc r ρ fun d => passA ms rs ρ fun ds ρ2 => k (d :: ds) ρ2
  | .io κ :: ms, .bo i :: rs, ρ, k => match ρ[i]? with
    | some (.ow _ κ' d) => κ' = κ ∧ passA ms rs ρ fun ds ρ2 => k (d :: ds) ρ2
    | _ => False
  | _, _, _, _ => False
@[simp] def backA : List Md → List Res → List D → List Slot → (List Slot → Prop) → Prop
  | [], [], [], ρ, k => k ρ
  | .io κ :: ms, .bo i :: rs, d :: os, ρ, k => match ρ[i]? with
    | some (.ow t κ' _) => κ' = κ ∧ backA ms rs os (ρ.set i (.ow t κ d)) k
    | _ => False
  | .fz :: ms, _ :: rs, os, ρ, k => backA ms rs os ρ k
  | .rd :: ms, _ :: rs, os, ρ, k => backA ms rs os ρ k
  | _, _, _, _, _ => False
@[simp] def dCall (ms : List Md) (ts : TSp) (da : DTA) : DTE := fun ρ k => da ρ fun rs ρ1 => okIo ms rs ρ1 ∧ passA ms rs ρ1 fun ds ρ2 => ts ds fun z os => backA ms rs os ρ2 fun ρ3 => k z ρ3
section
variable {K : PySem.W.Frag} {F F' F0 F1 F2 H H' H0 H1 H2 : Hp} {σ σ' σ0 σ1 σ2 : L2.St} {ρ ρ' ρ0 ρ1 ρ2 : List Slot}
theorem isOw_get {i : Nat} (h : isOw ρ i) : ∃ t κ d, ρ[i]? = some (.ow t κ d) := by
  unfold isOw at h
  split at h
  · rename_i t κ d e; exact ⟨t, κ, d, e⟩
  · exact h.elim
/-- freezing leaves the owned slots that it does not name -/
theorem fzR_keep {r : Res} {k : D → List Slot → Prop} {I : List Nat} (hr : ∀ j, r = .bo j → j ∉ I) (h : fzR r ρ k) : fzR r ρ fun d ρ' => k d ρ' ∧ ∀ i ∈ I, ρ'[i]? = ρ[i]? := by
  unfold fzR at h ⊢
  split
  · exact ⟨h, fun _ _ => rfl⟩
  · exact ⟨h, fun _ _ => rfl⟩
  · rename_i j
    simp only at h
    split
    · rename_i d e; rw [e] at h; exact ⟨h, fun _ _ => rfl⟩
    · rename_i d e
      rw [e] at h
      exact ⟨h, fun i hi => by rw [List.getElem?_set_ne]; exact fun z => hr j rfl (z ▸ hi)⟩
    · rename_i n1 n2
      split at h
      · rename_i d e; exact n1 d e
      · rename_i d e; exact n2 d e
      · exact h
  · rename_i n1 n2 n3
    cases r with
    | fz d => exact n1 d rfl
    | tm κ d => cases κ with
      | l => exact n2 d rfl
      | k => exact h
      | t => exact h
    | rd d => exact h
    | bo i => exact n3 i rfl
theorem RdN.imp {O O' : Addr → Prop} {v : V} {d : D} (h : RdN K F H O v d) (i : ∀ a, O' a → O a) : RdN K F H O' v d := by
  rcases h with h | ⟨κ, a, e, h, n⟩
  · exact .inl h
  · exact .inr ⟨κ, a, e, h, fun z => n (i a z)⟩
theorem RdN.mono' {O : Addr → Prop} {v : V} {d : D} (h : RdN K F H O v d) (e : Ex F F') : RdN K F' H O v d := by
  rcases h with h | ⟨κ, a, e', h, n⟩
  · exact .inl (dp_mono e h)
  · exact .inr ⟨κ, a, e', h.mono e fun _ _ z => z, n⟩
/-- the contents of the arguments. I: the slots given out; O: their objects -/
theorem passA_ok {I : List Nat} {vs : List V} : ∀ {ms : List Md} {rs : List Res} {ρ : List Slot} {F : Hp} {k : List D → List Slot → Prop}, (∀ i ∈ idx ms rs, i ∈ I) → (∀ j ∈ rbo ms rs, j ∉ I) → (∀ i ∈ I, isOw ρ i) →
    Sta K F H σ ρ → FitsWAll K F H σ ρ H0 vs rs → TrX F0 H0 σ ρ0 F H ρ → passA ms rs ρ k →
    ∃ ds ρ' F', k ds ρ' ∧ Sta K F' H σ ρ' ∧ TrX F0 H0 σ ρ0 F' H ρ' ∧ ArgAt K F' H (fun b => ∃ i ∈ I, σ[i]? = some (some (.ref b))) ms vs ds ∧ Ex F F' ∧ (∀ i ∈ I, ρ'[i]? = ρ[i]?) ∧ ∀ b, OA σ ρ' b → OA σ ρ b := by
  induction vs with
  | nil =>
    intro ms rs ρ F k hi hj ho S f T h
    cases rs with
    | cons r rs => exact f.elim
    | nil => cases ms with
      | nil => exact ⟨[], ρ, F, h, S, T, trivial, Ex.refl F, fun _ _ => rfl, fun _ z => z⟩
      | cons m ms => cases m <;> exact h.elim
  | cons v vs ih =>
    intro ms rs ρ F k hi hj ho S f T h
    cases rs with
    | nil => exact f.elim
    | cons r rs =>
      obtain ⟨f1, f2⟩ := f
      cases ms with
      | nil => exact h.elim
      | cons m ms =>
        cases m with
        | fz =>
          have hr : ∀ j, r = .bo j → j ∉ I := fun j e => hj j (by subst e; exact List.mem_cons_self)
          have hj' : ∀ j ∈ rbo ms rs, j ∉ I := fun j z => hj j (by cases r <;> first | exact z | exact List.mem_cons_of_mem _ z)
          have hi' : ∀ i ∈ idx ms rs, i ∈ I := hi
          obtain ⟨d, ρ1, F1, ⟨h, hk⟩, S1, T1, dp, e1, o1⟩ := fzR_ok S f1 T (fzR_keep hr h)
          have ho1 : ∀ i ∈ I, isOw ρ1 i := fun i z => by have := ho i z; unfold isOw at this ⊢; rw [hk i z]; exact this
          obtain ⟨ds, ρ2, F2, h, S2, T2, ar, e2, k2, o2⟩ := ih hi' hj' ho1 S1 (f2.frz e1 o1) T1 h
          exact ⟨d :: ds, ρ2, F2, h, S2, T2, ⟨dp_mono e2 dp, ar⟩, e1.trans e2, fun i z => (k2 i z).trans (hk i z), fun b z => o1 b (o2 b z)⟩
        | rd =>
          have hj' : ∀ j ∈ rbo ms rs, j ∉ I := fun j z => hj j (by cases r <;> first | exact z | exact List.mem_cons_of_mem _ z)
          have hi' : ∀ i ∈ idx ms rs, i ∈ I := hi
          have oI : ∀ b, (∃ i ∈ I, σ[i]? = some (some (.ref b))) → OA σ ρ b := fun b ⟨i, z, e⟩ => by
            obtain ⟨t, κ, d, e'⟩ := isOw_get (ho i z)
            exact ⟨i, t, κ, d, e', e⟩
          have rd : ∃ d, RdN K F H (fun b => ∃ i ∈ I, σ[i]? = some (some (.ref b))) v d ∧ passA ms rs ρ fun ds ρ2 => k (d :: ds) ρ2 := by
            have h : wc r ρ fun d => passA ms rs ρ fun ds ρ2 => k (d :: ds) ρ2 := h
            cases r with
            | fz d => exact ⟨d, .inl f1, h⟩
            | tm κ d =>
              obtain ⟨a, rfl, q, n, _⟩ := f1
              exact ⟨d, .inr ⟨κ, a, rfl, q, fun z => n (oI a z)⟩, h⟩
            | rd d => exact ⟨d, RdN.imp (show RdN K F H (OA σ ρ) v d from f1) oI, h⟩
            | bo j =>
              have f1 : σ[j]? = some (some v) := f1
              have nj : j ∉ I := hj j List.mem_cons_self
              unfold wc at h
              simp only at h
              split at h
              · rename_i t κ d e
                obtain ⟨a, e1, q, _⟩ := S.ow j t κ d e
                rw [f1] at e1; cases e1
                refine ⟨d, .inr ⟨κ, a, rfl, q, fun ⟨i, z, e2⟩ => ?_⟩, h⟩
                obtain ⟨t', κ', d', e'⟩ := isOw_get (ho i z)
                have := S.inj i j _ _ _ _ _ _ a e' e e2 f1
                exact nj (this ▸ z)
              · rename_i d e
                obtain ⟨v', e1, q⟩ := S.fz j d e
                rw [f1] at e1; cases e1
                exact ⟨d, .inl q, h⟩
              · exact h.elim
          obtain ⟨d, rd, h⟩ := rd
          obtain ⟨ds, ρ2, F2, h, S2, T2, ar, e2, k2, o2⟩ := ih hi' hj' ho S f2 T h
          exact ⟨d :: ds, ρ2, F2, h, S2, T2, ⟨rd.mono' e2, ar⟩, e2, k2, o2⟩
        | io κ =>
          cases r with
          | bo i =>
            have f1 : σ[i]? = some (some v) := f1
            have h0 : match ρ[i]? with
              | some (.ow _ κ' d) => κ' = κ ∧ passA ms rs ρ fun ds ρ2 => k (d :: ds) ρ2
              | _ => False := h
            clear h
            split at h0
            · rename_i t κ' d e
              obtain ⟨e0, h⟩ := h0
              subst e0
              have hi' : ∀ i ∈ idx ms rs, i ∈ I := fun j z => hi j (List.mem_cons_of_mem _ z)
              obtain ⟨ds, ρ2, F2, h, S2, T2, ar, e2, k2, o2⟩ := ih hi' hj ho S f2 T h
              have hiI : i ∈ I := hi i List.mem_cons_self
              obtain ⟨a, e1, q, n, _⟩ := S2.ow i t κ' d (by rw [k2 i hiI]; exact e)
              rw [f1] at e1; cases e1
              exact ⟨d :: ds, ρ2, F2, h, S2, T2, ⟨⟨a, rfl, q, n⟩, ar⟩, e2, k2, o2⟩
            · exact h0.elim
          | _ => exact h.elim
theorem ios_idx {vs : List V} {b : Addr} : ∀ {ms : List Md} {rs : List Res}, FitsWAll K F H σ ρ H0 vs rs → (∀ ds, ArgAt K F1 H1 (fun _ => False) ms vs ds → True) → b ∈ ios ms vs → (∃ ρ k, passA ms rs ρ k) → ∃ i ∈ idx ms rs, σ[i]? = some (some (.ref b)) := by
  induction vs with
  | nil => intro ms rs f _ h; cases ms with
    | nil => cases h
    | cons m ms => cases m <;> cases h
  | cons v vs ih =>
    intro ms rs f _ h hp
    cases rs with
    | nil => exact f.elim
    | cons r rs =>
      obtain ⟨f1, f2⟩ := f
      cases ms with
      | nil => cases h
      | cons m ms =>
        obtain ⟨ρ', k, hp⟩ := hp
        cases m with
        | fz =>
          obtain ⟨i, hi, e⟩ := ih (ms := ms) f2 (fun _ _ => trivial) (by cases v <;> exact h) (by
            have hp : fzR r ρ' fun d ρ1 => passA ms rs ρ1 fun ds ρ2 => k (d :: ds) ρ2 := hp
            unfold fzR at hp
            split at hp <;> first | exact ⟨_, _, hp⟩ | (split at hp <;> first | exact ⟨_, _, hp⟩ | exact hp.elim) | exact hp.elim)
          exact ⟨i, by cases r <;> exact hi, e⟩
        | rd =>
          obtain ⟨i, hi, e⟩ := ih (ms := ms) f2 (fun _ _ => trivial) (by cases v <;> exact h) (by
            have hp : wc r ρ' fun d => passA ms rs ρ' fun ds ρ2 => k (d :: ds) ρ2 := hp
            unfold wc at hp
            split at hp <;> first | exact ⟨_, _, hp⟩ | (split at hp <;> first | exact ⟨_, _, hp⟩ | exact hp.elim))
          exact ⟨i, by cases r <;> exact hi, e⟩
        | io κ =>
          cases r with
          | bo i =>
            have f1 : σ[i]? = some (some v) := f1
            have hp' : ∃ ρ k, passA ms rs ρ k := by
              have hp : match ρ'[i]? with
                | some (.ow _ κ' d) => κ' = κ ∧ passA ms rs ρ' fun ds ρ2 => k (d :: ds) ρ2
                | _ => False := hp
              split at hp
              · exact ⟨_, _, hp.2⟩
              · exact hp.elim
            cases v with
            | ref a =>
              rcases List.mem_cons.mp (show b ∈ a :: ios ms vs from h) with e | h
              · subst e; exact ⟨i, List.mem_cons_self, f1⟩
              · obtain ⟨j, hj, e⟩ := ih f2 (fun _ _ => trivial) h hp'
                exact ⟨j, List.mem_cons_of_mem _ hj, e⟩
            | _ =>
              obtain ⟨j, hj, e⟩ := ih f2 (fun _ _ => trivial) h hp'
              exact ⟨j, List.mem_cons_of_mem _ hj, e⟩
          | _ => exact hp.elim
theorem ios_nodup {vs : List V} : ∀ {ms : List Md} {rs : List Res}, FitsWAll K F H σ ρ H0 vs rs → (∃ ρ k, passA ms rs ρ k) → (idx ms rs).Nodup → (∀ i j a, i ∈ idx ms rs → j ∈ idx ms rs → σ[i]? = some (some (.ref a)) → σ[j]? = some (some (.ref a)) → i = j) → (ios ms vs).Nodup := by
  induction vs with
  | nil => intro ms rs f _ _ _; cases ms with
    | nil => exact List.nodup_nil
    | cons m ms => cases m <;> exact List.nodup_nil
  | cons v vs ih =>
    intro ms rs f hp nd inj
    cases rs with
    | nil => exact f.elim
    | cons r rs =>
      obtain ⟨f1, f2⟩ := f
      cases ms with
      | nil => exact List.nodup_nil
      | cons m ms =>
        obtain ⟨ρ', k, hp⟩ := hp
        cases m with
        | fz =>
          have := ih (ms := ms) f2 (by
            have hp : fzR r ρ' fun d ρ1 => passA ms rs ρ1 fun ds ρ2 => k (d :: ds) ρ2 := hp
            unfold fzR at hp
            split at hp <;> first | exact ⟨_, _, hp⟩ | (split at hp <;> first | exact ⟨_, _, hp⟩ | exact hp.elim) | exact hp.elim) (by cases r <;> exact nd) (by cases r <;> exact inj)
          cases v <;> exact this
        | rd =>
          have := ih (ms := ms) f2 (by
            have hp : wc r ρ' fun d => passA ms rs ρ' fun ds ρ2 => k (d :: ds) ρ2 := hp
            unfold wc at hp
            split at hp <;> first | exact ⟨_, _, hp⟩ | (split at hp <;> first | exact ⟨_, _, hp⟩ | exact hp.elim)) (by cases r <;> exact nd) (by cases r <;> exact inj)
          cases v <;> exact this
        | io κ =>
          cases r with
          | bo i =>
            have f1 : σ[i]? = some (some v) := f1
            have hp' : ∃ ρ k, passA ms rs ρ k := by
              have hp : match ρ'[i]? with
                | some (.ow _ κ' d) => κ' = κ ∧ passA ms rs ρ' fun ds ρ2 => k (d :: ds) ρ2
                | _ => False := hp
              split at hp
              · exact ⟨_, _, hp.2⟩
              · exact hp.elim
            have nd : (i :: idx ms rs).Nodup := nd
            obtain ⟨ni, nd'⟩ := List.nodup_cons.mp nd
            have := ih f2 hp' nd' fun i' j' a hi hj => inj i' j' a (List.mem_cons_of_mem _ hi) (List.mem_cons_of_mem _ hj)
            cases v with
            | ref a =>
              refine List.nodup_cons.mpr ⟨fun z => ?_, this⟩
              obtain ⟨j, hj, e⟩ := ios_idx (F1 := F) (H1 := H) f2 (fun _ _ => trivial) z hp'
              have := inj i j a List.mem_cons_self (List.mem_cons_of_mem _ hj) f1 e
              exact ni (this ▸ hj)
            | _ => exact this
          | _ => exact hp.elim
theorem ArgAt.imp {O O' : Addr → Prop} (i : ∀ a, O' a → O a) {vs : List V} : ∀ {ms : List Md} {ds : List D}, ArgAt K F H O ms vs ds → ArgAt K F H O' ms vs ds := by
  induction vs with
  | nil => intro ms ds h; cases ms with
    | nil => cases ds with
      | nil => trivial
      | cons => exact h.elim
    | cons m ms => cases m <;> exact h.elim
  | cons v vs ih => intro ms ds h; cases ms with
    | nil => exact h.elim
    | cons m ms => cases ds with
      | nil => cases m <;> exact h.elim
      | cons d ds => cases m with
        | fz => exact ⟨h.1, ih h.2⟩
        | rd => exact ⟨RdN.imp h.1 i, ih h.2⟩
        | io κ => exact ⟨h.1, ih h.2⟩
theorem backA_ok {vs : List V} : ∀ {ms : List Md} {rs : List Res} {os : List D} {ρ : List Slot} {k : List Slot → Prop}, (idx ms rs).Nodup → FitsWAll K F1 H1 σ ρ1 H0 vs rs → OutAt K F' H' ms vs os → backA ms rs os ρ k →
    ∃ ρ3, k ρ3 ∧ ρ3.length = ρ.length ∧ (∀ j, j ∉ idx ms rs → ρ3[j]? = ρ[j]?) ∧ ∀ i ∈ idx ms rs, ∃ t κ d d' a, ρ[i]? = some (.ow t κ d) ∧ ρ3[i]? = some (.ow t κ d') ∧ σ[i]? = some (some (.ref a)) ∧ OwAt K F' H' κ a d' := by
  induction vs with
  | nil =>
    intro ms rs os ρ k nd f o h
    cases rs with
    | cons r rs => exact f.elim
    | nil => cases ms with
      | nil => cases os with
        | nil => exact ⟨ρ, h, rfl, fun _ _ => rfl, fun i hi => by cases hi⟩
        | cons => exact h.elim
      | cons m ms => cases m <;> exact h.elim
  | cons v vs ih =>
    intro ms rs os ρ k nd f o h
    cases rs with
    | nil => exact f.elim
    | cons r rs =>
      obtain ⟨f1, f2⟩ := f
      cases ms with
      | nil => exact h.elim
      | cons m ms =>
        cases m with
        | fz => exact ih (ms := ms) nd f2 o h
        | rd => exact ih (ms := ms) nd f2 o h
        | io κ =>
          cases r with
          | bo i =>
            have f1 : σ[i]? = some (some v) := f1
            cases os with
            | nil => exact h.elim
            | cons d os =>
              have h0 : match ρ[i]? with
                | some (.ow t κ' _) => κ' = κ ∧ backA ms rs os (ρ.set i (.ow t κ d)) k
                | _ => False := h
              obtain ⟨⟨a, rfl, ho⟩, o2⟩ := (show (∃ a, v = .ref a ∧ OwAt K F' H' κ a d) ∧ OutAt K F' H' ms vs os from o)
              have nd : (i :: idx ms rs).Nodup := nd
              obtain ⟨ni, nd'⟩ := List.nodup_cons.mp nd
              clear h
              split at h0
              · rename_i t κ' d0 e
                obtain ⟨rfl, h⟩ := h0
                obtain ⟨ρ3, hk, hl, hj, hi⟩ := ih nd' f2 o2 h
                have lt : i < ρ.length := (List.getElem?_eq_some_iff.mp e).1
                refine ⟨ρ3, hk, by rw [hl, List.length_set], fun j z => ?_, fun j z => ?_⟩
                · have z : j ∉ i :: idx ms rs := z
                  rw [hj j fun y => z (List.mem_cons_of_mem _ y), List.getElem?_set_ne fun y => z (by simp [y])]
                · rcases List.mem_cons.mp (show j ∈ i :: idx ms rs from z) with y | y
                  · subst y
                    exact ⟨t, κ', d0, d, a, e, by rw [hj j ni]; exact get_set_at lt, f1, ho⟩
                  · obtain ⟨t', κ2, d2, d3, a2, e1, e2, e3, e4⟩ := hi j y
                    refine ⟨t', κ2, d2, d3, a2, ?_, e2, e3, e4⟩
                    rw [List.getElem?_set_ne (fun z => ni (by rw [z]; exact y))] at e1
                    exact e1
              · exact h0.elim
          | _ => exact h.elim
end
section
variable {X : Cx} {k : Nat} {f : Addr} {fd : FuncData} {ps : List Str} {ms : List Md} {ts : TSp} {x : Str} {e : Expr} {es : List Expr} {da : DTA} {p pos : Pos}
theorem up_call {K : PySem.W.Frag} {σ : L2.St} {H : Hp} {Q : VK} (h : up K (dCall ms ts da) σ H Q) : tCall (spT K ms ts) [] E0 (upA K da) σ H Q := by
  obtain ⟨F, ρ, k, S, q, fin⟩ := h
  refine ⟨F, ρ, _, S, q, fun rs ρ1 vs F1 H1 q S1 T1 f => ?_⟩
  obtain ⟨⟨nd, nr, ow⟩, q⟩ := q
  rw [List.append_nil]
  have hp : ∃ ρ k, passA ms rs ρ k := ⟨_, _, q⟩
  obtain ⟨ds, ρ2, F2, q, S2, T2, ar, e2, k2, o2⟩ := passA_ok (I := idx ms rs) (fun _ z => z) nr ow S1 f.w T1 q
  have hios : ∀ b, b ∈ ios ms vs → ∃ i ∈ idx ms rs, σ[i]? = some (some (.ref b)) := fun b hb => ios_idx (F1 := F1) (H1 := H1) f.w (fun _ _ => trivial) hb hp
  have oaI : ∀ b, b ∈ ios ms vs → OA σ ρ2 b := fun b hb => by
    obtain ⟨i, hi, e⟩ := hios b hb
    obtain ⟨t, κ, d, e'⟩ := isOw_get (ow i hi)
    exact ⟨i, t, κ, d, by rw [k2 i hi]; exact e', e⟩
  refine ⟨F2, ds, _, S2.sub, ar.imp hios, ?_, S2.tab, q, fun z os v F3 H3 q R => ?_⟩
  · refine ios_nodup f.w hp nd fun i j a hi hj h1 h2 => ?_
    obtain ⟨t, κ, d, e⟩ := isOw_get (ow i hi)
    obtain ⟨t', κ', d', e'⟩ := isOw_get (ow j hj)
    exact S1.inj i j _ _ _ _ _ _ a e e' h1 h2
  · obtain ⟨ρ3, q, hl, hj, hi⟩ := backA_ok nd f.w R.outs q
    have own3 : ∀ {i : Nat} {t : Option Addr} {κ : Kd} {d : D}, ρ3[i]? = some (Slot.ow t κ d) → ∃ d0, ρ2[i]? = some (Slot.ow t κ d0) := fun {i t κ d} e => by
      by_cases h : i ∈ idx ms rs
      · obtain ⟨t', κ', d1, d2, a, e1, e2, _⟩ := hi i h
        rw [e] at e2; cases e2
        exact ⟨d1, e1⟩
      · rw [hj i h] at e; exact ⟨d, e⟩
    have rd3 : ∀ {i : Nat} {d : D}, ρ3[i]? = some (Slot.rd d) → ρ2[i]? = some (Slot.rd d) := fun {i d} e => by
      by_cases h : i ∈ idx ms rs
      · obtain ⟨t', κ', d1, d2, a, e1, e2, _⟩ := hi i h
        rw [e] at e2; cases e2
      · rw [hj i h] at e; exact e
    have fz3 : ∀ {i : Nat} {d : D}, ρ3[i]? = some (Slot.fz d) → ρ2[i]? = some (Slot.fz d) := fun {i d} e => by
      by_cases h : i ∈ idx ms rs
      · obtain ⟨t', κ', d1, d2, a, e1, e2, _⟩ := hi i h
        rw [e] at e2; cases e2
      · rw [hj i h] at e; exact e
    have oa3 : ∀ b, OA σ ρ3 b → OA σ ρ2 b := fun b ⟨i, t, κ, d, h1, h2⟩ => by
      obtain ⟨d0, h0⟩ := own3 h1
      exact ⟨i, t, κ, d0, h0, h2⟩
    have keep3 : ∀ b o, H1 b = some o → NT o → ¬ OA σ ρ2 b → H3 b = some o := fun b o h nt n => R.keep b o h nt fun z => n (oaI b z)
    have S3 : Sta K F3 H3 σ ρ3 := by
      refine ⟨R.sub, by rw [hl]; exact S2.len, fun i d e => ?_, fun i d e => ?_, fun i t κ d e => ?_, fun i j t t' κ κ' d d' a e e' h h' => ?_, R.tab⟩
      · obtain ⟨v, h1, h2⟩ := S2.fz i d (fz3 e)
        exact ⟨v, h1, dp_mono R.fext h2⟩
      · obtain ⟨v, h1, h2⟩ := S2.rd i d (rd3 e)
        refine ⟨v, h1, ?_⟩
        rcases h2 with h2 | ⟨κ, a, e1, h2, n⟩
        · exact .inl (dp_mono R.fext h2)
        · exact .inr ⟨κ, a, e1, h2.mono R.fext fun o nt z => keep3 _ _ z nt n, fun z => n (oa3 _ z)⟩
      · by_cases h : i ∈ idx ms rs
        · obtain ⟨t', κ', d1, d2, a, e1, e2, e3, e4⟩ := hi i h
          rw [e] at e2; cases e2
          obtain ⟨a', h1, h2, h3, h4⟩ := S2.ow i _ _ d1 e1
          rw [e3] at h1; cases h1
          refine ⟨a, e3, e4, ?_, h4⟩
          obtain ⟨o, ho⟩ := h2.some
          cases hf : F3 a with
          | none => rfl
          | some u =>
            rcases R.fnew a u hf with y | y
            · rw [h3] at y; cases y
            · rw [ho] at y; cases y
        · rw [hj i h] at e
          obtain ⟨a, h1, h2, h3, h4⟩ := S2.ow i t κ d e
          obtain ⟨o, ho⟩ := h2.some
          have na : a ∉ ios ms vs := fun z => by
            obtain ⟨j, hj1, hj2⟩ := hios a z
            obtain ⟨t2, κ2, d2, e2⟩ := isOw_get (ow j hj1)
            have := S2.inj i j _ _ _ _ _ _ a e (by rw [k2 j hj1]; exact e2) h1 hj2
            exact h (this ▸ hj1)
          refine ⟨a, h1, h2.mono R.fext fun o nt z => R.keep _ _ z nt na, ?_, h4⟩
          cases hf : F3 a with
          | none => rfl
          | some u =>
            rcases R.fnew a u hf with y | y
            · rw [h3] at y; cases y
            · rw [ho] at y; cases y
      · obtain ⟨d0, h0⟩ := own3 e
        obtain ⟨d1, h1⟩ := own3 e'
        exact S2.inj i j _ _ _ _ _ _ a h0 h1 h h'
    have T3 : TrX F2 H1 σ ρ2 F3 H3 ρ3 := ⟨⟨R.fext, keep3, R.there, fun b z => .inl (oa3 b z), fun b o z => (R.fnew b o z).imp id .inl⟩, fun i t κ d e => own3 e, fun i d e => .inl (rd3 e)⟩
    refine fin z ρ3 v F3 H3 q S3 (T2.trans T3) ?_
    have rf := R.fit
    cases z with
    | fz d => exact rf
    | tm κ d =>
      obtain ⟨a, e, h1, h2, h3⟩ := rf
      refine ⟨a, e, h1, h2, fun z => ?_, T2.none h3⟩
      obtain ⟨i, t, κ', d', g1, g2⟩ := oa3 a z
      obtain ⟨a', g3, g4, _⟩ := S2.ow i t κ' d' g1
      rw [g2] at g3; cases g3
      obtain ⟨o, ho⟩ := g4.some
      rw [h3] at ho; cases ho
    | rd d => exact rf.elim
    | bo i => exact rf.elim
theorem de_call (F : FnOk X.prog X.w X.K X.mg X.base CX0 k f fd ps (spT X.K ms ts)) (hr : Room k X.A) (hg : Gl X x) (hm : X.mg x = some (.ref f)) (hk : PySem.W.keepIn X.K (.ref f) = true) (hb : Binds X.K fd ps [])
    (ha : DA X (e :: es) da) (hdb : (x == ("__debug__" : Str)) = false := by decide) (he : starEach (e :: es) X.env = (false, eval e X.env) :: starEach es X.env := by rfl) (hpl : (backTo pos (starEach es X.env)).any (·.1) = false := by rfl) :
    DE X (.Call (.Name x p) (e :: es) [] pos) (dCall ms ts da) :=
  PE.le (pe_call F hr hg hm hk hb .nil pass0 ha hdb he hpl) fun σ H Q h => up_call h
end
end TL

-- part TL7
/-! TL7: the rule for a def; the end of a law. -/
namespace TL
open PySem PySem.Spec L2
open Evl (Ex ex_l ex_t)
variable [Lay]

@[simp] def entryR : List Md → List D → List Addr → List Slot
  | .fz :: ms, d :: ds, as => .fz d :: entryR ms ds as
  | .rd :: ms, d :: ds, as => .rd d :: entryR ms ds as
  | .io κ :: ms, d :: ds, a :: as => .ow (some a) κ d :: entryR ms ds as
  | _, _, _ => []
@[simp] def outR : List Md → Nat → List Addr → List Slot → (List D → Prop) → Prop
  | [], _, _, _, k => k []
  | .io κ :: ms, p, a :: as, ρ, k => match ρ[p]? with
    | some (.ow (some b) κ' d) => b = a ∧ κ' = κ ∧ outR ms (p + 1) as ρ fun os => k (d :: os)
    | _ => False
  | .fz :: ms, p, as, ρ, k => outR ms (p + 1) as ρ k
  | .rd :: ms, p, as, ρ, k => outR ms (p + 1) as ρ k
  | _, _, _, _, _ => False
@[simp] def finR (ms : List Md) (as : List Addr) (k : Res → List D → Prop) (r : Res) (ρ : List Slot) : Prop := outR ms 0 as ρ fun os => match r with
  | .fz d => k (.fz d) os
  | .tm κ d => k (.tm κ d) os
  | .bo i => match ρ[i]? with
    | some (.ow none κ d) => k (.tm κ d) os
    | some (.fz d) => k (.fz d) os
    | _ => False
  | .rd _ => False
@[simp] def nio : List Md → Nat
  | [] => 0
  | .io _ :: ms => nio ms + 1
  | _ :: ms => nio ms
section
variable {K : PySem.W.Frag} {F F' H H' : Hp} {σ σ' : L2.St} {ρ ρ' : List Slot}
theorem arg_len {O : Addr → Prop} {vs : List V} : ∀ {ms : List Md} {ds : List D}, ArgAt K F H O ms vs ds → vs.length = ms.length ∧ ds.length = ms.length ∧ (ios ms vs).length = nio ms := by
  induction vs with
  | nil => intro ms ds h; cases ms with
    | nil => cases ds with
      | nil => exact ⟨rfl, rfl, rfl⟩
      | cons => exact h.elim
    | cons m ms => cases m <;> exact h.elim
  | cons v vs ih => intro ms ds h; cases ms with
    | nil => exact h.elim
    | cons m ms => cases ds with
      | nil => cases m <;> exact h.elim
      | cons d ds => cases m with
        | fz => obtain ⟨a, b, c⟩ := ih h.2; exact ⟨by simp [a], by simp [b], by cases v <;> exact c⟩
        | rd => obtain ⟨a, b, c⟩ := ih h.2; exact ⟨by simp [a], by simp [b], by cases v <;> exact c⟩
        | io κ =>
          obtain ⟨⟨a0, rfl, _⟩, h2⟩ := h
          obtain ⟨a, b, c⟩ := ih h2
          exact ⟨by simp [a], by simp [b], by simp [ios, nio, c]⟩
theorem entry_get {O : Addr → Prop} {vs : List V} : ∀ {ms : List Md} {ds : List D} {i : Nat} {s : Slot}, ArgAt K F H O ms vs ds → (entryR ms ds (ios ms vs))[i]? = some s →
    ∃ v, vs[i]? = some v ∧ match s with
      | .fz d => Dp K F v d
      | .rd d => RdN K F H O v d
      | .ow t κ d => ∃ a, v = .ref a ∧ t = some a ∧ OwAt K F H κ a d ∧ F a = none ∧ a ∈ ios ms vs
      | .un => True := by
  induction vs with
  | nil => intro ms ds i s h e; cases ms with
    | nil => cases ds <;> (simp [entryR] at e)
    | cons m ms => cases m <;> exact h.elim
  | cons v vs ih => intro ms ds i s h e; cases ms with
    | nil => exact h.elim
    | cons m ms => cases ds with
      | nil => cases m <;> exact h.elim
      | cons d ds => cases m with
        | fz =>
          have hio : ios (.fz :: ms) (v :: vs) = ios ms vs := by cases v <;> rfl
          rw [hio] at e ⊢
          cases i with
          | zero => simp [entryR] at e; subst e; exact ⟨v, rfl, h.1⟩
          | succ i => exact ih h.2 (by simpa [entryR] using e)
        | rd =>
          have hio : ios (.rd :: ms) (v :: vs) = ios ms vs := by cases v <;> rfl
          rw [hio] at e ⊢
          cases i with
          | zero => simp [entryR] at e; subst e; exact ⟨v, rfl, h.1⟩
          | succ i => exact ih h.2 (by simpa [entryR] using e)
        | io κ =>
          obtain ⟨⟨a0, rfl, h1, h3⟩, h2⟩ := h
          cases i with
          | zero => simp [entryR, ios] at e; subst e; exact ⟨_, rfl, a0, rfl, rfl, h1, h3, List.mem_cons_self⟩
          | succ i =>
            obtain ⟨w, e1, e2⟩ := ih (s := s) h2 (by simpa [entryR, ios] using e)
            refine ⟨w, e1, ?_⟩
            cases s with
            | ow t κ' d' =>
              obtain ⟨a, q1, q2, q3, q4, q5⟩ := e2
              exact ⟨a, q1, q2, q3, q4, List.mem_cons_of_mem _ q5⟩
            | fz d' => exact e2
            | rd d' => exact e2
            | un => trivial
theorem entry_inj {O : Addr → Prop} {vs : List V} {a : Addr} : ∀ {ms : List Md} {ds : List D} {i j : Nat} {t t' : Option Addr} {κ κ' : Kd} {d d' : D}, ArgAt K F H O ms vs ds → (ios ms vs).Nodup →
    (entryR ms ds (ios ms vs))[i]? = some (.ow t κ d) → (entryR ms ds (ios ms vs))[j]? = some (.ow t' κ' d') → vs[i]? = some (.ref a) → vs[j]? = some (.ref a) → i = j := by
  induction vs with
  | nil => intro ms ds i j t t' κ κ' d d' h nd e e' h1 h2; simp at h1
  | cons v vs ih => intro ms ds i j t t' κ κ' d d' h nd e e' h1 h2; cases ms with
    | nil => exact h.elim
    | cons m ms => cases ds with
      | nil => cases m <;> exact h.elim
      | cons d0 ds =>
        have step : ios (m :: ms) (v :: vs) = ios ms vs → (∀ i, (entryR (m :: ms) (d0 :: ds) (ios ms vs))[i + 1]? = (entryR ms ds (ios ms vs))[i]?) → (∀ t κ d, (entryR (m :: ms) (d0 :: ds) (ios ms vs))[0]? ≠ some (.ow t κ d)) → ArgAt K F H O ms vs ds → i = j := fun hio h1' h2' h3' => by
          rw [hio] at e e' nd
          cases i with
          | zero => exact absurd e (h2' _ _ _)
          | succ i => cases j with
            | zero => exact absurd e' (h2' _ _ _)
            | succ j =>
              rw [h1'] at e e'
              exact congrArg (· + 1) (ih h3' nd e e' (by simpa using h1) (by simpa using h2))
        cases m with
        | fz => exact step (by cases v <;> rfl) (fun _ => by simp [entryR]) (fun _ _ _ => by simp [entryR]) h.2
        | rd => exact step (by cases v <;> rfl) (fun _ => by simp [entryR]) (fun _ _ _ => by simp [entryR]) h.2
        | io κ0 =>
          obtain ⟨⟨a0, rfl, h4, h5⟩, h3⟩ := h
          have nd : (a0 :: ios ms vs).Nodup := nd
          obtain ⟨ni, nd'⟩ := List.nodup_cons.mp nd
          cases i with
          | zero => cases j with
            | zero => rfl
            | succ j =>
              simp at h1; subst h1
              obtain ⟨w, q1, a', q2, _, _, _, q3⟩ := entry_get h3 (by simpa [entryR, ios] using e')
              have h2 : vs[j]? = some (.ref a0) := by simpa using h2
              rw [h2] at q1; cases q1; cases q2
              exact absurd q3 ni
          | succ i => cases j with
            | zero =>
              simp at h2; subst h2
              obtain ⟨w, q1, a', q2, _, _, _, q3⟩ := entry_get h3 (by simpa [entryR, ios] using e)
              have h1 : vs[i]? = some (.ref a0) := by simpa using h1
              rw [h1] at q1; cases q1; cases q2
              exact absurd q3 ni
            | succ j => exact congrArg (· + 1) (ih h3 nd' (by simpa [entryR, ios] using e) (by simpa [entryR, ios] using e') (by simpa using h1) (by simpa using h2))
theorem entry_len {O : Addr → Prop} {vs : List V} : ∀ {ms : List Md} {ds : List D}, ArgAt K F H O ms vs ds → (entryR ms ds (ios ms vs)).length = vs.length := by
  induction vs with
  | nil => intro ms ds h; cases ms with
    | nil => cases ds <;> rfl
    | cons m ms => cases m <;> exact h.elim
  | cons v vs ih => intro ms ds h; cases ms with
    | nil => exact h.elim
    | cons m ms => cases ds with
      | nil => cases m <;> exact h.elim
      | cons d ds => cases m with
        | fz =>
          have hio : ios (.fz :: ms) (v :: vs) = ios ms vs := by cases v <;> rfl
          rw [hio]; simp [entryR, ih h.2]
        | rd =>
          have hio : ios (.rd :: ms) (v :: vs) = ios ms vs := by cases v <;> rfl
          rw [hio]; simp [entryR, ih h.2]
        | io κ =>
          obtain ⟨⟨a0, rfl, h4, h5⟩, h3⟩ := h
          simp [entryR, ios, ih h3]
theorem entry_sta {ms : List Md} {vs : List V} {ds : List D} {N : List Str} (s : Ex F H) (tb : LamX.Tabs Lay.T H) (h : ArgAt K F H (· ∈ ios ms vs) ms vs ds) (nd : (ios ms vs).Nodup) :
    Sta K F H (L2.start N vs) (entryR ms ds (ios ms vs) ++ List.replicate (N.length - ms.length) .un) ∧ ∀ b, OA (L2.start N vs) (entryR ms ds (ios ms vs) ++ List.replicate (N.length - ms.length) .un) b → b ∈ ios ms vs := by
  have hl := entry_len h
  obtain ⟨l1, _, _⟩ := arg_len h
  have cs : ∀ {i : Nat} {s : Slot}, (entryR ms ds (ios ms vs) ++ List.replicate (N.length - ms.length) .un)[i]? = some s → s ≠ .un → (entryR ms ds (ios ms vs))[i]? = some s := fun {i s} e n => by
    by_cases hi : i < (entryR ms ds (ios ms vs)).length
    · rw [List.getElem?_append_left hi] at e; exact e
    · rw [List.getElem?_append_right (by omega), List.getElem?_replicate] at e
      split at e
      · cases e; exact absurd rfl n
      · cases e
  have sv : ∀ {i : Nat} {v : V}, vs[i]? = some v → (L2.start N vs)[i]? = some (some v) := fun {i v} e => by
    have hi : i < vs.length := (List.getElem?_eq_some_iff.mp e).1
    unfold L2.start
    rw [List.getElem?_append_left (by simpa using hi), List.getElem?_map, e]
    rfl
  have oa : ∀ b, OA (L2.start N vs) (entryR ms ds (ios ms vs) ++ List.replicate (N.length - ms.length) .un) b → b ∈ ios ms vs := fun b ⟨i, t, κ, d, h1, h2⟩ => by
    obtain ⟨v, e1, a, e2, _, _, _, e3⟩ := entry_get h (cs h1 (fun z => by cases z))
    rw [sv e1] at h2
    cases h2
    cases e2
    exact e3
  refine ⟨⟨s, ?_, fun i d e => ?_, fun i d e => ?_, fun i t κ d e => ?_, fun i j t t' κ κ' d d' a e e' h1 h2 => ?_, tb⟩, oa⟩
  · unfold L2.start
    simp [hl, l1]
  · obtain ⟨v, e1, e2⟩ := entry_get h (cs e (fun z => by cases z))
    exact ⟨v, sv e1, e2⟩
  · obtain ⟨v, e1, e2⟩ := entry_get h (cs e (fun z => by cases z))
    exact ⟨v, sv e1, RdN.imp e2 oa⟩
  · obtain ⟨v, e1, a, e2, e3, e4, e5, _⟩ := entry_get h (cs e (fun z => by cases z))
    subst e2
    exact ⟨a, sv e1, e4, e5, fun b z => by rw [e3] at z; cases z; rfl⟩
  · have q1 := cs e (fun z => by cases z)
    have q2 := cs e' (fun z => by cases z)
    obtain ⟨v, e1, _⟩ := entry_get h q1
    obtain ⟨v', e1', _⟩ := entry_get h q2
    rw [sv e1] at h1; cases h1
    rw [sv e1'] at h2; cases h2
    exact entry_inj h nd q1 q2 e1 e1'
theorem outR_ok {vs : List V} (S : Sta K F' H' σ' ρ') : ∀ {ms : List Md} {p : Nat} {k : List D → Prop}, vs.length = ms.length → (ios ms vs).length = nio ms → outR ms p (ios ms vs) ρ' k →
    ∃ os, k os ∧ OutAt K F' H' ms vs os ∧ ∀ a ∈ ios ms vs, ∃ (q : Nat) (κ : Kd) (d : D), ρ'[q]? = some (Slot.ow (some a) κ d) := by
  induction vs with
  | nil => intro ms p k l l2 h; cases ms with
    | nil => exact ⟨[], h, rfl, fun a z => by cases z⟩
    | cons m ms => simp at l
  | cons v vs ih => intro ms p k l l2 h; cases ms with
    | nil => simp at l
    | cons m ms =>
      have l' : vs.length = ms.length := by simpa using l
      cases m with
      | fz =>
        have hio : ios (.fz :: ms) (v :: vs) = ios ms vs := by cases v <;> rfl
        rw [hio] at h l2 ⊢
        exact ih l' l2 h
      | rd =>
        have hio : ios (.rd :: ms) (v :: vs) = ios ms vs := by cases v <;> rfl
        rw [hio] at h l2 ⊢
        exact ih l' l2 h
      | io κ =>
        have key : ∃ a0, v = .ref a0 := by
          cases v with
          | ref a0 => exact ⟨a0, rfl⟩
          | _ =>
            exfalso
            have l3 : (ios ms vs).length = nio ms + 1 := l2
            have : ∀ {vs : List V} {ms : List Md}, (ios ms vs).length ≤ nio ms := fun {vs} => by
              induction vs with
              | nil => intro ms; cases ms with
                | nil => exact Nat.le_refl _
                | cons m ms => cases m <;> exact Nat.zero_le _
              | cons v vs ih => intro ms; cases ms with
                | nil => exact Nat.le_refl _
                | cons m ms => cases m with
                  | fz => cases v <;> exact ih
                  | rd => cases v <;> exact ih
                  | io κ => cases v with
                    | ref a => exact Nat.succ_le_succ ih
                    | _ => exact Nat.le_succ_of_le ih
            have := @this vs ms
            omega
        obtain ⟨a0, rfl⟩ := key
        have h0 : match ρ'[p]? with
          | some (.ow (some b) κ' d) => b = a0 ∧ κ' = κ ∧ outR ms (p + 1) (ios ms vs) ρ' fun os => k (d :: os)
          | _ => False := h
        clear h
        split at h0
        · rename_i b κ' d e
          obtain ⟨e1, e2, h⟩ := h0
          subst e1 e2
          obtain ⟨os, hk, ho, ha⟩ := ih (k := fun os => k (d :: os)) l' (by simpa [ios, nio] using l2) h
          obtain ⟨a', g1, g2, g3, g4⟩ := S.ow p _ _ _ e
          have := g4 b rfl
          subst this
          refine ⟨d :: os, hk, ⟨⟨b, rfl, g2⟩, ho⟩, fun a z => ?_⟩
          rcases List.mem_cons.mp (show a ∈ b :: ios ms vs from z) with y | y
          · subst y; exact ⟨p, _, _, e⟩
          · exact ha a y
        · exact h0.elim
end
section
variable {P : Program} {w : World} {K : PySem.W.Frag} {mg : Str → Option Value} {base : Heap}
theorem fn_ok {x qual : Str} {st : Stmt} {f : Addr} {fd : FuncData} {N ps : List Str} {k : Nat} {ms : List Md} {ts : TSp} (Fu : Fun K x qual st f fd) (S : FnScope N ps (defScope st)) (hl : ms.length = ps.length) (b : DTS)
    (hb : ∀ (cdv : Value) (A : Around) (outer : List Env) (s : Shared) (H : Hp) (E : XK), Room k (A.deeper (PyProof.Rows.envOfC qual (defScope st) s.heap.objs.size f cdv)) → DSs (cxOf CX0 P w K mg base N qual (defScope st) f cdv A outer s H E).nox (defBody st) b)
    (sp : ∀ ds k as, ts ds k → ds.length = ms.length → as.length = nio ms → b { nx := finR ms as k (.fz .none), rt := finR ms as k } (entryR ms ds as ++ List.replicate (N.length - ms.length) .un)) :
    FnOk P w K mg base CX0 (k + 1) f fd ps (spT K ms ts) := by
  refine Fu.ok S (fun vs H Q E h => ?_) (fun cdv A outer s H vs Q E hr h => ?_)
  · obtain ⟨F, ds, k, _, ha, _⟩ := h
    rw [(arg_len ha).1, hl]
  · obtain ⟨F, ds, k, se, ha, nd, tb, ht, hq⟩ := h
    obtain ⟨l1, l2, l3⟩ := arg_len ha
    obtain ⟨S0, oa⟩ := entry_sta (N := N) se tb ha nd
    have fin : ∀ r σ' ρ' v F' H', finR ms (ios ms vs) k r ρ' → Sta K F' H' σ' ρ' → Tr F H (L2.start N vs) (entryR ms ds (ios ms vs) ++ List.replicate (N.length - ms.length) .un) F' H' σ' ρ' → Fits K F' H' σ' ρ' H v r → Q v H' := fun r σ' ρ' v F' H' q S' T f => by
      obtain ⟨os, q, ho, ha'⟩ := outR_ok S' l1 l3 q
      have own : ∀ a ∈ ios ms vs, OA σ' ρ' a ∧ F' a = none ∧ ∃ (q : Nat) (κ : Kd) (d : D), ρ'[q]? = some (Slot.ow (some a) κ d) ∧ σ'[q]? = some (some (.ref a)) := fun a z => by
        obtain ⟨q, κ, d, e⟩ := ha' a z
        obtain ⟨a', g1, _, g3, g4⟩ := S'.ow q _ _ _ e
        have := g4 a rfl
        subst this
        exact ⟨⟨q, _, _, _, e, g1⟩, g3, q, κ, d, e, g1⟩
      have mk : ∀ z, k z os → (match z with
          | .fz d => Dp K F' v d
          | .tm κ d => ∃ a, v = .ref a ∧ OwAt K F' H' κ a d ∧ F' a = none ∧ H a = none
          | _ => False) → Q v H' := fun z hk ft => hq z os v F' H' hk ⟨T.fext, S'.sub, fun b o h nt n => T.keep b o h nt fun z => n (oa b z), S'.tab, T.there, (fun b o h => by
            rcases T.fnew b o h with y | y | y
            · exact .inl y
            · exact .inr y
            · rw [(own b (oa b y)).2.1] at h; cases h), ho, ft⟩
      cases r with
      | fz d => exact mk _ q f
      | tm κ d =>
        obtain ⟨a, e, g1, g2, _, g4⟩ := f
        exact mk _ q ⟨a, e, g1, g2, g4⟩
      | rd d => exact q.elim
      | bo i =>
        have f : σ'[i]? = some (some v) := f
        simp only at q
        split at q
        · rename_i κ d e
          obtain ⟨a, g1, g2, g3, g4⟩ := S'.ow i _ _ _ e
          rw [f] at g1; cases g1
          refine mk _ q ⟨a, rfl, g2, g3, ?_⟩
          rcases T.own a ⟨i, _, _, _, e, f⟩ with y | y
          · exfalso
            obtain ⟨_, _, p, κ', d', e1, e2⟩ := own a (oa a y)
            have := S'.inj i p _ _ _ _ _ _ a e e1 f e2
            subst this
            rw [e] at e1; cases e1
          · exact y
        · rename_i d e
          obtain ⟨v', g1, g2⟩ := S'.fz i d e
          rw [f] at g1; cases g1
          exact mk _ q g2
        · exact q.elim
    refine ⟨_, hb cdv A outer s H E hr, F, _, _, S0, sp ds k (ios ms vs) ht l2 l3, fun σ' ρ' F' H' q S' T => fin (.fz .none) σ' ρ' .non F' H' q S' T (show Dp K F' .non .none from .non), fun r σ' ρ' v F' H' q S' T f => fin r σ' ρ' v F' H' q S' T f, fun _ _ _ _ q => q.elim, fun _ _ _ _ q => q.elim⟩
end
end TL

-- part TL8
/-! TL8: operations and built-in functions over trees. -/
namespace TL
open PySem PySem.Spec L2
open Evl (Ex ex_l ex_t)
variable [Lay]

section
variable {K : PySem.W.Frag} {F F' H H' : Hp} {v w : V}
theorem RdAt.int {i : Int} (h : RdAt K F H v (.int i)) : v = .int i := by
  rcases h with h | ⟨κ, a, _, h⟩
  · cases h; rfl
  · cases κ <;> (obtain ⟨_, _, e, _⟩ := h; cases e)
theorem RdAt.bool {i : Bool} (h : RdAt K F H v (.bool i)) : v = .bl i := by
  rcases h with h | ⟨κ, a, _, h⟩
  · cases h; rfl
  · cases κ <;> (obtain ⟨_, _, e, _⟩ := h; cases e)
theorem RdAt.str {i : Str} (h : RdAt K F H v (.str i)) : v = .str i := by
  rcases h with h | ⟨κ, a, _, h⟩
  · cases h; rfl
  · cases κ <;> (obtain ⟨_, _, e, _⟩ := h; cases e)
theorem RdAt.non (h : RdAt K F H v .none) : v = .non := by
  rcases h with h | ⟨κ, a, _, h⟩
  · cases h; rfl
  · cases κ <;> (obtain ⟨_, _, e, _⟩ := h; cases e)
theorem RdAt.list {ds : List D} (s : Ex F H) (h : RdAt K F H v (.list ds)) : ∃ a xs, v = .ref a ∧ Rd H a (.lst xs) ∧ DpAll K F xs ds := by
  rcases h with h | ⟨κ, a, rfl, h⟩
  · cases h with | lst h1 h2 => exact ⟨_, _, rfl, rd_ex s h1, h2⟩
  · cases κ with
    | l => obtain ⟨xs, ds', e, h1, h2⟩ := h; cases e; exact ⟨a, xs, rfl, .inl h1, h2⟩
    | k => obtain ⟨_, _, e, _⟩ := h; cases e
    | t => obtain ⟨_, _, e, _⟩ := h; cases e
theorem RdAt.tuple {ds : List D} (h : RdAt K F H v (.tuple ds)) : ∃ a xs, v = .ref a ∧ SqT K F a xs ∧ DpAll K F xs ds ∧ Dp K F v (.tuple ds) := by
  rcases h with h | ⟨κ, a, _, h⟩
  · cases id h with | tup h1 h2 => exact ⟨_, _, rfl, h1.sq, h2, h⟩
  · cases κ <;> (obtain ⟨_, _, e, _⟩ := h; cases e)
/-- what may be read, as the library's data -/
theorem RdAt.l2 {d : D} (s : Ex F H) (h : RdAt K F H v d) (hd : SeqAt.shaped d = true) : L2.Dp K H v d := by
  have c := SeqAt.canLay_of_shaped hd
  rcases h with h | ⟨κ, a, rfl, h⟩
  · exact dp_l2 s h c
  · cases κ with
    | l => obtain ⟨xs, ds', rfl, h1, h2⟩ := h; exact .lst (Evl.sq_of h1) (dpAll_l2 s h2 (by simpa [PyData.canLay0] using c))
    | k => obtain ⟨_, ps, rfl, _⟩ := h; simp [PyData.canLay0] at c
    | t => obtain ⟨_, ps, rfl, _⟩ := h; simp [PyData.canLay0] at c
end
section
variable {X : Cx}
/-- an answer that is a value without objects -/
theorem r2_val {K : PySem.W.Frag} {F H : Hp} {Q : VK} {k : Res → Prop} {d : D} {v : V} (s : Ex F H) (hk : k (.fz d)) (fin : ∀ z v F' H', k z → New K F H F' H' v z → Q v H') (dp : Dp K F v d) : Q v H := fin _ _ _ _ hk (New.val s dp)

/-- list + list, list * int, over what may be read -/
theorem op_catR : OpR X (binaryOp .Add) (fun x y H Q => ∃ l b xs zs, x = V.ref l ∧ y = V.ref b ∧ Rd H l (.lst xs) ∧ Rd H b (.lst zs) ∧ xs.length + zs.length ≤ sizeLine ∧ ∀ p, H p = none → Q (.ref p) (upd H p (.lst (xs ++ zs)))) := by
  intro pins s σ H x y v u Q I rx ry ⟨l, b, xs, zs, e1, e2, hl, hb, hz, q⟩
  subst e1 e2
  cases rx
  cases ry
  obtain ⟨_, its, n, r, o1⟩ := hl.ok I.hok
  obtain ⟨_, jts, m, r', o2⟩ := hb.ok I.hok
  have n1 := r.length
  have n2 := r'.length
  refine PySem.P.add_list o1 o2 ?_ (by rw [List.size_toArray, List.size_toArray]; omega)
  have ap : its.toArray ++ jts.toArray = (its ++ jts).toArray := by simp
  rw [ap]
  exact ⟨.ref _, _, I.lnew (t' := s.toks) (r.append r') (by rw [List.length_append]; omega), rfl, q _ I.fresh⟩
/-! ### arithmetic -/
def okMul (a b : Int) : Prop := (-(2 ^ 64) < a ∧ a < 2 ^ 64) ∨ (-(2 ^ 64) < b ∧ b < 2 ^ 64)
@[simp] def gAdd : D → D → (Res → Prop) → Prop
  | .int a, .int b, k => k (.fz (.int (a + b)))
  | .str a, .str b, k => a.length + b.length ≤ sizeLine ∧ k (.fz (.str (a ++ b)))
  | .list a, .list b, k => a.length + b.length ≤ sizeLine ∧ k (.tm .l (.list (a ++ b)))
  | .tuple a, .tuple b, k => a.length + b.length ≤ sizeLine ∧ k (.fz (.tuple (a ++ b)))
  | _, _, _ => False
theorem op_gAdd : OpR X (binaryOp .Add) (r2 X.K gAdd) := by
  intro pins s σ H x y v u Q I rx ry ⟨F, dx, dy, k, se, hx, hy, g, fin⟩
  unfold gAdd at g
  split at g
  · rename_i a b
    cases hx.int; cases hy.int
    exact op_add pins s σ H _ _ v u Q I rx ry ⟨a, b, rfl, rfl, r2_val se g fin (.int _)⟩
  · rename_i a b
    cases hx.str; cases hy.str
    exact op_add_str pins s σ H _ _ v u Q I rx ry ⟨a, b, rfl, rfl, g.1, r2_val se g.2 fin (.str _)⟩
  · rename_i a b
    obtain ⟨la, xs, rfl, h1, h2⟩ := hx.list se
    obtain ⟨lb, ys, rfl, h3, h4⟩ := hy.list se
    exact op_catR pins s σ H _ _ v u Q I rx ry ⟨la, lb, xs, ys, rfl, rfl, h1, h3, by rw [dpAll_len h2, dpAll_len h4]; exact g.1, fun p hp => fin _ _ _ _ g.2 (New.list se hp (dpAll_app h2 h4))⟩
  · rename_i a b
    obtain ⟨la, xs, rfl, h1, h2, dx⟩ := hx.tuple
    obtain ⟨lb, ys, rfl, h3, h4, dy⟩ := hy.tuple
    refine op_catA pins s σ H _ _ v u Q I rx ry ⟨la, lb, xs, ys, rfl, rfl, ex_t se h1, ex_t se h3, by rw [dpAll_len h2, dpAll_len h4]; exact g.1, fun e => ?_, fun _ e => ?_, fun _ _ p hp => fin _ _ _ _ g.2 (New.tuple se hp (dpAll_app h2 h4))⟩
    · subst e
      cases h2
      exact fin _ _ _ _ g.2 (New.val se dy)
    · subst e
      cases h4
      rw [List.append_nil] at g
      exact fin _ _ _ _ g.2 (New.val se dx)
  · exact g.elim
theorem iop_of {op : Operator} {g : D → D → (Res → Prop) → Prop} (h : ∀ (pins : List (Addr × Obj)) (s : Shared) (σ : L2.St) (H : Hp) (x y : V) (v u : Value) (Q : VK), Inv X pins σ H s → RelV x v → RelV y u → r2 X.K g x y H Q → wpAny (model X.prog X.w) X.A (inplaceOp op v u) (EP X pins σ Q) X.xe s) : OpR X (inplaceOp op) (r2 X.K g) := h
@[simp] def gAddI : D → D → (Res → Prop) → Prop
  | .int a, .int b, k => k (.fz (.int (a + b)))
  | _, _, _ => False
theorem op_gAddI : OpR X (inplaceOp .Add) (r2 X.K gAddI) := by
  intro pins s σ H x y v u Q I rx ry ⟨F, dx, dy, k, se, hx, hy, g, fin⟩
  unfold gAddI at g
  split at g
  · rename_i a b
    cases hx.int; cases hy.int
    exact iop_add pins s σ H _ _ v u Q I rx ry ⟨a, b, rfl, rfl, r2_val se g fin (.int _)⟩
  · exact g.elim
@[simp] def gSub : D → D → (Res → Prop) → Prop
  | .int a, .int b, k => k (.fz (.int (a - b)))
  | _, _, _ => False
theorem op_gSub : OpR X (binaryOp .Sub) (r2 X.K gSub) := by
  intro pins s σ H x y v u Q I rx ry ⟨F, dx, dy, k, se, hx, hy, g, fin⟩
  unfold gSub at g
  split at g
  · rename_i a b
    cases hx.int; cases hy.int
    exact op_sub pins s σ H _ _ v u Q I rx ry ⟨a, b, rfl, rfl, r2_val se g fin (.int _)⟩
  · exact g.elim
@[simp] def gMul : D → D → (Res → Prop) → Prop
  | .int a, .int b, k => okMul a b ∧ k (.fz (.int (a * b)))
  | _, _, _ => False
theorem dpAll_rep {K : PySem.W.Frag} {F : Hp} {xs : List V} {ds : List D} (h : DpAll K F xs ds) : ∀ n : Nat, DpAll K F (List.replicate n xs).flatten (List.replicate n ds).flatten
  | 0 => .nil
  | n + 1 => by
    rw [List.replicate_succ, List.replicate_succ, List.flatten_cons, List.flatten_cons]
    exact dpAll_app h (dpAll_rep h n)
theorem op_gMul : OpR X (binaryOp .Mult) (r2 X.K gMul) := by
  intro pins s σ H x y v u Q I rx ry ⟨F, dx, dy, k, se, hx, hy, g, fin⟩
  unfold gMul at g
  split at g
  · rename_i a b
    cases hx.int; cases hy.int
    exact op_mul pins s σ H _ _ v u Q I rx ry ⟨a, b, rfl, rfl, g.1, r2_val se g.2 fin (.int _)⟩
  · exact g.elim
/-- a new list * int -/
@[simp] def dRep (da db : DTE) : DTE := fun ρ k => da ρ fun x ρ1 => db ρ1 fun y ρ2 => match x with
  | .tm .l (.list ds) => wc y ρ2 fun d => match d with
    | .int b => (-(2 ^ 63) ≤ b ∧ b < 2 ^ 63 ∧ ds.length * b.toNat ≤ sizeLine) ∧ k (.tm .l (.list (List.replicate b.toNat ds).flatten)) ρ2
    | _ => False
  | _ => False
theorem de_rep {a b : Expr} {da db : DTE} {pos : Pos} (ha : DE X a da) (hb : DE X b db) : DE X (.BinOp a .Mult b pos) (dRep da db) :=
  PE.le (pe_op op_rep ha hb) fun σ H Q ⟨F, ρ, k, S, q, fin⟩ => up2 S q fun x y ρ' v u F' H' q S' T f1 f2 => by
    split at q
    · rename_i ds
      obtain ⟨d, rd, q⟩ := wc_rd S' f2 q
      split at q
      · rename_i n
        cases rd.int
        obtain ⟨p, rfl, ⟨xs, _, hd, h1, h2⟩, _⟩ := f1
        cases hd
        refine ⟨p, n, xs, rfl, rfl, h1, q.1.1, q.1.2.1, by rw [dpAll_len h2]; exact q.1.2.2, fun p hp => ?_⟩
        have nw := New.list (K := X.K) S'.sub hp (dpAll_rep h2 n.toNat)
        exact fin _ _ _ _ _ q.2 (nw.sta S') (T.trans nw.tr) (nw.fits S' fun _ z => T.none z)
      · exact q.elim
    · exact q.elim
/-- by a divisor above 0 -/
@[simp] def gFdiv : D → D → (Res → Prop) → Prop
  | .int a, .int b, k => (0 < b ∧ b < 1073741824) ∧ k (.fz (.int (a / b)))
  | _, _, _ => False
theorem op_gFdiv : OpR X (binaryOp .FloorDiv) (r2 X.K gFdiv) := by
  intro pins s σ H x y v u Q I rx ry ⟨F, dx, dy, k, se, hx, hy, g, fin⟩
  unfold gFdiv at g
  split at g
  · rename_i a b
    cases hx.int; cases hy.int
    exact op_fdiv pins s σ H _ _ v u Q I rx ry ⟨a, b, rfl, rfl, g.1, r2_val se g.2 fin (.int _)⟩
  · exact g.elim
@[simp] def gMod : D → D → (Res → Prop) → Prop
  | .int a, .int b, k => 0 < b ∧ k (.fz (.int (a % b)))
  | _, _, _ => False
theorem op_gMod : OpR X (binaryOp .Mod) (r2 X.K gMod) := by
  intro pins s σ H x y v u Q I rx ry ⟨F, dx, dy, k, se, hx, hy, g, fin⟩
  unfold gMod at g
  split at g
  · rename_i a b
    cases hx.int; cases hy.int
    exact op_mod pins s σ H _ _ v u Q I rx ry ⟨a, b, rfl, rfl, g.1, r2_val se g.2 fin (.int _)⟩
  · exact g.elim
@[simp] def gPow : D → D → (Res → Prop) → Prop
  | .int a, .int b, k => (0 ≤ b ∧ b ≤ 1000000 ∧ a.natAbs < 2 ^ 64) ∧ k (.fz (.int (a ^ b.toNat)))
  | _, _, _ => False
theorem op_gPow : OpR X (binaryOp .Pow) (r2 X.K gPow) := by
  intro pins s σ H x y v u Q I rx ry ⟨F, dx, dy, k, se, hx, hy, g, fin⟩
  unfold gPow at g
  split at g
  · rename_i a b
    cases hx.int; cases hy.int
    exact op_pow pins s σ H _ _ v u Q I rx ry ⟨a, b, rfl, rfl, g.1, r2_val se g.2 fin (.int _)⟩
  · exact g.elim
@[simp] def gNeg : D → (Res → Prop) → Prop
  | .int a, k => k (.fz (.int (-a)))
  | _, _ => False
theorem un_gNeg : UnR X (unaryOp .USub) (r1 X.K gNeg) := by
  intro pins s σ H x v Q I rx ⟨F, dx, k, se, hx, g, fin⟩
  unfold gNeg at g
  split at g
  · rename_i a
    cases hx.int
    exact un_neg pins s σ H _ v Q I rx ⟨a, rfl, r2_val se g fin (.int _)⟩
  · exact g.elim

/-! ### comparisons -/
@[simp] def gCmp (p : Int → Int → Bool) : D → D → (Res → Prop) → Prop
  | .int a, .int b, k => k (.fz (.bool (p a b)))
  | _, _, _ => False
theorem op_gCmp {op : CmpOp} {p : Int → Int → Bool} (h : OpR X (compareOp op) (rI0 fun i j => .bl (p i j))) : OpR X (compareOp op) (r2 X.K (gCmp p)) := by
  intro pins s σ H x y v u Q I rx ry ⟨F, dx, dy, k, se, hx, hy, g, fin⟩
  unfold gCmp at g
  split at g
  · rename_i a b
    cases hx.int; cases hy.int
    exact h pins s σ H _ _ v u Q I rx ry ⟨a, b, rfl, rfl, r2_val se g fin (.bl _)⟩
  · exact g.elim
@[simp] abbrev gLt := gCmp fun i j => decide (i < j)
@[simp] abbrev gLe := gCmp fun i j => decide (i ≤ j)
@[simp] abbrev gGt := gCmp fun i j => decide (j < i)
@[simp] abbrev gGe := gCmp fun i j => decide (j ≤ i)
theorem op_gLt : OpR X (compareOp .Lt) (r2 X.K gLt) := op_gCmp op_lt
theorem op_gLe : OpR X (compareOp .LtE) (r2 X.K gLe) := op_gCmp op_le
theorem op_gGt : OpR X (compareOp .Gt) (r2 X.K gGt) := op_gCmp op_gt
theorem op_gGe : OpR X (compareOp .GtE) (r2 X.K gGe) := op_gCmp op_ge
/-- data without dicts, not too deep -/
def Sh (d : D) : Prop := SeqAt.shaped d = true
theorem Sh.nd {d : D} (h : Sh d) : ∀ ps, d ≠ .dict ps := fun ps e => by
  subst e
  have : (PyData.canLay0 (.dict ps) && decide (PyData.depth (.dict ps) ≤ 64)) = true := h
  simp [PyData.canLay0] at this
@[simp] def gEq (d e : D) (k : Res → Prop) : Prop := Sh d ∧ Sh e ∧ k (.fz (.bool (PyData.eqv d e)))
@[simp] def gNe (d e : D) (k : Res → Prop) : Prop := Sh d ∧ Sh e ∧ k (.fz (.bool (!PyData.eqv d e)))
theorem op_gEq (hu : X.A.units + 64 < cLine) : OpR X (compareOp .Eq) (r2 X.K gEq) := by
  intro pins s σ H x y v u Q I rx ry ⟨F, dx, dy, k, se, hx, hy, ⟨s1, s2, g⟩, fin⟩
  exact op_eqD hu pins s σ H _ _ v u Q I rx ry ⟨dx, dy, hx.l2 se s1, hy.l2 se s2, s1, s2, r2_val se g fin (.bl _)⟩
theorem op_gNe (hu : X.A.units + 64 < cLine) : OpR X (compareOp .NotEq) (r2 X.K gNe) := by
  intro pins s σ H x y v u Q I rx ry ⟨F, dx, dy, k, se, hx, hy, ⟨s1, s2, g⟩, fin⟩
  exact op_neD hu pins s σ H _ _ v u Q I rx ry ⟨dx, dy, hx.l2 se s1, hy.l2 se s2, s1, s2, r2_val se g fin (.bl _)⟩
end
/-! truth values compared by is -/
section
variable {X : Cx}
def gIsB (b : Bool) (d : D) (k : Res → Prop) : Prop := match d with
  | .bool c => k (.fz (.bool (c == b)))
  | _ => k (.fz (.bool false))
end
end TL

-- part TL9
/-! TL9: calls of built-ins, subscripts, slices, methods, stores over trees. -/
namespace TL
open PySem PySem.Spec L2
open Evl (Ex ex_l ex_t)
variable [Lay]

@[simp] def wcs : List Res → List Slot → (List D → Prop) → Prop
  | [], _, k => k []
  | r :: rs, ρ, k => wc r ρ fun d => wcs rs ρ fun ds => k (d :: ds)
section
variable {K : PySem.W.Frag} {F F' F0 H H' H0 H1 : Hp} {σ : L2.St} {ρ ρ' ρ0 : List Slot}
theorem wcs_rd {vs : List V} : ∀ {rs : List Res} {k : List D → Prop}, Sta K F H σ ρ → FitsAll K F H σ ρ H0 vs rs → wcs rs ρ k → ∃ ds, RdAll K F H vs ds ∧ k ds := by
  induction vs with
  | nil => intro rs k S f h; cases rs with
    | nil => exact ⟨[], .nil, h⟩
    | cons => exact f.elim
  | cons v vs ih => intro rs k S f h; cases rs with
    | nil => exact f.elim
    | cons r rs =>
      obtain ⟨d, h1, h⟩ := wc_rd S f.1 h
      obtain ⟨ds, h2, h⟩ := ih S f.2 h
      exact ⟨d :: ds, .cons h1 h2, h⟩
end
/-! ### f(..), f a built-in -/
@[simp] def dFn (g : List D → (Res → Prop) → Prop) (da : DTA) : DTE := fun ρ k => da ρ fun rs ρ1 => wcs rs ρ1 fun ds => g ds fun z => k z ρ1
section
variable {X : Cx} {x : Str} {id T : String} {e : Expr} {es : List Expr} {da : DTA} {d1 d2 : DTE} {p pos : Pos} {g : List D → (Res → Prop) → Prop}
theorem up_fn {K : PySem.W.Frag} {σ : L2.St} {H : Hp} {Q : VK} (h : up K (dFn g da) σ H Q) : tCB (rn K g) (upA K da) σ H Q := by
  obtain ⟨F, ρ, k, S, q, fin⟩ := h
  refine ⟨F, ρ, _, S, q, fun rs ρ1 vs F1 H1 q S1 T1 f => ?_⟩
  obtain ⟨ds, rd, q⟩ := wcs_rd S1 f q
  exact ⟨F1, ds, _, S1.sub, rd, q, fun z v F' H' kz n => fin z ρ1 v F' H' kz (n.sta S1) (T1.trans n.tr) (n.fits S1 fun _ z => T1.none z)⟩
theorem de_fnB (hc : CallR X (.builtin id) (rn X.K g)) (hg : Gl X x) (hm : X.mg x = none) (hv : bootBuiltins x = some (.builtin id)) (ha : DA X (e :: es) da) (hn : x ≠ "__name__" := by decide) (hdb : (x == ("__debug__" : Str)) = false := by decide)
    (he : starEach (e :: es) X.env = (false, eval e X.env) :: starEach es X.env := by rfl) (hpl : (backTo pos (starEach es X.env)).any (·.1) = false := by rfl) : DE X (.Call (.Name x p) (e :: es) [] pos) (dFn g da) :=
  PE.le (pe_callB hc hg hm hv ha hn hdb he hpl) fun σ H Q h => up_fn h
theorem de_fnT (hc : CallR X (.type T) (rn X.K g)) (hg : Gl X x) (hm : X.mg x = none) (hv : bootBuiltins x = some (.type T)) (ha : DA X (e :: es) da) (hn : x ≠ "__name__" := by decide) (hdb : (x == ("__debug__" : Str)) = false := by decide)
    (he : starEach (e :: es) X.env = (false, eval e X.env) :: starEach es X.env := by rfl) (hpl : (backTo pos (starEach es X.env)).any (·.1) = false := by rfl) : DE X (.Call (.Name x p) (e :: es) [] pos) (dFn g da) :=
  PE.le (pe_callTy hc hg hm hv ha hn hdb he hpl) fun σ H Q h => up_fn h
/-- a built-in of the module's own import (from math import gcd) -/
theorem RdAll.one {K : PySem.W.Frag} {F H : Hp} {vs : List V} {d : D} (h : RdAll K F H vs [d]) : ∃ v, vs = [v] ∧ RdAt K F H v d := by
  cases h with | cons h1 h2 => cases h2; exact ⟨_, rfl, h1⟩
theorem RdAll.two {K : PySem.W.Frag} {F H : Hp} {vs : List V} {d e : D} (h : RdAll K F H vs [d, e]) : ∃ v w, vs = [v, w] ∧ RdAt K F H v d ∧ RdAt K F H w e := by
  cases h with | cons h1 h2 => cases h2 with | cons h2 h3 => cases h3; exact ⟨_, _, rfl, h1, h2⟩

@[simp] def gLen : List D → (Res → Prop) → Prop
  | [.list ds], k => k (.fz (.int ds.length))
  | [.tuple ds], k => k (.fz (.int ds.length))
  | [.str z], k => z.length ≤ sizeLine ∧ k (.fz (.int z.length))
  | _, _ => False
theorem cr_gLen : CallR X (.builtin "len") (rn X.K gLen) := by
  intro pins s σ H xs us Q I r ⟨F, ds, k, se, rd, g, fin⟩
  unfold gLen at g
  split at g
  · obtain ⟨v, rfl, h⟩ := rd.one
    obtain ⟨a, ys, rfl, h1, h2⟩ := h.list se
    exact call_len_seq pins s σ H _ us Q I r ⟨a, ys, rfl, .inl (.inl h1), by rw [dpAll_len h2]; exact r2_val se g fin (.int _)⟩
  · obtain ⟨v, rfl, h⟩ := rd.one
    obtain ⟨a, ys, rfl, h1, h2, _⟩ := h.tuple
    exact call_len_seq pins s σ H _ us Q I r ⟨a, ys, rfl, .inr (ex_t se h1), by rw [dpAll_len h2]; exact r2_val se g fin (.int _)⟩
  · obtain ⟨v, rfl, h⟩ := rd.one
    cases h.str
    exact call_len_str pins s σ H _ us Q I r ⟨_, rfl, g.1, r2_val se g.2 fin (.int _)⟩
  · exact g.elim
@[simp] def gListOf : List D → (Res → Prop) → Prop
  | [.list ds], k => k (.tm .l (.list ds))
  | [.tuple ds], k => k (.tm .l (.list ds))
  | _, _ => False
theorem cr_gListOf : CallR X (.type "list") (rn X.K gListOf) := by
  intro pins s σ H xs us Q I r ⟨F, ds, k, se, rd, g, fin⟩
  unfold gListOf at g
  split at g
  · obtain ⟨v, rfl, h⟩ := rd.one
    obtain ⟨a, ys, rfl, h1, h2⟩ := h.list se
    exact call_list_of pins s σ H _ us Q I r ⟨a, ys, rfl, .inl (.inl h1), fun l hl => fin _ _ _ _ g (New.list se hl h2)⟩
  · obtain ⟨v, rfl, h⟩ := rd.one
    obtain ⟨a, ys, rfl, h1, h2, _⟩ := h.tuple
    exact call_list_of pins s σ H _ us Q I r ⟨a, ys, rfl, .inr (ex_t se h1), fun l hl => fin _ _ _ _ g (New.list se hl h2)⟩
  · exact g.elim
@[simp] def gTupleOf : List D → (Res → Prop) → Prop
  | [.list ds], k => k (.fz (.tuple ds))
  | [.tuple ds], k => k (.fz (.tuple ds))
  | _, _ => False
theorem cr_gTupleOf : CallR X (.type "tuple") (rn X.K gTupleOf) := by
  intro pins s σ H xs us Q I r ⟨F, ds, k, se, rd, g, fin⟩
  unfold gTupleOf at g
  split at g
  · obtain ⟨v, rfl, h⟩ := rd.one
    obtain ⟨a, ys, rfl, h1, h2⟩ := h.list se
    exact call_tuple_of pins s σ H _ us Q I r ⟨a, ys, rfl, .inl ⟨(.inl h1), fun l hl => fin _ _ _ _ g (New.tuple se hl h2)⟩⟩
  · obtain ⟨v, rfl, h⟩ := rd.one
    obtain ⟨a, ys, rfl, h1, h2, dp⟩ := h.tuple
    exact call_tuple_of pins s σ H _ us Q I r ⟨a, ys, rfl, .inr ⟨ex_t se h1, r2_val se g fin dp⟩⟩
  · exact g.elim
/-- int(n), int(flag) -/
@[simp] def gInt : List D → (Res → Prop) → Prop
  | [.int i], k => k (.fz (.int i))
  | [.bool b], k => k (.fz (.int (if b then 1 else 0)))
  | _, _ => False
theorem cr_gInt : CallR X (.type "int") (rn X.K gInt) := by
  intro pins s σ H xs us Q I r ⟨F, ds, k, se, rd, g, fin⟩
  unfold gInt at g
  split at g
  · obtain ⟨v, rfl, h⟩ := rd.one
    cases h.int
    exact call_int1 pins s σ H _ us Q I r (.inl ⟨_, rfl, r2_val se g fin (.int _)⟩)
  · obtain ⟨v, rfl, h⟩ := rd.one
    cases h.bool
    exact call_int1 pins s σ H _ us Q I r (.inr ⟨_, rfl, r2_val se g fin (.int _)⟩)
  · exact g.elim
@[simp] def gAbs : List D → (Res → Prop) → Prop
  | [.int i], k => k (.fz (.int (if i < 0 then -i else i)))
  | _, _ => False
theorem cr_gAbs : CallR X (.builtin "abs") (rn X.K gAbs) := by
  intro pins s σ H xs us Q I r ⟨F, ds, k, se, rd, g, fin⟩
  unfold gAbs at g
  split at g
  · obtain ⟨v, rfl, h⟩ := rd.one
    cases h.int
    exact call_abs pins s σ H _ us Q I r ⟨_, rfl, r2_val se g fin (.int _)⟩
  · exact g.elim
@[simp] def gStrI : List D → (Res → Prop) → Prop
  | [.int i], k => i.natAbs.log2 < 1920 ∧ k (.fz (.str (toString i)))
  | [.str z], k => k (.fz (.str z))
  | _, _ => False
theorem cr_gStrI : CallR X (.type "str") (rn X.K gStrI) := by
  intro pins s σ H xs us Q I r ⟨F, ds, k, se, rd, g, fin⟩
  unfold gStrI at g
  split at g
  · obtain ⟨v, rfl, h⟩ := rd.one
    cases h.int
    exact call_str_int pins s σ H _ us Q I r ⟨_, rfl, g.1, r2_val se g.2 fin (.str _)⟩
  · obtain ⟨v, rfl, h⟩ := rd.one
    cases h.str
    exact SkE.call_str_str pins s σ H _ us Q I r ⟨_, rfl, r2_val se g fin (.str _)⟩
  · exact g.elim
/-- the ints of a list, if it holds no other things -/
def intsOf : List D → Option (List Int)
  | [] => some []
  | .int i :: ds => (intsOf ds).map (i :: ·)
  | _ :: _ => none
theorem intsOf_eq : ∀ {ds : List D} {ns : List Int}, intsOf ds = some ns → ds = ns.map .int
  | [], ns, h => by cases h; rfl
  | d :: ds, ns, h => by
    cases d with
    | int i =>
      unfold intsOf at h
      cases e : intsOf ds with
      | none => rw [e] at h; cases h
      | some ms => rw [e] at h; cases h; rw [intsOf_eq e]; rfl
    | _ => cases h
@[simp] theorem intsOf_map : ∀ ns : List Int, intsOf (ns.map .int) = some ns
  | [] => rfl
  | n :: ns => by rw [List.map_cons, intsOf, intsOf_map ns]; rfl
def boolsOf : List D → Option (List Bool)
  | [] => some []
  | .bool i :: ds => (boolsOf ds).map (i :: ·)
  | _ :: _ => none
theorem boolsOf_eq : ∀ {ds : List D} {ns : List Bool}, boolsOf ds = some ns → ds = ns.map .bool
  | [], ns, h => by cases h; rfl
  | d :: ds, ns, h => by
    cases d with
    | bool i =>
      unfold boolsOf at h
      cases e : boolsOf ds with
      | none => rw [e] at h; cases h
      | some ms => rw [e] at h; cases h; rw [boolsOf_eq e]; rfl
    | _ => cases h
@[simp] theorem boolsOf_map : ∀ ns : List Bool, boolsOf (ns.map .bool) = some ns
  | [] => rfl
  | n :: ns => by rw [List.map_cons, boolsOf, boolsOf_map ns]; rfl
theorem dpAll_bools {K : PySem.W.Frag} {F : Hp} : ∀ {vs : List V} {ns : List Bool}, DpAll K F vs (ns.map .bool) → vs = ns.map .bl
  | _, [], .nil => rfl
  | _, n :: ns, .cons h hs => by cases h; rw [dpAll_bools hs]; rfl
@[simp] def gSum : List D → (Res → Prop) → Prop
  | [.list ds], k => ∃ ns, intsOf ds = some ns ∧ k (.fz (.int ns.sum))
  | _, _ => False
theorem cr_gSum (hc : X.calm = true) : CallR X (.builtin "sum") (rn X.K gSum) := by
  intro pins s σ H xs us Q I r ⟨F, ds, k, se, rd, g, fin⟩
  unfold gSum at g
  split at g
  · obtain ⟨v, rfl, h⟩ := rd.one
    obtain ⟨ns, e, g⟩ := g
    obtain ⟨a, ys, rfl, h1, h2⟩ := h.list se
    rw [intsOf_eq e] at h2
    rw [dpAll_ints h2] at h1
    exact cr_sum hc pins s σ H _ us Q I r ⟨a, ns, rfl, (.inl h1), r2_val se g fin (.int _)⟩
  · exact g.elim
@[simp] def gAll : List D → (Res → Prop) → Prop
  | [.list ds], k => ∃ ns, boolsOf ds = some ns ∧ k (.fz (.bool (ns.all fun b => b)))
  | _, _ => False
theorem cr_gAll (hc : X.calm = true) : CallR X (.builtin "all") (rn X.K gAll) := by
  intro pins s σ H xs us Q I r ⟨F, ds, k, se, rd, g, fin⟩
  unfold gAll at g
  split at g
  · obtain ⟨v, rfl, h⟩ := rd.one
    obtain ⟨ns, e, g⟩ := g
    obtain ⟨a, ys, rfl, h1, h2⟩ := h.list se
    rw [boolsOf_eq e] at h2
    rw [dpAll_bools h2] at h1
    exact cr_all hc pins s σ H _ us Q I r ⟨a, ns, rfl, (.inl h1), r2_val se g fin (.bl _)⟩
  · exact g.elim
@[simp] def gAny : List D → (Res → Prop) → Prop
  | [.list ds], k => ∃ ns, boolsOf ds = some ns ∧ k (.fz (.bool (ns.any fun b => b)))
  | _, _ => False
theorem cr_gAny (hc : X.calm = true) : CallR X (.builtin "any") (rn X.K gAny) := by
  intro pins s σ H xs us Q I r ⟨F, ds, k, se, rd, g, fin⟩
  unfold gAny at g
  split at g
  · obtain ⟨v, rfl, h⟩ := rd.one
    obtain ⟨ns, e, g⟩ := g
    obtain ⟨a, ys, rfl, h1, h2⟩ := h.list se
    rw [boolsOf_eq e] at h2
    rw [dpAll_bools h2] at h1
    exact cr_any hc pins s σ H _ us Q I r ⟨a, ns, rfl, (.inl h1), r2_val se g fin (.bl _)⟩
  · exact g.elim
/-- max, min of a list of ints, or of two ints -/
@[simp] def gMax : List D → (Res → Prop) → Prop
  | [.list ds], k => ∃ ns, intsOf ds = some ns ∧ 0 < ns.length ∧ ∀ m, m ∈ ns → (∀ y, y ∈ ns → y ≤ m) → k (.fz (.int m))
  | [.int i, .int j], k => k (.fz (.int (if j > i then j else i)))
  | _, _ => False
theorem cr_gMax (hc : X.calm = true) : CallR X (.builtin "max") (rn X.K gMax) := by
  intro pins s σ H xs us Q I r ⟨F, ds, k, se, rd, g, fin⟩
  unfold gMax at g
  split at g
  · obtain ⟨v, rfl, h⟩ := rd.one
    obtain ⟨ns, e, hl, g⟩ := g
    obtain ⟨a, ys, rfl, h1, h2⟩ := h.list se
    rw [intsOf_eq e] at h2
    rw [dpAll_ints h2] at h1
    exact cr_max hc pins s σ H _ us Q I r ⟨a, ns, rfl, (.inl h1), hl, fun m hm hy => r2_val se (g m hm hy) fin (.int _)⟩
  · obtain ⟨v, w, rfl, h, h'⟩ := rd.two
    cases h.int; cases h'.int
    exact call_max2 hc pins s σ H _ us Q I r ⟨_, _, rfl, r2_val se g fin (.int _)⟩
  · exact g.elim
@[simp] def gMin : List D → (Res → Prop) → Prop
  | [.list ds], k => ∃ ns, intsOf ds = some ns ∧ 0 < ns.length ∧ ∀ m, m ∈ ns → (∀ y, y ∈ ns → m ≤ y) → k (.fz (.int m))
  | [.int i, .int j], k => k (.fz (.int (if j < i then j else i)))
  | _, _ => False
theorem cr_gMin (hc : X.calm = true) : CallR X (.builtin "min") (rn X.K gMin) := by
  intro pins s σ H xs us Q I r ⟨F, ds, k, se, rd, g, fin⟩
  unfold gMin at g
  split at g
  · obtain ⟨v, rfl, h⟩ := rd.one
    obtain ⟨ns, e, hl, g⟩ := g
    obtain ⟨a, ys, rfl, h1, h2⟩ := h.list se
    rw [intsOf_eq e] at h2
    rw [dpAll_ints h2] at h1
    exact cr_min hc pins s σ H _ us Q I r ⟨a, ns, rfl, (.inl h1), hl, fun m hm hy => r2_val se (g m hm hy) fin (.int _)⟩
  · obtain ⟨v, w, rfl, h, h'⟩ := rd.two
    cases h.int; cases h'.int
    exact call_min2 hc pins s σ H _ us Q I r ⟨_, _, rfl, r2_val se g fin (.int _)⟩
  · exact g.elim
/-- sorted of ints -/
@[simp] def gSortI : List D → (Res → Prop) → Prop
  | [.list ds], k => ∃ ns, intsOf ds = some ns ∧ ∀ ms : List Int, ms.Perm ns → ms.Pairwise (· ≤ ·) → k (.tm .l (.list (ms.map .int)))
  | _, _ => False
theorem cr_gSortI : CallR X (.builtin "sorted") (rn X.K gSortI) := by
  intro pins s σ H xs us Q I r ⟨F, ds, k, se, rd, g, fin⟩
  unfold gSortI at g
  split at g
  · obtain ⟨v, rfl, h⟩ := rd.one
    obtain ⟨ns, e, g⟩ := g
    obtain ⟨a, ys, rfl, h1, h2⟩ := h.list se
    rw [intsOf_eq e] at h2
    rw [dpAll_ints h2] at h1
    exact cr_sortedI pins s σ H _ us Q I r ⟨a, ns, rfl, (.inl h1), fun ms p hm hs hp => fin _ _ _ _ (g ms hm hs) (New.list se hp (dpAll_ints_mk ms))⟩
  · exact g.elim

/-! ### subscripts -/
@[simp] def gIx : D → D → (Res → Prop) → Prop
  | .list ds, .int i, k => ∃ d, atI ds i = some d ∧ k (.fz d)
  | .tuple ds, .int i, k => ∃ d, atI ds i = some d ∧ k (.fz d)
  | .str z, .int i, k => z.length ≤ sizeLine ∧ ∃ c, atI z.cps.toList i = some c ∧ k (.fz (.str ⟨#[c]⟩))
  | _, _, _ => False
theorem atI_dp {K : PySem.W.Frag} {F : Hp} {xs : List V} {ds : List D} {i : Int} {d : D} (h : DpAll K F xs ds) (e : atI ds i = some d) : ∃ v, atI xs i = some v ∧ Dp K F v d := by
  unfold atI at e ⊢
  rw [dpAll_len h]
  cases hj : ixN ds.length i with
  | none => rw [hj] at e; cases e
  | some j =>
    rw [hj] at e
    obtain ⟨v, h1, h2⟩ := dpAll_get' h (show ds[j]? = some d from e)
    exact ⟨v, h1, h2⟩
theorem de_ix {a b : Expr} {da db : DTE} (ha : DE X a da) (hb : DE X b db) (hs : PlainIx b := by intro _ _; rfl) : DE X (.Subscript a b pos) (dBin gIx da db) :=
  PE.le (pe_ix ix_seq ha hb hs) fun σ H Q ⟨F, ρ, k, S, q, fin⟩ => up2 S q fun x y ρ' v u F' H' q S' T f1 f2 => by
    obtain ⟨dx, r1, q⟩ := wc_rd S' f1 q
    obtain ⟨dy, r2, q⟩ := wc_rd S' f2 q
    unfold gIx at q
    split at q
    · obtain ⟨d, e, q⟩ := q
      obtain ⟨l, xs, rfl, h1, h2⟩ := r1.list S'.sub
      cases r2.int
      obtain ⟨w, e', dp⟩ := atI_dp h2 e
      exact .inl ⟨l, xs, _, w, rfl, rfl, (.inl h1), e', fin _ _ _ _ _ q S' T dp⟩
    · obtain ⟨d, e, q⟩ := q
      obtain ⟨l, xs, rfl, h1, h2, _⟩ := r1.tuple
      cases r2.int
      obtain ⟨w, e', dp⟩ := atI_dp h2 e
      exact .inr (.inl ⟨l, xs, _, w, rfl, rfl, ex_t S'.sub h1, e', fin _ _ _ _ _ q S' T dp⟩)
    · obtain ⟨z, c, e, q⟩ := q
      cases r1.str
      cases r2.int
      exact .inr (.inr ⟨_, _, c, rfl, rfl, z, e, fin _ _ _ _ _ q S' T (.str _)⟩)
    · exact q.elim
/-! slices -/
abbrev DTO := List Slot → (Option Int → List Slot → Prop) → Prop
def upO (K : PySem.W.Frag) (d : DTO) : TO := fun σ H Q => ∃ F ρ k, Sta K F H σ ρ ∧ d ρ k ∧ ∀ o ρ' F' H', k o ρ' → Sta K F' H' σ ρ' → TrX F H σ ρ F' H' ρ' → Q o H'
def DO (X : Cx) (e : Option Expr) (d : DTO) : Prop := PO X e (upO X.K d)
theorem PO.le {e : Option Expr} {t u : TO} (h : PO X e t) (w : ∀ σ H Q, u σ H Q → t σ H Q) : PO X e u := ⟨fun pins s σ H Q I q => h.run pins s σ H Q I (w _ _ _ q)⟩
@[simp] def dNo : DTO := fun ρ k => k none ρ
@[simp] def dSo (da : DTE) : DTO := fun ρ k => da ρ fun r ρ1 => wc r ρ1 fun d => match d with | .int i => k (some i) ρ1 | _ => False
theorem do_none : DO X none dNo := PO.le po_none fun σ H Q ⟨F, ρ, k, S, q, fin⟩ => fin _ _ F H q S .refl
theorem do_some {da : DTE} (h : DE X e da) : DO X (some e) (dSo da) := PO.le (po_some h) fun σ H Q ⟨F, ρ, k, S, q, fin⟩ => ⟨F, ρ, _, S, q, fun r ρ1 v F1 H1 q S1 T1 f => by
  obtain ⟨d, rd, q⟩ := wc_rd S1 f q
  split at q
  · cases rd.int
    exact ⟨_, rfl, fin _ _ _ _ q S1 T1⟩
  · exact q.elim⟩
def cutD {α : Type} (xs : List α) (lo hi : Option Int) : List α := (xs.drop (HT.sIx xs.length 0 lo)).take (HT.sIx xs.length xs.length hi - HT.sIx xs.length 0 lo)
@[simp] def gSl (d : D) (lo hi : Option Int) (k : Res → Prop) : Prop := match d with
  | .list ds => k (.tm .l (.list (cutD ds lo hi)))
  | .tuple ds => k (.fz (.tuple (cutD ds lo hi)))
  | .str z => z.length ≤ sizeLine ∧ k (.fz (.str (cutS z lo hi)))
  | _ => False
@[simp] def dSl (da : DTE) (dl du : DTO) : DTE := fun ρ k => da ρ fun r ρ1 => dl ρ1 fun l ρ2 => du ρ2 fun u ρ3 => wc r ρ3 fun d => gSl d l u fun z => k z ρ3
theorem dpAll_take {K : PySem.W.Frag} {F : Hp} : ∀ {vs : List V} {ds : List D} (n : Nat), DpAll K F vs ds → DpAll K F (vs.take n) (ds.take n)
  | _, _, 0, _ => by simp; exact .nil
  | _, _, _ + 1, .nil => .nil
  | _, _, n + 1, .cons h hs => .cons h (dpAll_take n hs)
theorem dpAll_drop {K : PySem.W.Frag} {F : Hp} : ∀ {vs : List V} {ds : List D} (n : Nat), DpAll K F vs ds → DpAll K F (vs.drop n) (ds.drop n)
  | _, _, 0, h => h
  | _, _, _ + 1, .nil => .nil
  | _, _, n + 1, .cons h hs => dpAll_drop n hs
theorem dpAll_cut {K : PySem.W.Frag} {F : Hp} {vs : List V} {ds : List D} {lo hi : Option Int} (h : DpAll K F vs ds) : DpAll K F (cutV vs lo hi) (cutD ds lo hi) := by
  unfold cutV cutD
  rw [dpAll_len h]
  exact dpAll_take _ (dpAll_drop _ h)
theorem SlR.or3 {r r' r'' : V → Option Int → Option Int → Hp → VK → Prop} (h : SlR X r) (h' : SlR X r') (h'' : SlR X r'') : SlR X (fun x lo hi H Q => r x lo hi H Q ∨ r' x lo hi H Q ∨ r'' x lo hi H Q) :=
  L2.SlR.or h (L2.SlR.or h' h'')
theorem de_slice {lo hi : Option Expr} {da : DTE} {dl du : DTO} {p2 : Pos} (ha : DE X e da) (hl : DO X lo dl) (hu : DO X hi du) : DE X (.Subscript e (.Slice lo hi none p2) pos) (dSl da dl du) :=
  PE.le (pe_slice (SlR.or3 sl_list sl_tupA sl_str) ha hl hu) fun σ H Q ⟨F, ρ, k, S, q, fin⟩ =>
    ⟨F, ρ, _, S, q, fun r ρ1 v F1 H1 q S1 T1 f => ⟨F1, ρ1, _, S1, q, fun l ρ2 F2 H2 q S2 T2 => ⟨F2, ρ2, _, S2, q, fun u ρ3 F3 H3 q S3 T3 => by
      have T23 := T2.trans T3
      have f3 := f.later T23.toTr
      have T := T1.trans T23
      obtain ⟨d, rd, q⟩ := wc_rd S3 f3 q
      unfold gSl at q
      split at q
      · obtain ⟨a, xs, rfl, h1, h2⟩ := rd.list S3.sub
        refine .inl ⟨a, xs, rfl, (.inl h1), fun p hp => ?_⟩
        have n := New.list (K := X.K) S3.sub hp (dpAll_cut (lo := l) (hi := u) h2)
        exact fin _ _ _ _ _ q (n.sta S3) (T.trans n.tr) (n.fits S3 fun _ z => T.none z)
      · obtain ⟨a, xs, rfl, h1, h2, dp⟩ := rd.tuple
        refine .inr (.inl ⟨a, xs, rfl, ex_t S3.sub h1, fun hw => ?_, fun hw p hp => ?_⟩)
        · rename_i ds
          have e : cutD ds l u = ds := by
            unfold cutD
            rw [← dpAll_len h2, hw.1, hw.2]
            simp [dpAll_len h2]
          rw [e] at q
          exact fin _ _ _ _ _ q S3 T dp
        · have n := New.tuple (K := X.K) S3.sub hp (dpAll_cut (lo := l) (hi := u) h2)
          exact fin _ _ _ _ _ q (n.sta S3) (T.trans n.tr) (n.fits S3 fun _ z => T.none z)
      · cases rd.str
        exact .inr (.inr ⟨_, rfl, q.1, fin _ _ _ _ _ q.2 S3 T (.str _)⟩)
      · exact q.elim⟩⟩⟩
end
end TL

-- part TL10
/-! TL10: methods, stores by place, what is walked. -/
namespace TL
open PySem PySem.Spec L2
open Evl (Ex ex_l ex_t)
variable [Lay]

/-! ### methods that read -/
@[simp] def tyD (T : String) (d : D) : Prop := match d with
  | .list _ => T = "list"
  | .str _ => T = "str"
  | _ => False
@[simp] def dMt (T : String) (g : D → List D → (Res → Prop) → Prop) (dr : DTE) (da : DTA) : DTE := fun ρ k => dr ρ fun r ρ1 => wc r ρ1 (tyD T) ∧ da ρ1 fun rs ρ2 => wc r ρ2 fun d => wcs rs ρ2 fun ds => g d ds fun z => k z ρ2
section
variable {X : Cx} {o e : Expr} {es : List Expr} {dr : DTE} {da : DTA} {name : Str} {apos cpos pos : Pos} {T id : String}
theorem tyD_ok {K : PySem.W.Frag} {F H : Hp} {v : V} {d : D} (s : Ex F H) (r : RdAt K F H v d) (h : tyD T d) : tyV K T v H := by
  unfold tyD at h
  split at h
  · obtain ⟨a, xs, rfl, h1, _⟩ := r.list s
    exact .inl ⟨h, xs, .inl h1⟩
  · cases r.str; exact h
  · exact h.elim
theorem de_mt {g : D → List D → (Res → Prop) → Prop} (pa : PlainAttrs T) (slot : PySem.Slot T name id) (hty : typeOf (.builtin id) = pure (.type "method_descriptor")) (hm : MtR X id (rm X.K g)) (ho : DE X o dr) (ha : DA X (e :: es) da)
    (hbase : attributeBase o name X.env (eval o X.env) = eval o X.env := by rfl)
    (hfew : ((backTo cpos (starEach (e :: es) X.env)).all (fun x => !x.1) && (backToKw cpos (keywordEach [] X.env)).all (fun x => x.1.isSome)
      && decide ((e :: es).length + ([] : List Keyword).length + (if ([] : List Keyword).isEmpty then 0 else 1) < 30)) = true := by rfl)
    (hline : (apos.endLine == cpos.line) = true := by rfl)
    (he : starEach (e :: es) X.env = (false, eval e X.env) :: starEach es X.env := by rfl) (hpl : (backTo cpos (starEach es X.env)).any (·.1) = false := by rfl) :
    DE X (.Call (.Attribute o name apos) (e :: es) [] cpos) (dMt T g dr da) :=
  PE.le (pe_bm pa slot hty hm ho ha hbase hfew hline he hpl) fun σ H Q ⟨F, ρ, k, S, q, fin⟩ => ⟨F, ρ, _, S, q, fun r ρ1 v F1 H1 q S1 T1 f => by
    obtain ⟨q0, q⟩ := q
    obtain ⟨d0, r0, q0⟩ := wc_rd S1 f q0
    refine ⟨tyD_ok S1.sub r0 q0, F1, ρ1, _, S1, q, fun rs ρ2 vs F2 H2 q S2 T2 f2 => ?_⟩
    have f' := f.later T2.toTr
    obtain ⟨d, rd, q⟩ := wc_rd S2 f' q
    obtain ⟨ds, rds, q⟩ := wcs_rd S2 f2 q
    have T := T1.trans T2
    exact ⟨F2, d, ds, _, S2.sub, rd, rds, q, fun z v F' H' kz n => fin z ρ2 v F' H' kz (n.sta S2) (T.trans n.tr) (n.fits S2 fun _ z => T.none z)⟩⟩
/-- xs.count(n), ints -/
@[simp] def gCount : D → List D → (Res → Prop) → Prop
  | .list ds, [.int i], k => ∃ ns, intsOf ds = some ns ∧ k (.fz (.int (ns.count i)))
  | _, _, _ => False
theorem mt_gCount : MtR X "list.count" (rm X.K gCount) := by
  intro pins s σ H x xs v us Q I rx rxs ⟨F, d, ds, k, se, hx, hxs, g, fin⟩
  unfold gCount at g
  split at g
  · obtain ⟨ns, e, g⟩ := g
    obtain ⟨a, ys, rfl, h1, h2⟩ := hx.list se
    rw [intsOf_eq e] at h2
    rw [dpAll_ints h2] at h1
    obtain ⟨w, rfl, hw⟩ := hxs.one
    cases hw.int
    exact mt_lcount pins s σ H _ _ v us Q I rx rxs ⟨a, ns, _, rfl, rfl, .inl h1, r2_val se g fin (.int _)⟩
  · exact g.elim
end

/-! ### methods that change an owned list -/
section
variable (K : PySem.W.Frag)
def rmu (g : D → List D → (D → D → Prop) → Prop) : V → List V → Hp → VK → Prop := fun x xs H Q => ∃ F a d ds k, Ex F H ∧ x = .ref a ∧ OwAt K F H .l a d ∧ F a = none ∧ DpAll K F xs ds ∧ g d ds k ∧
  ∀ d' z v H', k d' z → (∀ b, b ≠ a → H' b = H b) → OwAt K F H' .l a d' → Dp K F v z → Q v H'
end
@[simp] def isOl (ρ : List Slot) (i : Nat) : Prop := match ρ[i]? with | some (.ow _ .l _) => True | _ => False
@[simp] def dMu (i : Nat) (g : D → List D → (D → D → Prop) → Prop) (da : DTA) : DTE := fun ρ k => isOl ρ i ∧ da ρ fun rs ρ1 => fzAll rs ρ1 fun ds ρ2 => match ρ2[i]? with
  | some (.ow t .l d) => g d ds fun d' z => k (.fz z) (ρ2.set i (.ow t .l d'))
  | _ => False
section
variable {K : PySem.W.Frag} {F F0 H H' H0 : Hp} {σ : L2.St} {ρ ρ0 : List Slot}
theorem Sta.updOwn {i : Nat} {t : Option Addr} {κ : Kd} {d d' : D} {a : Addr} (S : Sta K F H σ ρ) (e : ρ[i]? = some (.ow t κ d)) (ea : σ[i]? = some (some (.ref a))) (ne : ∀ b, b ≠ a → H' b = H b) (o : OwAt K F H' κ a d') :
    Sta K F H' σ (ρ.set i (.ow t κ d')) ∧ TrX F H σ ρ F H' (ρ.set i (.ow t κ d')) := by
  obtain ⟨a', e1, ho, fa, tt⟩ := S.ow i t κ d e
  rw [ea] at e1; cases e1
  have lt : i < ρ.length := (List.getElem?_eq_some_iff.mp e).1
  have fne : ∀ b u, F b = some u → b ≠ a := fun b u h z => by rw [z, fa] at h; cases h
  have own : ∀ {j : Nat} {t' : Option Addr} {κ' : Kd} {d'' : D}, (ρ.set i (.ow t κ d'))[j]? = some (Slot.ow t' κ' d'') → ∃ d0, ρ[j]? = some (Slot.ow t' κ' d0) := fun {j t' κ' d''} h => by
    rcases get_sets h with ⟨y, z⟩ | ⟨_, z⟩
    · cases z; exact ⟨d, by rw [← y]; exact e⟩
    · exact ⟨_, z⟩
  have oa : ∀ b, OA σ (ρ.set i (.ow t κ d')) b → OA σ ρ b := fun b ⟨j, t', κ', d'', h1, h2⟩ => by
    obtain ⟨d0, h⟩ := own h1
    exact ⟨j, t', κ', d0, h, h2⟩
  have oaA : OA σ ρ a := ⟨i, t, κ, d, e, ea⟩
  refine ⟨⟨fun b u h => by rw [ne b (fne b u h)]; exact S.sub b u h, by simpa using S.len, fun j d0 h => ?_, fun j d0 h => ?_, fun j t' κ' d0 h => ?_, fun j j' t1 t2 κ1 κ2 d1 d2 b h1 h2 h3 h4 => ?_, tabs_at S.tab ho.nc ne⟩,
    ⟨⟨Ex.refl F, fun b u h _ n => by rw [ne b (fun z => n (by rw [z]; exact oaA))]; exact h, fun b u h => ?_, fun b h => .inl (oa b h), fun _ _ h => .inl h⟩, fun j t' κ' d0 h => own h, fun j d0 h => ?_⟩⟩
  · rcases get_sets h with ⟨_, z⟩ | ⟨_, z⟩
    · cases z
    · exact S.fz j d0 z
  · rcases get_sets h with ⟨_, z⟩ | ⟨_, z⟩
    · cases z
    · obtain ⟨v, g1, g2⟩ := S.rd j d0 z
      refine ⟨v, g1, ?_⟩
      rcases g2 with g2 | ⟨κ', b, e', g2, n⟩
      · exact .inl g2
      · exact .inr ⟨κ', b, e', g2.mono (Ex.refl F) fun u _ q => by rw [ne b (fun z => n (by rw [z]; exact oaA))]; exact q, fun z => n (oa b z)⟩
  · rcases get_sets h with ⟨y, z⟩ | ⟨y, z⟩
    · cases z
      rw [← y]
      exact ⟨a, ea, o, fa, tt⟩
    · obtain ⟨b, g1, g2, g3, g4⟩ := S.ow j t' κ' d0 z
      refine ⟨b, g1, g2.mono (Ex.refl F) fun u _ q => ?_, g3, g4⟩
      rw [ne b (fun w => y (S.inj i j _ _ _ _ _ _ a e z ea (by rw [← w]; exact g1)))]
      exact q
  · obtain ⟨d3, g1⟩ := own h1
    obtain ⟨d4, g2⟩ := own h2
    exact S.inj j j' _ _ _ _ _ _ b g1 g2 h3 h4
  · by_cases z : b = a
    · obtain ⟨u', hu⟩ := o.some
      exact ⟨u', by rw [z]; exact hu⟩
    · exact ⟨u, by rw [ne b z]; exact h⟩
  · rcases get_sets h with ⟨_, z⟩ | ⟨_, z⟩
    · cases z
    · exact .inl z
theorem isOl_get {i : Nat} (h : isOl ρ i) : ∃ t d, ρ[i]? = some (.ow t .l d) := by
  unfold isOl at h
  split at h
  · rename_i t d e; exact ⟨t, d, e⟩
  · exact h.elim
end
section
variable {X : Cx} {o e : Expr} {es : List Expr} {da : DTA} {name : Str} {apos cpos pos : Pos} {id : String} {i : Nat} {g : D → List D → (D → D → Prop) → Prop}
theorem mu_fin {K : PySem.W.Frag} {σ : L2.St} {H0 F1 H1 : Hp} {Q : VK} {k : Res → List Slot → Prop} {F0 : Hp} {ρ0 ρ1 : List Slot} {rs : List Res} {vs : List V} {a : Addr} (ea : σ[i]? = some (some (.ref a)))
    (q : fzAll rs ρ1 fun ds ρ2 => match ρ2[i]? with
      | some (.ow t .l d) => g d ds fun d' z => k (.fz z) (ρ2.set i (.ow t .l d'))
      | _ => False) (S1 : Sta K F1 H1 σ ρ1) (T1 : TrX F0 H0 σ ρ0 F1 H1 ρ1) (f : FitsAll K F1 H1 σ ρ1 H0 vs rs)
    (fin : ∀ r ρ' v F' H', k r ρ' → Sta K F' H' σ ρ' → TrX F0 H0 σ ρ0 F' H' ρ' → Fits K F' H' σ ρ' H0 v r → Q v H') : rmu K g (.ref a) vs H1 Q := by
  obtain ⟨ds, ρ2, F2, q, S2, T2, dp, _⟩ := fzAll_ok S1 f.w T1 q
  split at q
  · rename_i t d e
    obtain ⟨a', e1, ho, fa, _⟩ := S2.ow i t .l d e
    rw [ea] at e1; cases e1
    refine ⟨F2, a, d, ds, _, S2.sub, rfl, ho, fa, dp, q, fun d' z v H' kz ne o' dz => ?_⟩
    obtain ⟨S3, T3⟩ := S2.updOwn e ea ne o'
    exact fin _ _ _ _ _ kz S3 (T2.trans T3) dz
  · exact q.elim
theorem de_mu (slot : PySem.Slot "list" name id) (hty : typeOf (.builtin id) = pure (.type "method_descriptor")) (hm : MtR X id (rmu X.K g)) (ho : DE X o (dName i)) (ha : DA X (e :: es) da)
    (hbase : attributeBase o name X.env (eval o X.env) = eval o X.env := by rfl)
    (hfew : ((backTo cpos (starEach (e :: es) X.env)).all (fun x => !x.1) && (backToKw cpos (keywordEach [] X.env)).all (fun x => x.1.isSome)
      && decide ((e :: es).length + ([] : List Keyword).length + (if ([] : List Keyword).isEmpty then 0 else 1) < 30)) = true := by rfl)
    (hline : (apos.endLine == cpos.line) = true := by rfl)
    (he : starEach (e :: es) X.env = (false, eval e X.env) :: starEach es X.env := by rfl) (hpl : (backTo cpos (starEach es X.env)).any (·.1) = false := by rfl) :
    DE X (.Call (.Attribute o name apos) (e :: es) [] cpos) (dMu i g da) :=
  PE.le (pe_bm PySem.F.plainAttrs_list slot hty hm ho ha hbase hfew hline he hpl) fun σ H Q ⟨F, ρ, k, S, ⟨q0, q⟩, fin⟩ => by
    obtain ⟨t, d, e0⟩ := isOl_get q0
    refine ⟨F, ρ, fun r ρ' => r = .bo i ∧ ρ' = ρ, S, by unfold dName; rw [e0]; exact ⟨rfl, rfl⟩, fun r ρ1 v F1 H1 q1 S1 T1 f1 => ?_⟩
    obtain ⟨rfl, rfl⟩ := q1
    have f1 : σ[i]? = some (some v) := f1
    obtain ⟨a, e1, ho, _⟩ := S1.ow i t .l d e0
    rw [f1] at e1; cases e1
    have ho2 := ho
    obtain ⟨xs, _, _, hx, _⟩ := ho2
    exact ⟨.inl ⟨rfl, xs, Evl.sq_of hx⟩, F1, _, _, S1, q, fun rs ρ2 vs F2 H2 q S2 T2 f2 => mu_fin f1 q S2 (T1.trans T2) (f2.back fun _ z => T1.none z) fin⟩
theorem de_mu0 (slot : PySem.Slot "list" name id) (hty : typeOf (.builtin id) = pure (.type "method_descriptor")) (hm : MtR X id (rmu X.K g)) (ho : DE X o (dName i))
    (hbase : attributeBase o name X.env (eval o X.env) = eval o X.env := by rfl) (hline : (apos.endLine == cpos.line) = true := by rfl) :
    DE X (.Call (.Attribute o name apos) [] [] cpos) (dMu i g dNil) :=
  PE.le (pe_bm0 PySem.F.plainAttrs_list slot hty hm ho hbase hline) fun σ H Q ⟨F, ρ, k, S, ⟨q0, q⟩, fin⟩ => by
    obtain ⟨t, d, e0⟩ := isOl_get q0
    refine ⟨F, ρ, fun r ρ' => r = .bo i ∧ ρ' = ρ, S, by unfold dName; rw [e0]; exact ⟨rfl, rfl⟩, fun r ρ1 v F1 H1 q1 S1 T1 f1 => ?_⟩
    obtain ⟨rfl, rfl⟩ := q1
    have f1 : σ[i]? = some (some v) := f1
    obtain ⟨a, e1, ho, _⟩ := S1.ow i t .l d e0
    rw [f1] at e1; cases e1
    have ho2 := ho
    obtain ⟨xs, _, _, hx, _⟩ := ho2
    exact ⟨.inl ⟨rfl, xs, Evl.sq_of hx⟩, mu_fin (vs := []) (rs := []) f1 q S1 T1 trivial fin⟩
@[simp] def gAppend : D → List D → (D → D → Prop) → Prop
  | .list ds, [d], k => ds.length < sizeLine ∧ k (.list (ds ++ [d])) .none
  | _, _, _ => False
theorem mt_gAppend : MtR X "list.append" (rmu X.K gAppend) := by
  intro pins s σ H x xs v us Q I rx rxs ⟨F, a, d, ds, k, se, hx, ho, fa, dp, g, fin⟩
  subst hx
  obtain ⟨ys, es, rfl, h1, h2⟩ := ho
  unfold gAppend at g
  split at g
  · rename_i _ ds' d' e0
    cases e0
    cases dp with | cons p pr =>
      cases pr
      exact mt_append pins s σ H _ _ v us Q I rx rxs ⟨a, ys, _, rfl, rfl, h1, by rw [dpAll_len h2]; exact g.1, fin _ _ _ _ g.2 (fun b hb => upd_ne hb) ⟨_, _, rfl, upd_same, dpAll_app h2 (.cons p .nil)⟩ .non⟩
  · exact g.elim
@[simp] def gExtend : D → List D → (D → D → Prop) → Prop
  | .list ds, [.list es], k => ds.length + es.length ≤ sizeLine ∧ k (.list (ds ++ es)) .none
  | _, _, _ => False
theorem mt_extendR : MtR X "list.extend" (fun x vs H Q => ∃ l b xs zs, x = V.ref l ∧ vs = [V.ref b] ∧ H l = some (.lst xs) ∧ Rd H b (.lst zs) ∧ xs.length + zs.length ≤ sizeLine ∧ Q .non (upd H l (.lst (xs ++ zs)))) := by
  intro pins s σ H x vs v us Q I rx rv ⟨l, b, xs, zs, e1, e2, hl, hb, hz, q⟩
  subst e1 e2
  cases rx
  obtain ⟨u, rfl, ru⟩ := vals1 rv
  cases ru
  obtain ⟨_, its, n, r, o1⟩ := (Rd.of hl).ok I.hok
  obtain ⟨_, jts, m, r', o2⟩ := hb.ok I.hok
  have n1 := r.length
  have n2 := r'.length
  have size : its.toArray.size + jts.toArray.size ≤ sizeLine := by simp only [List.size_toArray]; omega
  have short : ¬ (!its.toArray.isEmpty && Builtin.List.listTooLong (its.toArray.size + jts.toArray.size)) = true := by
    rw [notLongL size, Bool.and_false]
    exact Bool.false_ne_true
  have look := AutoSeq1.list_extend_list_list_0 l its.toArray n b jts.toArray m short (by simp only [List.size_toArray] at size ⊢; omega) (by simp only [List.size_toArray] at size ⊢; omega)
  exact call_meets F.slot_list_extend ⟨_, o1, rfl⟩ F.entry_list_extend (F.args_list_extend_2 _ _) look ⟨o1, o2, .non, _, I.lset (its' := its ++ jts) hl o1 (by simp) (r.append r') (by rw [List.length_append]; omega), rfl, q⟩
theorem mt_gExtend : MtR X "list.extend" (rmu X.K gExtend) := by
  intro pins s σ H x xs v us Q I rx rxs ⟨F, a, d, ds, k, se, hx, ho, fa, dp, g, fin⟩
  subst hx
  obtain ⟨ys, es, rfl, h1, h2⟩ := ho
  unfold gExtend at g
  split at g
  · rename_i _ _ ds' es' e0
    cases e0
    cases dp with | cons p pr =>
      cases pr
      cases p with | lst p1 p2 =>
        exact mt_extendR pins s σ H _ _ v us Q I rx rxs ⟨a, _, ys, _, rfl, rfl, h1, rd_ex se p1, by rw [dpAll_len h2, dpAll_len p2]; exact g.1, fin _ _ _ _ g.2 (fun b hb => upd_ne hb) ⟨_, _, rfl, upd_same, dpAll_app h2 p2⟩ .non⟩
  · exact g.elim
/-- pop(), pop(i) -/
@[simp] def gPop : D → List D → (D → D → Prop) → Prop
  | .list ds, [], k => ∃ d, ds[ds.length - 1]? = some d ∧ k (.list ds.dropLast) d
  | .list ds, [.int i], k => ∃ d, (-(2 ^ 63) ≤ i ∧ i < 2 ^ 63) ∧ ∃ j, seqIndex? i ds.length = some j ∧ ds[j]? = some d ∧ k (.list (ds.eraseIdx j)) d
  | _, _, _ => False
theorem dpAll_dropLast {K : PySem.W.Frag} {F : Hp} {vs : List V} {ds : List D} (h : DpAll K F vs ds) : DpAll K F vs.dropLast ds.dropLast := by
  rw [List.dropLast_eq_take, List.dropLast_eq_take, dpAll_len h]
  exact dpAll_take _ h
theorem dpAll_erase {K : PySem.W.Frag} {F : Hp} : ∀ {vs : List V} {ds : List D} (j : Nat), DpAll K F vs ds → DpAll K F (vs.eraseIdx j) (ds.eraseIdx j)
  | _, _, _, .nil => .nil
  | _, _, 0, .cons _ h => h
  | _, _, j + 1, .cons p h => .cons p (dpAll_erase j h)
theorem mt_gPop : MtR X "list.pop" (rmu X.K gPop) := by
  intro pins s σ H x xs v us Q I rx rxs ⟨F, a, d, ds, k, se, hx, ho, fa, dp, g, fin⟩
  subst hx
  obtain ⟨ys, es, rfl, h1, h2⟩ := ho
  unfold gPop at g
  split at g
  · rename_i _ _ ds' e0
    cases e0
    cases dp
    obtain ⟨d, e, g⟩ := g
    obtain ⟨w, e', dw⟩ := dpAll_get' h2 e
    exact mt_pop pins s σ H _ _ v us Q I rx rxs ⟨a, ys, w, rfl, rfl, h1, by rw [dpAll_len h2]; exact e', fin _ _ _ _ g (fun b hb => upd_ne hb) ⟨_, _, rfl, upd_same, dpAll_dropLast h2⟩ dw⟩
  · rename_i _ _ ds' i e0
    cases e0
    cases dp with | cons p pr =>
      cases pr
      cases p
      obtain ⟨d, ⟨g1, g2⟩, j, g3, g4, g⟩ := g
      obtain ⟨w, e', dw⟩ := dpAll_get' h2 g4
      exact mt_popAt pins s σ H _ _ v us Q I rx rxs ⟨a, ys, i, j, w, rfl, rfl, h1, g1, g2, by rw [dpAll_len h2]; exact g3, e', fin _ _ _ _ g (fun b hb => upd_ne hb) ⟨_, _, rfl, upd_same, dpAll_erase j h2⟩ dw⟩
  · exact g.elim

/-! ### a store by place -/
end
section
variable (K : PySem.W.Frag)
def rset (g : Kd → D → D → D → (D → Prop) → Prop) : TSet := fun o i v H Q => ∃ F a κ d di dv k, Ex F H ∧ o = .ref a ∧ OwAt K F H κ a d ∧ F a = none ∧ RdAt K F H i di ∧ Dp K F v dv ∧ g κ d di dv k ∧
  ∀ d' H', k d' → (∀ b, b ≠ a → H' b = H b) → OwAt K F H' κ a d' → Q H'
end
@[simp] def dStI (i : Nat) (g : Kd → D → D → D → (D → Prop) → Prop) (da di : DTE) : DTS := fun E ρ => da ρ fun r ρ1 => isOw ρ1 i ∧ di ρ1 fun rj ρ2 => fzR r ρ2 fun dv ρ3 => wc rj ρ3 fun dj => match ρ3[i]? with
  | some (.ow t κ d) => g κ d dj dv fun d' => E.nx (ρ3.set i (.ow t κ d'))
  | _ => False
@[simp] def gSetL : Kd → D → D → D → (D → Prop) → Prop
  | .l, .list ds, .int i, v, k => ∃ j, ixN ds.length i = some j ∧ k (.list (ds.set j v))
  | _, _, _, _, _ => False
section
variable {X : Cx}
theorem dpAll_set {K : PySem.W.Frag} {F : Hp} {v : V} {d : D} (p : Dp K F v d) : ∀ {vs : List V} {ds : List D} (j : Nat), DpAll K F vs ds → DpAll K F (vs.set j v) (ds.set j d)
  | _, _, _, .nil => .nil
  | _, _, 0, .cons _ h => .cons p h
  | _, _, j + 1, .cons q h => .cons q (dpAll_set p j h)
theorem set_gSetL : PSet X (rset X.K gSetL) := by
  intro pins s σ H o i v ov iv u Q I ro ri rv ⟨F, a, κ, d, di, dv, k, se, e, ho, fa, hi, dp, g, fin⟩
  subst e
  unfold gSetL at g
  split at g
  · obtain ⟨xs, ds, e, h1, h2⟩ := ho
    cases e
    cases hi.int
    obtain ⟨j, hj, g⟩ := g
    exact set_list pins s σ H _ _ v ov iv u Q I ro ri rv ⟨a, xs, _, j, rfl, rfl, h1, by rw [dpAll_len h2]; exact hj, fin _ _ g (fun b hb => upd_ne hb) ⟨_, _, rfl, upd_same, dpAll_set dp j h2⟩⟩
  · exact g.elim
theorem ds_stI {o ix e : Expr} {pos spos : Pos} {i : Nat} {g : Kd → D → D → D → (D → Prop) → Prop} {da di : DTE} (he : DE X e da) (ho : DE X o (dName i)) (hi : DE X ix di) (hs : PSet X (rset X.K g))
    (ha : ∀ v, assign (.Subscript o ix pos) X.env v = (do
      let ov ← holding [v] (eval o X.env)
      let iv ← holding [v, ov] (eval ix X.env)
      standAt pos
      holding [v, ov, iv] (setItem ov iv v)
      release [v, ov, iv] []) := by intro _; rfl)
    (hw0 : swapsWithSole [.Subscript o ix pos] e spos.line X.env = pure false := by rfl) (hw : swappedStores [.Subscript o ix pos] e X.env = pure none := by rfl)
    (h1 : (assignEach [.Subscript o ix pos] X.env).map (·.2) = [assign (.Subscript o ix pos) X.env] := by rfl) : DS X (.Assign [.Subscript o ix pos] e spos) (dStI i g da di) :=
  PS.le (ps_asg he (pg_sub ho hi hs ha) hw0 hw h1) fun E σ H ⟨F, ρ, G, S, q, f1, f2, f3, f4⟩ => ⟨F, ρ, _, S, q, fun r ρ1 v F1 H1 q S1 T1 f => by
    obtain ⟨q0, q⟩ := q
    obtain ⟨t, κ, d, e0⟩ := isOw_get q0
    refine ⟨F1, ρ1, fun r' ρ' => r' = .bo i ∧ ρ' = ρ1, S1, by unfold dName; rw [e0]; exact ⟨rfl, rfl⟩, fun r' ρ1' w F2 H2 q1 S2 T2 g1 => ?_⟩
    obtain ⟨rfl, rfl⟩ := q1
    have g1 : σ[i]? = some (some w) := g1
    refine ⟨F2, _, _, S2, q, fun rj ρ3 u F3 H3 q S3 T3 g2 => ?_⟩
    have T13 := T2.trans T3
    have T03 := T1.trans T13
    obtain ⟨dv, ρ4, F4, q, S4, T4, dp, e4, o4⟩ := fzR_ok S3 (f.later T13.toTr).w T03 q
    have g2 : Fits X.K F3 H3 σ ρ3 H2 u rj := g2
    -- the index
    have fj : ∃ dj, RdAt X.K F4 H3 u dj ∧ match ρ4[i]? with
        | some (.ow t κ d) => g κ d dj dv fun d' => G.nx (ρ4.set i (.ow t κ d'))
        | _ => False := by
      have w4 := g2.w.frz (ρ' := ρ4) e4 o4
      cases rj with
      | fz d => exact ⟨d, .inl w4, q⟩
      | tm κ d => obtain ⟨a, e, h, _⟩ := w4; exact ⟨d, .inr ⟨κ, a, e, h⟩, q⟩
      | rd d => exact ⟨d, RdN.at w4, q⟩
      | bo j =>
        exact wc_rd (H0 := H2) S4 (show Fits X.K F4 H3 σ ρ4 H2 u (.bo j) from w4) q
    obtain ⟨dj, rj', q⟩ := fj
    split at q
    · rename_i t' κ' d' e5
      obtain ⟨a, e6, ho, fa, _⟩ := S4.ow i t' κ' d' e5
      rw [g1] at e6; cases e6
      refine ⟨F4, a, κ', d', dj, dv, _, S4.sub, rfl, ho, fa, rj', dp, q, fun d2 H' kd ne o' => ?_⟩
      obtain ⟨S5, T5⟩ := S4.updOwn e5 g1 ne o'
      exact f1 _ _ _ _ kd S5 (T4.trans T5).toTr
    · exact q.elim⟩
end
end TL

-- part TL11
/-! TL11: what is walked. -/
namespace TL
open PySem PySem.Spec L2
open Evl (Ex ex_l ex_t)
variable [Lay]

@[simp] def srcOf (r : Res) (d : D) : List (Nat × D) := match r with
  | .bo i => [(i, d)]
  | _ => []
section
variable {K : PySem.W.Frag} {F F0 H H0 Hs : Hp} {σ σ0 : L2.St} {ρ ρ0 : List Slot}
/-- a walked thing stands as it stood -/
theorem later_rd {v : V} {r : Res} {d : D} (S0 : Sta K F0 H0 σ0 ρ0) (f : Fits K F0 H0 σ0 ρ0 Hs v r) (hw : wc r ρ0 fun d' => d' = d) (S : Sta K F H σ ρ) (T : Tr F0 H0 σ0 ρ0 F H σ ρ)
    (hs : ∀ p ∈ srcOf r d, σ[p.1]? = σ0[p.1]? ∧ cont ρ p.1 = some p.2) : RdAt K F H v d := by
  cases r with
  | fz d' => cases hw; exact .inl (dp_mono T.fext f)
  | tm κ d' =>
    cases hw
    obtain ⟨a, e, h, n, o, _⟩ := f
    exact .inr ⟨κ, a, e, h.mono T.fext fun u nt q => T.keep _ _ q nt o⟩
  | rd d' => cases hw; exact RdN.at (RdN.later f T)
  | bo i =>
    have f : σ0[i]? = some (some v) := f
    obtain ⟨h1, h2⟩ := hs (i, d) (by simp [srcOf])
    have h1 : σ[i]? = σ0[i]? := h1
    have h2 : cont ρ i = some d := h2
    rw [f] at h1
    unfold cont at h2
    split at h2
    · rename_i t κ d' e
      cases h2
      obtain ⟨a, e1, q, _⟩ := S.ow i t κ d e
      rw [h1] at e1; cases e1
      exact .inr ⟨κ, a, rfl, q⟩
    · rename_i d' e
      cases h2
      obtain ⟨w, e1, q⟩ := S.fz i d e
      rw [h1] at e1; cases e1
      exact .inl q
    · rename_i d' e
      cases h2
      obtain ⟨w, e1, q⟩ := S.rd i d e
      rw [h1] at e1; cases e1
      exact RdN.at q
    · cases h2
theorem wc_eq {r : Res} {k : D → Prop} (h : wc r ρ k) : ∃ d, k d ∧ wc r ρ fun d' => d' = d := by
  cases r with
  | fz d => exact ⟨d, h, rfl⟩
  | tm κ d => exact ⟨d, h, rfl⟩
  | rd d => exact ⟨d, h, rfl⟩
  | bo i =>
    unfold wc at h ⊢
    simp only at h ⊢
    split at h
    · rename_i t κ d e; exact ⟨d, h, rfl⟩
    · rename_i d e; exact ⟨d, h, rfl⟩
    · exact h.elim
end
@[simp] def dItL (da : DTE) : DTI := fun ρ k => da ρ fun r ρ1 => wc r ρ1 fun d => match d with
  | .list ds => k ds (srcOf r d) ρ1
  | _ => False
@[simp] def dItT (da : DTE) : DTI := fun ρ k => da ρ fun r ρ1 => wc r ρ1 fun d => match d with
  | .tuple ds => k ds (srcOf r d) ρ1
  | _ => False
def signs (z : Str) : List D := z.cps.toList.map fun c => .str ⟨#[c]⟩
@[simp] def dItS (da : DTE) : DTI := fun ρ k => da ρ fun r ρ1 => wc r ρ1 fun d => match d with
  | .str z => k (signs z) [] ρ1
  | _ => False
def rangeD (lo c : Int) (n : Nat) : List D := (List.range n).map fun (i : Nat) => .int (lo + (i : Int) * c)
def okRg (i : Int) : Prop := -(2 ^ 62) ≤ i ∧ i < 2 ^ 62
@[simp] def dItR1 (da : DTA) : DTI := fun ρ k => da ρ fun rs ρ1 => wcs rs ρ1 fun ds => match ds with
  | [.int n] => okRg n ∧ k (rangeD 0 1 n.toNat) [] ρ1
  | _ => False
@[simp] def dItR2 (da : DTA) : DTI := fun ρ k => da ρ fun rs ρ1 => wcs rs ρ1 fun ds => match ds with
  | [.int a, .int b] => (okRg a ∧ okRg b) ∧ k (rangeD a 1 (b - a).toNat) [] ρ1
  | _ => False
@[simp] def dItR3 (da : DTA) : DTI := fun ρ k => da ρ fun rs ρ1 => wcs rs ρ1 fun ds => match ds with
  | [.int a, .int b, .int c] => ∃ n, RgC a b c n ∧ k (rangeD a c n) [] ρ1
  | _ => False
def enumD (i : Int) : List D → List D
  | [] => []
  | d :: ds => .tuple [.int i, d] :: enumD (i + 1) ds
@[simp] def dItE (da : DTA) : DTI := fun ρ k => da ρ fun rs ρ1 => match rs with
  | [r] => wc r ρ1 fun d => match d with
    | .list ds => k (enumD 0 ds) (srcOf r d) ρ1
    | _ => False
  | _ => False
def zipD : List D → List D → List D
  | a :: as, b :: bs => .tuple [a, b] :: zipD as bs
  | _, _ => []
@[simp] def dItZ (da : DTA) : DTI := fun ρ k => da ρ fun rs ρ1 => match rs with
  | [r, r'] => wc r ρ1 fun d => wc r' ρ1 fun d' => match d, d' with
    | .list ds, .list es => k (zipD ds es) (srcOf r d ++ srcOf r' d') ρ1
    | .tuple ds, .tuple es => k (zipD ds es) (srcOf r d ++ srcOf r' d') ρ1
    | _, _ => False
  | _ => False
/-- reversed of a list -/
@[simp] def dItV (da : DTE) : DTI := fun ρ k => da ρ fun r ρ1 => wc r ρ1 fun d => match d with
  | .list ds => k ds.reverse (srcOf r d) ρ1
  | .tuple ds => k ds.reverse (srcOf r d) ρ1
  | _ => False
/-- a name that a loop walks: the slot is given up -/
@[simp] def dLend (i : Nat) : DTE := fun ρ k => match ρ[i]? with
  | some (.fz d) => k (.fz d) ρ
  | some (.rd d) => k (.rd d) ρ
  | some (.ow none .l d) => k (.fz d) (ρ.set i (.fz d))
  | some (.ow none _ d) => k (.rd d) (ρ.set i (.rd d))
  | _ => False
theorem enumD_get : ∀ {ds : List D} {i : Int} {j : Nat} {d : D}, (enumD i ds)[j]? = some d → ∃ x, ds[j]? = some x ∧ d = .tuple [.int (i + j), x]
  | [], i, j, d, h => by simp [enumD] at h
  | x :: ds, i, 0, d, h => by simp [enumD] at h; subst h; exact ⟨x, rfl, by simp⟩
  | x :: ds, i, j + 1, d, h => by
    obtain ⟨y, h1, h2⟩ := enumD_get (ds := ds) (i := i + 1) (j := j) (d := d) (by simpa [enumD] using h)
    refine ⟨y, by simpa using h1, ?_⟩
    rw [h2]
    have : i + 1 + (j : Int) = i + ((j + 1 : Nat) : Int) := by omega
    rw [this]
theorem enumD_len : ∀ {ds : List D} {i : Int}, (enumD i ds).length = ds.length
  | [], _ => rfl
  | _ :: ds, i => by simp [enumD, enumD_len]
theorem zipD_get : ∀ {ds es : List D} {j : Nat} {d : D}, (zipD ds es)[j]? = some d → ∃ x y, ds[j]? = some x ∧ es[j]? = some y ∧ d = .tuple [x, y]
  | [], es, j, d, h => by simp [zipD] at h
  | _ :: _, [], j, d, h => by simp [zipD] at h
  | x :: ds, y :: es, 0, d, h => by simp [zipD] at h; subst h; exact ⟨x, y, rfl, rfl, rfl⟩
  | x :: ds, y :: es, j + 1, d, h => by
    obtain ⟨x', y', h1, h2, h3⟩ := zipD_get (ds := ds) (es := es) (j := j) (d := d) (by simpa [zipD] using h)
    exact ⟨x', y', by simpa using h1, by simpa using h2, h3⟩
theorem zipD_len : ∀ {ds es : List D}, (zipD ds es).length = min ds.length es.length
  | [], es => by simp [zipD]
  | _ :: _, [] => by simp [zipD]
  | _ :: ds, _ :: es => by simp [zipD, zipD_len (ds := ds) (es := es), Nat.succ_min_succ]
theorem wc_rdeq {K : PySem.W.Frag} {F H H0 : Hp} {σ : L2.St} {ρ : List Slot} {v : V} {r : Res} {d : D} (S : Sta K F H σ ρ) (f : Fits K F H σ ρ H0 v r) (h : wc r ρ fun d' => d' = d) : RdAt K F H v d := by
  obtain ⟨d', h1, rfl⟩ := wc_rd S f h
  exact h1
section
variable {X : Cx} {tg l : Expr} {da : DTE} {ea : DTA} {pos p : Pos}
theorem di_list (h : DE X l da) : DI X tg l (dItL da) := PI.le (pi_list h) fun σ H R ⟨F, ρ, k, S, q, fin⟩ => ⟨F, ρ, _, S, q, fun r ρ1 v F1 H1 q S1 T1 f => by
  obtain ⟨d, q, hw⟩ := wc_eq q
  split at q
  · rename_i ds
    obtain ⟨a, xs, rfl, h1, h2⟩ := (wc_rdeq S1 f hw).list S1.sub
    refine ⟨a, rfl, ⟨xs, (.inl h1)⟩, fin _ _ _ _ _ _ q S1 T1 fun F2 H2 σ2 ρ2 S2 T2 hs => ?_⟩
    obtain ⟨a', ys, e, h3, h4⟩ := (later_rd S1 f hw S2 T2 hs).list S2.sub
    cases e
    refine ⟨fun i hi => ⟨ys, (.inl h3), by rw [dpAll_len h4]; exact hi⟩, fun i d hd => ?_⟩
    obtain ⟨w, e1, dw⟩ := dpAll_get' h4 hd
    refine ⟨⟨ys, w, (.inl h3), e1⟩, fun x H' hy => ?_⟩
    obtain ⟨rfl, hy⟩ := hy
    have := hy ys ((.inl h3))
    rw [e1] at this; cases this
    exact ⟨F2, Ex.refl _, Ex.refl _, S2.sub, fun _ _ z => .inl z, dw⟩
  · exact q.elim⟩
theorem di_tup (h : DE X l da) : DI X tg l (dItT da) := PI.le (pi_tup h) fun σ H R ⟨F, ρ, k, S, q, fin⟩ => ⟨F, ρ, _, S, q, fun r ρ1 v F1 H1 q S1 T1 f => by
  obtain ⟨d, q, hw⟩ := wc_eq q
  split at q
  · rename_i ds
    obtain ⟨a, xs, rfl, h1, h2, _⟩ := (wc_rdeq S1 f hw).tuple
    refine ⟨a, rfl, ⟨xs, (ex_t S1.sub h1)⟩, fin _ _ _ _ _ _ q S1 T1 fun F2 H2 σ2 ρ2 S2 T2 hs => ?_⟩
    obtain ⟨a', ys, e, h3, h4, _⟩ := (later_rd S1 f hw S2 T2 hs).tuple
    cases e
    have h3 := ex_t S2.sub h3
    refine ⟨fun i hi => ⟨ys, h3, by rw [dpAll_len h4]; exact hi⟩, fun i d hd => ?_⟩
    obtain ⟨w, e1, dw⟩ := dpAll_get' h4 hd
    refine ⟨⟨ys, w, h3, e1⟩, fun x H' hy => ?_⟩
    obtain ⟨rfl, hy⟩ := hy
    have := hy ys (h3)
    rw [e1] at this; cases this
    exact ⟨F2, Ex.refl _, Ex.refl _, S2.sub, fun _ _ z => .inl z, dw⟩
  · exact q.elim⟩
theorem di_str (h : DE X l da) : DI X tg l (dItS da) := PI.le (pi_str h) fun σ H R ⟨F, ρ, k, S, q, fin⟩ => ⟨F, ρ, _, S, q, fun r ρ1 v F1 H1 q S1 T1 f => by
  obtain ⟨d, q, hw⟩ := wc_eq q
  split at q
  · rename_i z
    cases (wc_rdeq S1 f hw).str
    refine ⟨z, rfl, fin _ _ _ _ _ _ q S1 T1 fun F2 H2 σ2 ρ2 S2 T2 hs => ⟨fun i hi => (by simpa [signs] using hi : z.cps.size ≤ i), fun i d hd => ?_⟩⟩
    unfold signs at hd
    rw [List.getElem?_map] at hd
    cases e : z.cps.toList[i]? with
    | none => rw [e] at hd; cases hd
    | some c =>
      rw [e] at hd
      cases hd
      have e' : z.cps[i]? = some c := by simpa using e
      refine ⟨(Array.getElem?_eq_some_iff.mp e').1, fun x H' hy => ?_⟩
      obtain ⟨rfl, c', h1, rfl⟩ := hy
      rw [e'] at h1; cases h1
      exact ⟨F2, Ex.refl _, Ex.refl _, S2.sub, fun _ _ z => .inl z, .str _⟩
  · exact q.elim⟩
theorem wk_range {K : PySem.W.Frag} {F H : Hp} {σ : L2.St} {ρ : List Slot} {lo c : Int} {n : Nat} {J : It} (h1 : ∀ i H, n ≤ i → J.stop i H) (h2 : ∀ i H, i < n → J.go i H ∧ ∀ x H', J.yld i H x H' → H' = H ∧ x = .int (lo + (i : Int) * c)) : Wk K J (rangeD lo c n) [] F H σ ρ := by
  intro F2 H2 σ2 ρ2 S2 T2 _
  refine ⟨fun i hi => h1 i H2 (by simpa [rangeD] using hi), fun i d hd => ?_⟩
  unfold rangeD at hd
  rw [List.getElem?_map] at hd
  cases e : (List.range n)[i]? with
  | none => rw [e] at hd; cases hd
  | some j =>
    rw [e] at hd
    obtain ⟨hl, e'⟩ := List.getElem?_eq_some_iff.mp e
    rw [List.getElem_range] at e'
    subst e'
    cases hd
    have hi : i < n := by simpa using hl
    refine ⟨(h2 i H2 hi).1, fun x H' hy => ?_⟩
    obtain ⟨rfl, rfl⟩ := (h2 i H2 hi).2 x H' hy
    exact ⟨F2, Ex.refl _, Ex.refl _, S2.sub, fun _ _ z => .inl z, .int _⟩
theorem wk_Itr {K : PySem.W.Frag} {F H : Hp} {σ : L2.St} {ρ : List Slot} {lo : Int} {n : Nat} : Wk K (Itr lo n) (rangeD lo 1 n) [] F H σ ρ :=
  wk_range (fun i H h => h) fun i H h => ⟨h, fun x H' hy => ⟨hy.1, by rw [hy.2, Int.mul_one]⟩⟩
theorem RdAll.three {K : PySem.W.Frag} {F H : Hp} {vs : List V} {d e f : D} (h : RdAll K F H vs [d, e, f]) : ∃ v w u, vs = [v, w, u] ∧ RdAt K F H v d ∧ RdAt K F H w e ∧ RdAt K F H u f := by
  cases h with | cons h1 h2 => cases h2 with | cons h2 h3 => cases h3 with | cons h3 h4 => cases h4; exact ⟨_, _, _, rfl, h1, h2, h3⟩
theorem di_range1 {a : Expr} (hg : Gl X "range") (hm : X.mg "range" = none) (ha : DA X [a] ea) (hs : starEach [a] X.env = [(false, eval a X.env)] := by rfl) : DI X tg (.Call (.Name "range" p) [a] [] pos) (dItR1 ea) :=
  PI.le (pi_range1 hg hm ha hs) fun σ H R ⟨F, ρ, k, S, q, fin⟩ => ⟨F, ρ, _, S, q, fun rs ρ1 vs F1 H1 q S1 T1 f => by
    obtain ⟨ds, rd, q⟩ := wcs_rd S1 f q
    split at q
    · obtain ⟨v, rfl, h⟩ := rd.one
      cases h.int
      exact ⟨_, rfl, q.1.1, q.1.2, fin _ _ _ _ _ _ q.2 S1 T1 wk_Itr⟩
    · exact q.elim⟩
theorem di_range2 {a b : Expr} (hg : Gl X "range") (hm : X.mg "range" = none) (ha : DA X [a, b] ea) (hs : starEach [a, b] X.env = [(false, eval a X.env), (false, eval b X.env)] := by rfl) (hs2 : starEach [b] X.env = [(false, eval b X.env)] := by rfl) :
    DI X tg (.Call (.Name "range" p) [a, b] [] pos) (dItR2 ea) :=
  PI.le (pi_range2 hg hm ha hs hs2) fun σ H R ⟨F, ρ, k, S, q, fin⟩ => ⟨F, ρ, _, S, q, fun rs ρ1 vs F1 H1 q S1 T1 f => by
    obtain ⟨ds, rd, q⟩ := wcs_rd S1 f q
    split at q
    · obtain ⟨v, w, rfl, h, h'⟩ := rd.two
      cases h.int; cases h'.int
      exact ⟨_, _, rfl, ⟨q.1.1.1, q.1.1.2, q.1.2.1, q.1.2.2⟩, fin _ _ _ _ _ _ q.2 S1 T1 wk_Itr⟩
    · exact q.elim⟩
theorem di_range3 {a b c : Expr} (hg : Gl X "range") (hm : X.mg "range" = none) (ha : DA X [a, b, c] ea)
    (hs : starEach [a, b, c] X.env = (false, eval a X.env) :: starEach [b, c] X.env := by rfl) (hpl : (backTo pos (starEach [b, c] X.env)).any (·.1) = false := by rfl) :
    DI X tg (.Call (.Name "range" p) [a, b, c] [] pos) (dItR3 ea) :=
  PI.le (pi_range3 hg hm ha hs hpl) fun σ H R ⟨F, ρ, k, S, q, fin⟩ => ⟨F, ρ, _, S, q, fun rs ρ1 vs F1 H1 q S1 T1 f => by
    obtain ⟨ds, rd, q⟩ := wcs_rd S1 f q
    split at q
    · obtain ⟨v, w, u, rfl, h, h', h''⟩ := rd.three
      cases h.int; cases h'.int; cases h''.int
      obtain ⟨n, q1, q⟩ := q
      exact ⟨_, _, _, n, rfl, q1, fin _ _ _ _ _ _ q S1 T1 (wk_range (fun i H h => h) fun i H h => ⟨h, fun x H' hy => hy⟩)⟩
    · exact q.elim⟩
/-- a new pair of two frozen things -/
theorem pair_new {K : PySem.W.Frag} {F H : Hp} {T : Addr} {x y : V} {d e : D} (s : Ex F H) (hT : H T = none) (dx : Dp K F x d) (dy : Dp K F y e) :
    ∃ F', Ex F F' ∧ Ex H (upd H T (.tup [x, y])) ∧ Ex F' (upd H T (.tup [x, y])) ∧ (∀ b o, F' b = some o → F b = some o ∨ H b = none) ∧ Dp K F' (.ref T) (.tuple [d, e]) := by
  have n := New.tuple (K := K) s hT (.cons dx (.cons dy .nil))
  exact ⟨_, n.fext, n.hext, n.sub, n.fnew, n.fit⟩
theorem di_enum {e : Expr} {tpos : Pos} {elts : List Expr} {kk : Nat} (hg : Gl X "enumerate") (hm : X.mg "enumerate" = none) (ha : DA X [e] ea) (hs : starEach [e] X.env = [(false, eval e X.env)] := by rfl) :
    DI X (.Tuple elts kk tpos) (.Call (.Name "enumerate" p) [e] [] pos) (dItE ea) :=
  PI.le (pi_enum hg hm ha hs) fun σ H R ⟨F, ρ, k, S, q, fin⟩ => ⟨F, ρ, _, S, q, fun rs ρ1 vs F1 H1 q S1 T1 f => by
    split at q
    · rename_i r
      obtain ⟨d, q, hw⟩ := wc_eq q
      match vs, f with
      | [v], ⟨f, _⟩ =>
        split at q
        · rename_i ds
          obtain ⟨a, xs, rfl, h1, h2⟩ := (wc_rdeq S1 f hw).list S1.sub
          refine ⟨a, xs, rfl, (.inl h1), fin _ _ _ _ _ _ q S1 T1 fun F2 H2 σ2 ρ2 S2 T2 hs => ?_⟩
          obtain ⟨a', ys, e, h3, h4⟩ := (later_rd S1 f hw S2 T2 hs).list S2.sub
          cases e
          refine ⟨fun i hi => ⟨ys, (.inl h3), by rw [dpAll_len h4]; rw [enumD_len] at hi; exact hi⟩, fun i d hd => ?_⟩
          obtain ⟨x, e1, rfl⟩ := enumD_get hd
          obtain ⟨w, e2, dw⟩ := dpAll_get' h4 e1
          refine ⟨⟨ys, w, (.inl h3), e2⟩, fun x' H' hy => ?_⟩
          obtain ⟨T, x2, rfl, hT, rfl, hy⟩ := hy
          have := hy ys ((.inl h3))
          rw [e2] at this; cases this
          have e0 : (0 : Int) + (i : Int) = (i : Int) := by omega
          rw [e0]
          exact pair_new S2.sub hT (.int _) dw
        · exact q.elim
    · exact q.elim⟩
theorem di_zip {e e2 : Expr} {tpos : Pos} {elts : List Expr} {kk : Nat} (hg : Gl X "zip") (hm : X.mg "zip" = none) (ha : DA X [e, e2] ea)
    (hs : starEach [e, e2] X.env = (false, eval e X.env) :: starEach [e2] X.env := by rfl) (hpl : (backTo pos (starEach [e2] X.env)).any (·.1) = false := by rfl) :
    DI X (.Tuple elts kk tpos) (.Call (.Name "zip" p) [e, e2] [] pos) (dItZ ea) :=
  PI.le (RZ.pi_zipA hg hm ha hs hpl) fun σ H R ⟨F, ρ, k, S, q, fin⟩ => ⟨F, ρ, _, S, q, fun rs ρ1 vs F1 H1 q S1 T1 f => by
    split at q
    · rename_i r r'
      obtain ⟨d, q, hw⟩ := wc_eq q
      obtain ⟨d', q, hw'⟩ := wc_eq q
      match vs, f with
      | [v, w], ⟨f, f', _⟩ =>
        split at q
        · rename_i ds es
          obtain ⟨a, xs, rfl, h1, h2⟩ := (wc_rdeq S1 f hw).list S1.sub
          obtain ⟨b, zs, rfl, g1, g2⟩ := (wc_rdeq S1 f' hw').list S1.sub
          refine ⟨a, b, xs, zs, rfl, .inl ⟨(.inl h1), (.inl g1), fin _ _ _ _ _ _ q S1 T1 fun F2 H2 σ2 ρ2 S2 T2 hs => ?_⟩⟩
          obtain ⟨a', xs', e, h3, h4⟩ := (later_rd S1 f hw S2 T2 fun p hp => hs p (List.mem_append_left _ hp)).list S2.sub
          cases e
          obtain ⟨b', zs', e, g3, g4⟩ := (later_rd S1 f' hw' S2 T2 fun p hp => hs p (List.mem_append_right _ hp)).list S2.sub
          cases e
          refine ⟨fun i hi => ⟨xs', zs', (.inl h3), (.inl g3), by rw [dpAll_len h4, dpAll_len g4]; rw [zipD_len] at hi; omega⟩, fun i d hd => ?_⟩
          obtain ⟨x, y, e1, e2, rfl⟩ := zipD_get hd
          obtain ⟨x1, e3, dx⟩ := dpAll_get' h4 e1
          obtain ⟨y1, e4, dy⟩ := dpAll_get' g4 e2
          refine ⟨⟨xs', zs', x1, y1, (.inl h3), (.inl g3), e3, e4⟩, fun x' H' hy => ?_⟩
          obtain ⟨T, x2, y2, rfl, hT, rfl, hx, hy⟩ := hy
          have := hx xs' ((.inl h3))
          rw [e3] at this; cases this
          have := hy zs' ((.inl g3))
          rw [e4] at this; cases this
          exact pair_new S2.sub hT dx dy
        · rename_i ds es
          obtain ⟨a, xs, rfl, h1, h2, _⟩ := (wc_rdeq S1 f hw).tuple
          obtain ⟨b, zs, rfl, g1, g2, _⟩ := (wc_rdeq S1 f' hw').tuple
          refine ⟨a, b, xs, zs, rfl, .inr ⟨(ex_t S1.sub h1), (ex_t S1.sub g1), fin _ _ _ _ _ _ q S1 T1 fun F2 H2 σ2 ρ2 S2 T2 hs => ?_⟩⟩
          obtain ⟨a', xs', e, h3, h4, _⟩ := (later_rd S1 f hw S2 T2 fun p hp => hs p (List.mem_append_left _ hp)).tuple
          cases e
          obtain ⟨b', zs', e, g3, g4, _⟩ := (later_rd S1 f' hw' S2 T2 fun p hp => hs p (List.mem_append_right _ hp)).tuple
          cases e
          have h3 := ex_t S2.sub h3
          have g3 := ex_t S2.sub g3
          refine ⟨fun i hi => ⟨xs', zs', h3, g3, by rw [dpAll_len h4, dpAll_len g4]; rw [zipD_len] at hi; omega⟩, fun i d hd => ?_⟩
          obtain ⟨x, y, e1, e2, rfl⟩ := zipD_get hd
          obtain ⟨x1, e3, dx⟩ := dpAll_get' h4 e1
          obtain ⟨y1, e4, dy⟩ := dpAll_get' g4 e2
          refine ⟨⟨xs', zs', x1, y1, h3, g3, e3, e4⟩, fun x' H' hy => ?_⟩
          obtain ⟨T, x2, y2, rfl, hT, rfl, hx, hy⟩ := hy
          have := hx xs' (h3)
          rw [e3] at this; cases this
          have := hy zs' (g3)
          rw [e4] at this; cases this
          exact pair_new S2.sub hT dx dy
        · exact q.elim
    · exact q.elim⟩
theorem di_rev {e : Expr} (hg : Gl X "reversed") (hm : X.mg "reversed" = none) (he : DE X e da) (hs : starEach [e] X.env = (false, eval e X.env) :: starEach [] X.env := by rfl) : DI X tg (.Call (.Name "reversed" p) [e] [] pos) (dItV da) :=
  PI.le (RT.pi_revA hg hm he hs) fun σ H R ⟨F, ρ, k, S, q, fin⟩ => ⟨F, ρ, _, S, q, fun r ρ1 v F1 H1 q S1 T1 f => by
    obtain ⟨d, q, hw⟩ := wc_eq q
    have rv : ∀ {ys : List V} {ds : List D} {i : Nat} {d : D}, ys.length = ds.length → ds.reverse[i]? = some d → i < ds.length ∧ ds[ds.length - 1 - i]? = some d := fun {ys ds i d} _ h => by
      have hi : i < ds.length := by
        have := (List.getElem?_eq_some_iff.mp h).1
        simpa using this
      rw [List.getElem?_reverse hi] at h
      exact ⟨hi, h⟩
    split at q
    · rename_i ds
      obtain ⟨a, xs, rfl, h1, h2⟩ := (wc_rdeq S1 f hw).list S1.sub
      refine ⟨a, xs, rfl, .inl ⟨(.inl h1), fin _ _ _ _ _ _ q S1 T1 fun F2 H2 σ2 ρ2 S2 T2 hs => ?_⟩⟩
      obtain ⟨a', ys, e, h3, h4⟩ := (later_rd S1 f hw S2 T2 hs).list S2.sub
      cases e
      refine ⟨fun i hi => (by rw [dpAll_len h2]; simpa using hi : xs.length ≤ i), fun i d hd => ?_⟩
      obtain ⟨hi, hd⟩ := rv (dpAll_len h4) hd
      obtain ⟨w, e1, dw⟩ := dpAll_get' h4 hd
      refine ⟨⟨by rw [dpAll_len h2]; exact hi, ys, w, (.inl h3), by rw [dpAll_len h2]; exact e1⟩, fun x H' hy => ?_⟩
      obtain ⟨rfl, hy⟩ := hy
      have := hy ys ((.inl h3))
      rw [dpAll_len h2, e1] at this; cases this
      exact ⟨F2, Ex.refl _, Ex.refl _, S2.sub, fun _ _ z => .inl z, dw⟩
    · rename_i ds
      obtain ⟨a, xs, rfl, h1, h2, _⟩ := (wc_rdeq S1 f hw).tuple
      refine ⟨a, xs, rfl, .inr ⟨(ex_t S1.sub h1), fin _ _ _ _ _ _ q S1 T1 fun F2 H2 σ2 ρ2 S2 T2 hs => ?_⟩⟩
      obtain ⟨a', ys, e, h3, h4, _⟩ := (later_rd S1 f hw S2 T2 hs).tuple
      cases e
      have h3 := ex_t S2.sub h3
      refine ⟨fun i hi => (by rw [dpAll_len h2]; simpa using hi : xs.length ≤ i), fun i d hd => ?_⟩
      obtain ⟨hi, hd⟩ := rv (dpAll_len h4) hd
      obtain ⟨w, e1, dw⟩ := dpAll_get' h4 hd
      refine ⟨⟨by rw [dpAll_len h2]; exact hi, ys, w, h3, by rw [dpAll_len h2]; exact e1⟩, fun x H' hy => ?_⟩
      obtain ⟨rfl, hy⟩ := hy
      have := hy ys (h3)
      rw [dpAll_len h2, e1] at this; cases this
      exact ⟨F2, Ex.refl _, Ex.refl _, S2.sub, fun _ _ z => .inl z, dw⟩
    · exact q.elim⟩
/-- a name that a loop walks -/
theorem de_lend {x : Str} {i : Nat} (h : PE X (.Name x pos) (tVar i)) : DE X (.Name x pos) (dLend i) := PE.le h fun σ H Q ⟨F, ρ, k, S, q, fin⟩ => by
  unfold dLend at q
  split at q
  · rename_i d e
    obtain ⟨v, e1, r⟩ := S.fz i d e
    exact ⟨v, e1, fin _ _ v F H q S .refl r⟩
  · rename_i d e
    obtain ⟨v, e1, r⟩ := S.rd i d e
    exact ⟨v, e1, fin _ _ v F H q S .refl r⟩
  · rename_i d e
    obtain ⟨a, e1, _⟩ := S.ow i _ _ d e
    have fr : fzR (.bo i) ρ fun d' ρ' => d' = d ∧ ρ' = ρ.set i (.fz d) := by unfold fzR; simp [e]
    obtain ⟨d', ρ', F', ⟨rfl, rfl⟩, S', T', dp, _⟩ := fzR_ok S (show FitsW X.K F H σ ρ H (.ref a) (.bo i) from e1) .refl fr
    exact ⟨.ref a, e1, fin _ _ _ F' H q S' T' dp⟩
  · rename_i κ d _ e
    obtain ⟨a, e1, ho, fa, _⟩ := S.ow i _ _ d e
    have hs : ∀ t κ' d', Slot.rd d ≠ .ow t κ' d' := fun _ _ _ z => by cases z
    have n : ¬ OA σ (ρ.set i (.rd d)) a := fun ⟨j, t, κ', d', q1, q2⟩ => by
      rcases get_set_cases q1 with ⟨e', z⟩ | ⟨e', z⟩
      · cases z
      · exact e' (S.inj i j _ _ _ _ _ _ a e z e1 q2)
    have rd : RdN X.K F H (OA σ (ρ.set i (.rd d))) (.ref a) d := .inr ⟨κ, a, rfl, ho, n⟩
    have S' : Sta X.K F H σ (ρ.set i (.rd d)) := S.drop hs (fun _ z => by cases z) (fun d' z => by cases z; exact ⟨_, e1, rd⟩)
    refine ⟨.ref a, e1, fin _ _ _ F H q S' ⟨⟨Ex.refl F, fun b u h _ _ => ?_, fun b u h => ⟨u, h⟩, fun b z => .inl (oa_set hs z), fun _ _ z => .inl z⟩, fun j t κ' d' z => ?_, fun j d' z => ?_⟩ rd⟩
    · exact h
    · rcases get_set_cases z with ⟨_, y⟩ | ⟨_, y⟩
      · cases y
      · exact ⟨d', y⟩
    · rcases get_set_cases z with ⟨y1, y⟩ | ⟨_, y⟩
      · cases y; exact .inr ⟨_, _, _, by rw [← y1]; exact e⟩
      · exact .inl y
  · exact q.elim
end
end TL

-- part TL12
/-! TL12: callees in one word; scopes of a text; the end of a law; gcd; the script's cells; more stores. -/
namespace TL
open PySem PySem.Spec L2
open Evl (Ex ex_l ex_t)
variable [Lay]

/-- a def of the module, its promise, its place -/
structure Cal (P : Program) (w : World) (K : PySem.W.Frag) (mg : Str → Option Value) (base : Heap) (k : Nat) (x : Str) (ms : List Md) (ts : TSp) : Prop where
  ex : ∃ (f : Addr) (fd : FuncData) (ps : List Str), FnOk P w K mg base CX0 k f fd ps (spT K ms ts) ∧ mg x = some (.ref f) ∧ PySem.W.keepIn K (.ref f) = true ∧ Binds K fd ps []
section
variable {X : Cx} {k : Nat} {x : Str} {ms : List Md} {ts : TSp} {e : Expr} {es : List Expr} {da : DTA} {p pos : Pos}
theorem de_own (C : Cal X.prog X.w X.K X.mg X.base k x ms ts) (hr : Room k X.A) (hg : Gl X x) (ha : DA X (e :: es) da) (hdb : (x == ("__debug__" : Str)) = false := by decide)
    (he : starEach (e :: es) X.env = (false, eval e X.env) :: starEach es X.env := by rfl) (hpl : (backTo pos (starEach es X.env)).any (·.1) = false := by rfl) : DE X (.Call (.Name x p) (e :: es) [] pos) (dCall ms ts da) := by
  obtain ⟨f, fd, ps, F, hm, hk, hb⟩ := C.ex
  exact de_call F hr hg hm hk hb ha hdb he hpl
end
section
variable {P : Program} {w : World} {K : PySem.W.Frag} {mg : Str → Option Value} {base : Heap}
theorem Cal.weak {k j : Nat} {x : Str} {ms : List Md} {ts : TSp} (C : Cal P w K mg base k x ms ts) (h : k ≤ j) : Cal P w K mg base j x ms ts := by
  obtain ⟨f, fd, ps, F, r⟩ := C.ex
  exact ⟨f, fd, ps, F.mono h, r⟩
theorem cal_mk {x : Str} {st : Stmt} {f : Addr} {fd : FuncData} {N ps : List Str} {k : Nat} {ms : List Md} {ts : TSp} (Fu : Fun K x x st f fd) (hm : mg x = some (.ref f)) (hb0 : Binds K fd ps []) (S : FnScope N ps (defScope st)) (hl : ms.length = ps.length) (b : DTS)
    (hb : ∀ cdv A outer s H E, Room k (A.deeper (PyProof.Rows.envOfC x (defScope st) s.heap.objs.size f cdv)) → DSs (cxOf CX0 P w K mg base N x (defScope st) f cdv A outer s H E).nox (defBody st) b)
    (sp : ∀ ds k as, ts ds k → ds.length = ms.length → as.length = nio ms → b { nx := finR ms as k (.fz .none), rt := finR ms as k } (entryR ms ds as ++ List.replicate (N.length - ms.length) .un)) : Cal P w K mg base (k + 1) x ms ts :=
  ⟨f, fd, ps, fn_ok Fu S hl b hb sp, hm, Fu.kp, hb0⟩
end
/-! ### scopes of a text, in the order in which they stand -/
def colE : Nat → Expr → List Scope
  | 0, _ => []
  | n + 1, e => match e with
    | .BoolOp _ es _ => es.flatMap (colE n)
    | .BinOp a _ b _ => colE n a ++ colE n b
    | .UnaryOp _ a _ => colE n a
    | .Lambda _ b s _ => s :: colE n b
    | .IfExp c a b _ => colE n c ++ (colE n a ++ colE n b)
    | .Dict ks vs _ => ks.flatMap (fun o => match o with | some e => colE n e | none => []) ++ vs.flatMap (colE n)
    | .ListComp e gs s _ => s :: (colE n e ++ gs.flatMap fun g => colE n g.iter ++ g.ifs.flatMap (colE n))
    | .SetComp e gs s _ => s :: (colE n e ++ gs.flatMap fun g => colE n g.iter ++ g.ifs.flatMap (colE n))
    | .DictComp a b gs s _ => s :: (colE n a ++ (colE n b ++ gs.flatMap fun g => colE n g.iter ++ g.ifs.flatMap (colE n)))
    | .Compare a _ bs _ => colE n a ++ bs.flatMap (colE n)
    | .Call f as ks _ => colE n f ++ (as.flatMap (colE n) ++ ks.flatMap fun k => colE n k.value)
    | .Attribute a _ _ => colE n a
    | .Subscript a b _ => colE n a ++ colE n b
    | .List es _ => es.flatMap (colE n)
    | .Tuple es _ _ => es.flatMap (colE n)
    | .Starred a _ => colE n a
    | .Slice a b c _ => (match a with | some e => colE n e | none => []) ++ ((match b with | some e => colE n e | none => []) ++ (match c with | some e => colE n e | none => []))
    | .JoinedStr es _ => es.flatMap (colE n)
    | .FormattedValue a _ _ _ => colE n a
    | _ => []
def colS : Nat → Stmt → List Scope
  | 0, _ => []
  | n + 1, s => match s with
    | .Return (some e) _ => colE 40 e
    | .Assign ts e _ => colE 40 e ++ ts.flatMap (colE 40)
    | .AugAssign t _ e _ => colE 40 t ++ colE 40 e
    | .For _ it b o _ => colE 40 it ++ (b.flatMap (colS n) ++ o.flatMap (colS n))
    | .While c b o _ => colE 40 c ++ (b.flatMap (colS n) ++ o.flatMap (colS n))
    | .If c b o _ => colE 40 c ++ (b.flatMap (colS n) ++ o.flatMap (colS n))
    | .Expr e _ => colE 40 e
    | _ => []
def scopeAt (st : Stmt) (i : Nat) : Scope := ((defBody st).flatMap (colS 20)).getD i (defScope st)

/-! ### gcd, imported by its name -/
@[simp] def gGcd : List D → (Res → Prop) → Prop
  | [.int a, .int b], k => k (.fz (.int (Nat.gcd a.natAbs b.natAbs)))
  | _, _ => False
section
variable {X : Cx} {x : Str} {id : String} {e : Expr} {es : List Expr} {da : DTA} {p pos : Pos} {g : List D → (Res → Prop) → Prop}
theorem cr_gGcd : CallR X (.builtin "math.gcd") (rn X.K gGcd) := by
  intro pins s σ H xs us Q I r ⟨F, ds, k, se, rd, g, fin⟩
  unfold gGcd at g
  split at g
  · obtain ⟨v, w, rfl, h, h'⟩ := rd.two
    cases h.int; cases h'.int
    exact cr_gcd pins s σ H _ us Q I r ⟨_, _, rfl, r2_val se g fin (.int _)⟩
  · exact g.elim
/-! ### the script -/
@[simp] def scrD (ns : List Int) : D := .dict [(.list (ns.map .int), .none)]
theorem scr_get {K : PySem.W.Frag} {F H : Hp} {v : V} {ns : List Int} (h : Dp K F v (scrD ns)) : ∃ a ms, v = .ref a ∧ ms = ns ∧ SqL K F a (ms.map V.int) := by
  unfold scrD at h
  generalize e : PyData.dict [(.list (ns.map .int), .none)] = d at h
  cases h with
  | @scr a ms h =>
    refine ⟨a, ms, rfl, ?_, h⟩
    injection e with e
    injection e with e _
    injection e with e _
    injection e with e
    have : ∀ l m : List Int, l.map PyData.int = m.map PyData.int → m = l := fun l => by
      induction l with
      | nil => intro m h; cases m with
        | nil => rfl
        | cons => simp at h
      | cons a l ih => intro m h; cases m with
        | nil => simp at h
        | cons b m =>
          simp only [List.map_cons, List.cons.injEq, PyData.int.injEq] at h
          rw [h.1, ih m h.2]
    exact this _ _ e
  | _ => cases e
end
end TL

-- part TL13
/-! TL13: list(reversed(..)), list(range(..)), names of the module that are built-ins, op= by place. -/
namespace TL
open PySem PySem.Spec L2
open Evl (Ex ex_l ex_t)
variable [Lay]
section
variable {prog : Program} {w : World} {A : Around} {E : Value → Shared → Prop} {s : Shared}
/-- a reversed list runs into an empty new list at S -/
theorem ext_rev {R : Result → Shared → Prop} {it l S : Addr} {items : Array Value} {c₀ : Nat} {res : Value} (hh : A.handled = none) (hit : s.heap.IsRevIter it l ((items.size : Int) - 1)) (hl : s.heap.IsList l items) (hne : l ≠ it) (hn : items.size ≤ sizeLine)
    (hSi : S ≠ it) (hSl : S ≠ l) (hS : s.heap.get? S = some { cls := .type "list", data := .seq #[] c₀ })
    (hR : ∀ (h' : Heap) (tk : Nat) (acc : Array Value) (c' : Nat), (∀ b o, b ≠ it → b ≠ S → s.heap.get? b = some o → h'.get? b = some o) → h'.get? S = some { cls := .type "list", dict := none, data := .seq acc c', slots := #[] } →
      ItemsOf (fun i v => items[items.size - 1 - i]? = some v) acc items.size → R (.ok (.ret res)) { s with heap := h', toks := tk }) :
    wpAny (model prog w) A.in1 (Builtin.List.listExtendWith (.ref S) (.ref it) res)
      (fun fin s' => match fin with | .done f => R (.ok f) s' | .again c' => c'.quiet = true ∧ codeAny (model prog w) A c' R s') (fun e s' => R (.error e) s') s := by
  have W := (Walks.listRev (prog := prog) (w := w) (A := A.in1) hh it l hne items).toS
  have hSf : S ∉ [it, l] := by
    intro z
    rcases List.mem_cons.mp z with z | z
    · exact hSi z
    · exact hSl (List.mem_singleton.mp z)
  have hT : s.TypeIs (.ref it) "list_reverseiterator" := hit.typeIs
  have hx : Builtin.List.listSameRef (.ref S) (.ref it) = false := by simp [Builtin.List.listSameRef, hSi]
  unfold Builtin.List.listExtendWith
  refine wpAny_bind (wpAny_typeOf hT ?_)
  rw [if_neg (by rw [hx]; decide)]
  refine wpAny_bind (wpAny_pyIter_revIter hit (wpAny_bind (wpAny_holding ?_)))
  unfold Builtin.List.listLengthHint
  refine wpAny_bind (wpAny_specialOf hT RT.nolen_lri ?_)
  show wpAny _ _ (specialOf (Value.ref it) (Str.ofString "__length_hint__") >>= _) _ _ s
  refine wpAny_bind (wpAny_specialOf hT RT.hint_lri ?_)
  generalize hq : ("list_reverseiterator.__length_hint__" : String) = q0
  wp_delta
  rw [show splitId q0 = some ("list_reverseiterator", "__length_hint__") from by subst hq; decide +kernel]
  subst hq
  refine wpAny_bind (wpAny_isInstance (b := true) hT (by rw [isSubtype_type]; kernel_rfl) (wpAny_pure ?_))
  rw [if_neg (by decide)]
  have e0 : ((items.size : Nat) : Int) - 1 - ((0 : Nat) : Int) = (items.size : Int) - 1 := by omega
  refine wpAny_pure ⟨plainId_quiet F.plain_extend_loop _, codeAny_extend_loopS W hn _ hSf _ items.size 0 _ _ _ rfl (Nat.zero_le _) ⟨Nat.zero_le _, by rw [e0]; exact hit, hl⟩ hS (ItemsOf.nil _) fun s' acc' c' hm hS' hacc => ?_⟩
  rw [Moved.eq_with hm]
  refine hR s'.heap s'.toks acc' c' (fun b o hb hbS e => hm.heap b o (fun z => ?_) e) hS' hacc
  rcases List.mem_cons.mp z with z | z
  · exact hbS z
  · exact hb (List.mem_singleton.mp z)
theorem call_list_rev {Q : Value → Shared → Prop} {it l : Addr} {items : Array Value} (hh : A.handled = none) (hit : s.heap.IsRevIter it l ((items.size : Int) - 1)) (hl : s.heap.IsList l items) (hne : l ≠ it) (hn : items.size ≤ sizeLine)
    (hQ : ∀ (h' : Heap) (tk : Nat) (acc : Array Value) (c' : Nat), (∀ b o, b ≠ it → s.heap.get? b = some o → h'.get? b = some o) → h'.get? s.heap.objs.size = some { cls := .type "list", dict := none, data := .seq acc c', slots := #[] } →
      ItemsOf (fun i v => items[items.size - 1 - i]? = some v) acc items.size → Q (.ref s.heap.objs.size) { s with heap := h', toks := tk }) : wpAny (model prog w) A (call (.type "list") [.ref it]) Q E s := by
  have hit0 := hit
  have hl0 := hl
  obtain ⟨oi, hoi, _⟩ := hit0
  obtain ⟨ol, hol, _⟩ := hl0
  refine callType_codes (Q₁ := fun obj s₁ => obj = .ref s.heap.objs.size ∧ s₁ = { s with heap := s.heap.push { cls := .type "list", data := .seq #[] } }) F.called_list (F.typeCall_list_1 _) F.entry_list_init (code_list_new _ ⟨rfl, rfl⟩) fun obj s₁ ⟨e1, e2⟩ => ?_
  subst e1 e2
  have hS : (s.heap.push { cls := .type "list", data := .seq #[] }).get? s.heap.objs.size = some { cls := .type "list", data := .seq #[] } := Heap.get?_push_size _ rfl
  refine ⟨⟨_, hS, rfl⟩, F.args_list_init_2 _ _, ?_⟩
  show wpAny _ A.in1.in1 (Builtin.List.listItems (.ref s.heap.objs.size) >>= fun old => Builtin.List.listUpdate (.ref s.heap.objs.size) (fun _ => #[]) >>= fun _ => letGo old.toList.reverse >>= fun _ => Builtin.List.listExtendWith (.ref s.heap.objs.size) (.ref it) .none) _ _ _
  refine wpAny_bind ?_
  unfold Builtin.List.listItems
  refine wpAny_bind (wpAny_seqItems hS rfl (wpAny_pure ?_))
  show wpAny _ A.in1.in1 (updateSeq s.heap.objs.size (fun _ => #[]) >>= fun _ => letGo (#[] : Array Value).toList.reverse >>= fun _ => Builtin.List.listExtendWith (.ref s.heap.objs.size) (.ref it) .none) _ _ _
  refine wpAny_bind (wpAny_updateSeq hS rfl ?_)
  have hS₂ := Heap.get?_update_self (Obj.mapSeq (fun _ => (#[] : Array Value))) hS rfl
  have oth : ∀ b o, b ≠ s.heap.objs.size → s.heap.get? b = some o → ((s.heap.push { cls := .type "list", data := .seq #[] }).update s.heap.objs.size (Obj.mapSeq (fun _ => (#[] : Array Value)))).get? b = some o :=
    fun b o hb e => (Heap.get?_update_other _ _ (Ne.symm hb)).trans (Heap.get?_push_of_some _ e)
  have n1 : s.heap.objs.size ≠ it := Nat.ne_of_gt (Heap.lt_size hoi)
  have n2 : s.heap.objs.size ≠ l := Nat.ne_of_gt (Heap.lt_size hol)
  refine wpAny_bind (wpAny_letGo (ext_rev (A := A.in1) hh (hit.at fun o e => oth _ o (Ne.symm n1) e) (hl.at fun o e => oth _ o (Ne.symm n2) e) hne hn n1 n2 hS₂ fun h' tk acc c' hk hS' hi => ?_))
  exact ⟨rfl, hQ h' tk acc c' (fun b o hb e => hk b o hb (Nat.ne_of_lt (Heap.lt_size e)) (oth b o (Nat.ne_of_lt (Heap.lt_size e)) e)) hS' hi⟩
end
section
variable {X : Cx} {x : Str} {id : String} {e : Expr} {es : List Expr} {da : DTE} {ea : DTA} {p p2 pos pos2 : Pos} {g : List D → (Res → Prop) → Prop}
/-- list(reversed(x)), x a list -/
@[simp] def dRevL (da : DTE) : DTE := fun ρ k => da ρ fun r ρ1 => wc r ρ1 fun d => match d with
  | .list ds => k (.tm .l (.list ds.reverse)) ρ1
  | _ => False
theorem dpAll_rev {K : PySem.W.Frag} {F : Hp} {vs : List V} {ds : List D} (h : DpAll K F vs ds) : DpAll K F vs.reverse ds.reverse := by
  induction vs generalizing ds with
  | nil => cases h; exact .nil
  | cons v vs ih => cases h with | cons p r => rw [List.reverse_cons, List.reverse_cons]; exact dpAll_app (ih r) (.cons p .nil)
theorem pe_listRev {te : TE} (hc : X.calm = true) (hg : Gl X "list") (hm : X.mg "list" = none) (hg2 : Gl X "reversed") (hm2 : X.mg "reversed" = none) (he : PE X e te)
    (hs : starEach [e] X.env = (false, eval e X.env) :: starEach [] X.env := by rfl)
    (hs2 : starEach [.Call (.Name "reversed" p2) [e] [] pos2] X.env = (false, eval (.Call (.Name "reversed" p2) [e] [] pos2) X.env) :: starEach [] X.env := by rfl) :
    PE X (.Call (.Name "list" p) [.Call (.Name "reversed" p2) [e] [] pos2] [] pos) (fun σ H Q => te σ H fun v H1 => ∃ (a : Addr) (xs : List V), v = .ref a ∧ SqL X.K H1 a xs ∧ ∀ q, H1 q = none → Q (.ref q) (upd H1 q (.lst xs.reverse))) := by
  refine ⟨fun pins s σ H Q I h => PyProof.Rows.Call_ (ld_blt I hg hm PyProof.Rows.boot_list (PyProof.Rows.callWith_type1 (PyProof.Rows.args_cons (PyProof.Rows.Call_ (ld_blt I hg2 hm2 PyProof.Rows.boot_reversed (PyProof.Rows.callWith_type1 (PyProof.Rows.args_cons (thn (he.run pins s σ H _ I h) fun u s1 ⟨v, H1, I1, r1, a, xs, ev, hq, q⟩ => PyProof.Rows.args_nil ?_) hs) hs rfl))) hs2) hs2 rfl))⟩
  subst ev
  obtain rfl : u = Value.ref a := r1
  obtain ⟨its, rv, p', hz⟩ := I1.list hq
  refine call_reversed_list p'.isList (PyProof.Rows.args_nil ?_)
  have k0 : ∀ b o, s1.heap.get? b = some o → (s1.heap.push (revObj a ((its.toArray.size : Int) - 1))).get? b = some o := fun b o e => Heap.get?_push_of_some _ e
  have I2 : Inv X pins σ H1 { s1 with heap := s1.heap.push (revObj a ((its.toArray.size : Int) - 1)) } := I1.kept (t' := s1.toks) k0
  obtain ⟨f0, f1, f2, f3, f4, f5⟩ := I1.fpOk (H' := H1) (b := s1.heap.objs.size) (Nat.le_refl _) (I1.hok.fresh (Nat.le_refl _))
  have hl := p'.isList
  have hl0 := hl
  obtain ⟨ol, hol, _⟩ := hl0
  have hn : its.toArray.size ≤ sizeLine := by rw [List.size_toArray, ← rv.length]; exact hz
  refine call_list_rev (s := { s1 with heap := s1.heap.push (revObj a ((its.toArray.size : Int) - 1)) }) (I1.ok.hd hc) ⟨_, Heap.get?_push_size _ rfl, rfl, rfl⟩ (hl.push _) (Nat.ne_of_lt (Heap.lt_size hol)) hn fun h' tk acc c' hk hS hi => ?_
  have hT : (s1.heap.push (revObj a ((its.toArray.size : Int) - 1))).objs.size ≤ (s1.heap.push (revObj a ((its.toArray.size : Int) - 1))).objs.size := Nat.le_refl _
  have nw : ObjOk X.prog X.w (upd H1 (s1.heap.push (revObj a ((its.toArray.size : Int) - 1))).objs.size (.lst xs.reverse)) h' (s1.heap.push (revObj a ((its.toArray.size : Int) - 1))).objs.size (.lst xs.reverse) :=
    ⟨by rw [List.length_reverse]; exact hz, acc.toList, c', RT.vals_rev rv hi, by rw [Array.toArray_toList]; exact hS⟩
  have I3 := I2.turnedNew (t' := tk) (ch := [s1.heap.objs.size]) (fun b o hb e => hk b o (fun z => hb (by rw [z]; exact List.mem_singleton.mpr rfl)) e) (fun b hb => by
    obtain rfl := List.mem_singleton.mp hb
    exact ⟨f0, f1, f2, f3, f4, f5⟩) hT nw
  exact ⟨.ref _, _, I3, rfl, q _ (I2.hok.fresh (Nat.le_refl _))⟩
theorem de_listRev (hc : X.calm = true) (hg : Gl X "list") (hm : X.mg "list" = none) (hg2 : Gl X "reversed") (hm2 : X.mg "reversed" = none) (he : DE X e da)
    (hs : starEach [e] X.env = (false, eval e X.env) :: starEach [] X.env := by rfl)
    (hs2 : starEach [.Call (.Name "reversed" p2) [e] [] pos2] X.env = (false, eval (.Call (.Name "reversed" p2) [e] [] pos2) X.env) :: starEach [] X.env := by rfl) :
    DE X (.Call (.Name "list" p) [.Call (.Name "reversed" p2) [e] [] pos2] [] pos) (dRevL da) :=
  PE.le (pe_listRev hc hg hm hg2 hm2 he hs hs2) fun σ H Q ⟨F, ρ, k, S, q, fin⟩ => ⟨F, ρ, _, S, q, fun r ρ1 v F1 H1 q S1 T1 f => by
    obtain ⟨d, rd, q⟩ := wc_rd S1 f q
    split at q
    · obtain ⟨a, xs, rfl, h1, h2⟩ := rd.list S1.sub
      refine ⟨a, xs, rfl, .inl h1, fun p hp => ?_⟩
      have n := New.list (K := X.K) S1.sub hp (dpAll_rev h2)
      exact fin _ _ _ _ _ q (n.sta S1) (T1.trans n.tr) (n.fits S1 fun _ z => T1.none z)
    · exact q.elim⟩
/-- list(range(n)), list(range(a, b)) -/
def okLen (a b : Int) : Prop := okRg a ∧ okRg b ∧ (b - a).toNat ≤ 16777216
@[simp] def dRgL1 (da : DTE) : DTE := fun ρ k => da ρ fun r ρ1 => wc r ρ1 fun d => match d with
  | .int n => okLen 0 n ∧ k (.tm .l (.list (rangeD 0 1 (n - 0).toNat))) ρ1
  | _ => False
@[simp] def dRgL2 (da db : DTE) : DTE := fun ρ k => da ρ fun r ρ1 => db ρ1 fun r' ρ2 => wc r ρ2 fun d => wc r' ρ2 fun d' => match d, d' with
  | .int a, .int b => okLen a b ∧ k (.tm .l (.list (rangeD a 1 (b - a).toNat))) ρ2
  | _, _ => False
theorem dp_rg {K : PySem.W.Frag} {F : Hp} (a : Int) (n : Nat) : DpAll K F ((List.range n).map fun (i : Nat) => V.int (a + (i : Int))) (rangeD a 1 n) := by
  unfold rangeD
  have : ∀ l : List Nat, DpAll K F (l.map fun (i : Nat) => V.int (a + (i : Int))) (l.map fun (i : Nat) => .int (a + (i : Int) * 1)) := fun l => by
    induction l with
    | nil => exact .nil
    | cons i l ih => rw [List.map_cons, List.map_cons]; exact .cons (by rw [Int.mul_one]; exact .int _) ih
  exact this _
theorem de_listRg1 {a : Expr} (hc : X.calm = true) (hg : Gl X "list") (hm : X.mg "list" = none) (hg2 : Gl X "range") (hm2 : X.mg "range" = none) (ha : DE X a da) (na : starEach [a] X.env = (false, eval a X.env) :: starEach [] X.env := by rfl)
    (nb : starEach [.Call (.Name "range" p2) [a] [] pos2] X.env = (false, eval (.Call (.Name "range" p2) [a] [] pos2) X.env) :: starEach [] X.env := by rfl) : DE X (.Call (.Name "list" p) [.Call (.Name "range" p2) [a] [] pos2] [] pos) (dRgL1 da) :=
  PE.le (pe_listRg hc hg hm (prg_1 hg2 hm2 ha na) nb) fun σ H Q ⟨F, ρ, k, S, q, fin⟩ => ⟨F, ρ, _, S, q, fun r ρ1 v F1 H1 q S1 T1 f => by
    obtain ⟨d, rd, q⟩ := wc_rd S1 f q
    split at q
    · rename_i m
      cases rd.int
      obtain ⟨⟨o1, o2, o3⟩, q⟩ := q
      refine ⟨_, rfl, ⟨o1.1, o1.2, o2.1, o2.2, o3⟩, fun p hp => ?_⟩
      have n := New.list (K := X.K) S1.sub hp (dp_rg 0 (m - 0).toNat)
      exact fin _ _ _ _ _ q (n.sta S1) (T1.trans n.tr) (n.fits S1 fun _ z => T1.none z)
    · exact q.elim⟩
theorem de_listRg2 {a b : Expr} {db : DTE} (hc : X.calm = true) (hg : Gl X "list") (hm : X.mg "list" = none) (hg2 : Gl X "range") (hm2 : X.mg "range" = none) (ha : DE X a da) (hb : DE X b db) (na : starEach [a, b] X.env = (false, eval a X.env) :: starEach [b] X.env := by rfl)
    (nb : starEach [b] X.env = (false, eval b X.env) :: starEach [] X.env := by rfl) (hp : (backTo pos2 (starEach [b] X.env)).any (·.1) = false := by rfl)
    (nc : starEach [.Call (.Name "range" p2) [a, b] [] pos2] X.env = (false, eval (.Call (.Name "range" p2) [a, b] [] pos2) X.env) :: starEach [] X.env := by rfl) : DE X (.Call (.Name "list" p) [.Call (.Name "range" p2) [a, b] [] pos2] [] pos) (dRgL2 da db) :=
  PE.le (pe_listRg hc hg hm (prg_2 hg2 hm2 ha hb na nb hp) nc) fun σ H Q ⟨F, ρ, k, S, q, fin⟩ => up2 S q fun x y ρ' v u F1 H1 q S1 T1 f1 f2 => by
    obtain ⟨d, rd, q⟩ := wc_rd S1 f1 q
    obtain ⟨d', rd', q⟩ := wc_rd S1 f2 q
    split at q
    · rename_i i j _
      cases rd.int; cases rd'.int
      obtain ⟨⟨o1, o2, o3⟩, q⟩ := q
      refine ⟨_, _, rfl, rfl, ⟨o1.1, o1.2, o2.1, o2.2, o3⟩, fun p hp => ?_⟩
      have n := New.list (K := X.K) S1.sub hp (dp_rg i (j - i).toNat)
      exact fin _ _ _ _ _ q (n.sta S1) (T1.trans n.tr) (n.fits S1 fun _ z => T1.none z)
    · exact q.elim
/-- f(..), f the module's name of a built-in function -/
theorem de_fnG (hc : CallR X (.builtin id) (rn X.K g)) (hg : Gl X x) (hm : X.mg x = some (.builtin id)) (ha : DA X (e :: es) ea) (hdb : (x == ("__debug__" : Str)) = false := by decide)
    (he : starEach (e :: es) X.env = (false, eval e X.env) :: starEach es X.env := by rfl) (hpl : (backTo pos (starEach es X.env)).any (·.1) = false := by rfl) : DE X (.Call (.Name x p) (e :: es) [] pos) (dFn g ea) :=
  PE.le (pe_callBfun hc hg hm ha hdb he hpl) fun σ H Q h => up_fn h
end
end TL

-- part TL14
/-! TL14: isinstance, repr, is of bools, the script's cells, x[i] op= e. -/
namespace TL
open PySem PySem.Spec L2
open Evl (Ex ex_l ex_t)
variable [Lay]

/-! ### isinstance(x, T) -/
def tyS : D → String
  | .none => "NoneType"
  | .bool _ => "bool"
  | .int _ => "int"
  | .str _ => "str"
  | .list _ => "list"
  | .tuple _ => "tuple"
  | .dict _ => "dict"
@[irreducible] def isT (T : String) (d : D) : Option Bool := match d with
  | .dict _ => none
  | _ => kitB (tyS d) T
@[simp] theorem isT_int_int {i : Int} : isT "int" (.int i) = some true := by unfold isT; show kitB "int" "int" = _; decide +kernel
@[simp] theorem isT_int_bool {i : Bool} : isT "int" (.bool i) = some true := by unfold isT; show kitB "bool" "int" = _; decide +kernel
@[simp] theorem isT_int_str {i : Str} : isT "int" (.str i) = some false := by unfold isT; show kitB "str" "int" = _; decide +kernel
@[simp] theorem isT_int_list {i : List D} : isT "int" (.list i) = some false := by unfold isT; show kitB "list" "int" = _; decide +kernel
@[simp] theorem isT_int_tuple {i : List D} : isT "int" (.tuple i) = some false := by unfold isT; show kitB "tuple" "int" = _; decide +kernel
@[simp] theorem isT_int_none : isT "int" .none = some false := by unfold isT; show kitB "NoneType" "int" = _; decide +kernel
@[simp] theorem isT_bool_int {i : Int} : isT "bool" (.int i) = some false := by unfold isT; show kitB "int" "bool" = _; decide +kernel
@[simp] theorem isT_bool_bool {i : Bool} : isT "bool" (.bool i) = some true := by unfold isT; show kitB "bool" "bool" = _; decide +kernel
@[simp] theorem isT_str_int {i : Int} : isT "str" (.int i) = some false := by unfold isT; show kitB "int" "str" = _; decide +kernel
@[simp] theorem isT_str_bool {i : Bool} : isT "str" (.bool i) = some false := by unfold isT; show kitB "bool" "str" = _; decide +kernel
@[simp] theorem isT_str_str {i : Str} : isT "str" (.str i) = some true := by unfold isT; show kitB "str" "str" = _; decide +kernel
@[simp] theorem isT_str_list {i : List D} : isT "str" (.list i) = some false := by unfold isT; show kitB "list" "str" = _; decide +kernel
@[simp] theorem isT_str_tuple {i : List D} : isT "str" (.tuple i) = some false := by unfold isT; show kitB "tuple" "str" = _; decide +kernel
@[simp] theorem isT_str_none : isT "str" .none = some false := by unfold isT; show kitB "NoneType" "str" = _; decide +kernel
@[simp] theorem isT_list_list {i : List D} : isT "list" (.list i) = some true := by unfold isT; show kitB "list" "list" = _; decide +kernel
@[simp] theorem isT_list_tuple {i : List D} : isT "list" (.tuple i) = some false := by unfold isT; show kitB "tuple" "list" = _; decide +kernel
@[simp] theorem isT_list_int {i : Int} : isT "list" (.int i) = some false := by unfold isT; show kitB "int" "list" = _; decide +kernel
@[simp] theorem isT_list_str {i : Str} : isT "list" (.str i) = some false := by unfold isT; show kitB "str" "list" = _; decide +kernel
@[simp] theorem isT_list_none : isT "list" .none = some false := by unfold isT; show kitB "NoneType" "list" = _; decide +kernel
@[simp] theorem isT_tuple_list {i : List D} : isT "tuple" (.list i) = some false := by unfold isT; show kitB "list" "tuple" = _; decide +kernel
@[simp] theorem isT_tuple_tuple {i : List D} : isT "tuple" (.tuple i) = some true := by unfold isT; show kitB "tuple" "tuple" = _; decide +kernel
@[simp] theorem isT_tuple_int {i : Int} : isT "tuple" (.int i) = some false := by unfold isT; show kitB "int" "tuple" = _; decide +kernel
@[simp] theorem isT_tuple_str {i : Str} : isT "tuple" (.str i) = some false := by unfold isT; show kitB "str" "tuple" = _; decide +kernel
@[simp] theorem isT_tuple_none : isT "tuple" .none = some false := by unfold isT; show kitB "NoneType" "tuple" = _; decide +kernel
@[simp] def dIsI (T : String) (da : DTE) : DTE := fun ρ k => da ρ fun r ρ1 => wc r ρ1 fun d => match isT T d with
  | some b => k (.fz (.bool b)) ρ1
  | none => False
section
variable {X : Cx} {e : Expr} {es : List Expr} {da db : DTE} {p p2 pos : Pos} {T : String}
theorem rd_ty {K : PySem.W.Frag} {F H : Hp} {v : V} {d : D} (s : Ex F H) (h : RdAt K F H v d) (hd : ∀ ps, d ≠ .dict ps) : TyX K H v (.type (tyS d)) := by
  rcases h with h | ⟨κ, a, rfl, h⟩
  · cases h with
    | non => exact .base .non
    | bl b => exact .base (.bl b)
    | int i => exact .base (.int i)
    | str x => exact .base (.str x)
    | lst h _ =>
      rcases h with h | ⟨o, h⟩
      · exact .base (.lst (s _ _ h))
      · exact .base (.frz (s _ _ h))
    | tup h _ =>
      rcases h.sq with (h | ⟨o, h⟩) | ⟨o, its, n, h, hc, _⟩
      · exact .base (.tup (s _ _ h))
      · exact .fTuple (s _ _ h)
      · exact .kTuple h hc
    | scr h => exact absurd rfl (hd _)
  · cases κ with
    | l => obtain ⟨xs, ds, rfl, h1, _⟩ := h; exact .base (.lst h1)
    | k => obtain ⟨_, ps, rfl, _⟩ := h; exact absurd rfl (hd _)
    | t => obtain ⟨_, ps, rfl, _⟩ := h; exact absurd rfl (hd _)
theorem de_isI {x : Str} {y : Str} (hg : Gl X x) (hm : X.mg x = none) (hv : bootBuiltins x = some (.builtin "isinstance")) (hg2 : Gl X y) (hm2 : X.mg y = none) (hv2 : bootBuiltins y = some (.type T)) (ha : DE X e da)
    (hn : x ≠ "__name__" := by decide) (hdb : (x == ("__debug__" : Str)) = false := by decide) (hn2 : y ≠ "__name__" := by decide) (hdb2 : (y == ("__debug__" : Str)) = false := by decide)
    (he : starEach [e, .Name y p2] X.env = (false, eval e X.env) :: starEach [.Name y p2] X.env := by rfl) (he2 : starEach [.Name y p2] X.env = (false, eval (.Name y p2) X.env) :: starEach [] X.env := by rfl) (hpl : (backTo pos (starEach [.Name y p2] X.env)).any (·.1) = false := by rfl) :
    DE X (.Call (.Name x p) [e, .Name y p2] [] pos) (dIsI T da) :=
  PE.le (pe_callB call_isi hg hm hv (pa_cons ha (pa_cons (pe_bltn (v := .ty T) hg2 hm2 hv2 rfl hn2 hdb2) pa_nil he2) he) hn hdb he hpl) fun σ H Q ⟨F, ρ, k, S, q, fin⟩ => ⟨F, ρ, _, S, q, fun r ρ1 v F1 H1 q S1 T1 f => by
    obtain ⟨d, rd, q⟩ := wc_rd S1 f q
    split at q
    · rename_i b e0
      have hd : ∀ ps, d ≠ .dict ps := fun ps z => by subst z; unfold isT at e0; cases e0
      refine ⟨v, .ty T, .type (tyS d), .type T, b, rfl, .ty T, rd_ty S1.sub rd hd, kit_ty ?_, fin _ _ _ _ _ q S1 T1 (.bl b)⟩
      unfold isT at e0
      split at e0
      · cases e0
      · exact e0
    · exact q.elim⟩
/-- repr of an int, of a text -/
@[simp] def gRepr : List D → (Res → Prop) → Prop
  | [.int i], k => i.natAbs.log2 < 1920 ∧ k (.fz (.str (toString i)))
  | [.str z], k => (reprText z).length ≤ sizeLine ∧ k (.fz (.str (reprText z)))
  | [.bool b], k => k (.fz (.str (if b = true then "True" else "False")))
  | _, _ => False
theorem call_repr_str : CallR X (.builtin "repr") (fun xs H Q => ∃ i, xs = [.str i] ∧ (reprText i).length ≤ sizeLine ∧ Q (.str (reprText i)) H) := by
  intro pins s σ H xs us Q I r h
  obtain ⟨i, rfl, hz, q⟩ := h
  obtain ⟨u, rfl, t, rfl⟩ := vals1 r
  exact PySem.P.repr_of_str ⟨.str _, H, I.tok _, ⟨_, rfl⟩, q⟩ hz
/-! ### is True, is False -/
theorem cr_gRepr : CallR X (.builtin "repr") (rn X.K gRepr) := by
  intro pins s σ H xs us Q I r ⟨F, ds, k, se, rd, g, fin⟩
  unfold gRepr at g
  split at g
  · obtain ⟨v, rfl, h⟩ := rd.one
    cases h.int
    exact SkE.call_repr_int pins s σ H _ us Q I r ⟨_, rfl, g.1, r2_val se g.2 fin (.str _)⟩
  · obtain ⟨v, rfl, h⟩ := rd.one
    cases h.str
    exact call_repr_str pins s σ H _ us Q I r ⟨_, rfl, g.1, r2_val se g.2 fin (.str _)⟩
  · rename_i b
    obtain ⟨v, rfl, h⟩ := rd.one
    cases h.bool
    obtain ⟨u, rfl, ru⟩ := vals1 r
    cases (show u = Value.bool b from ru)
    exact PySem.P.repr_of_bool ⟨.str _, H, I.tok _, by cases b <;> exact ⟨_, rfl⟩, r2_val se g fin (.str _)⟩
  · exact g.elim
theorem val_isB {v : V} {u : Value} {b : Bool} (r : RelV v u) (hv : ∀ c, v ≠ .bl c) : plainIs u (.bool b) = true ∧ u ≠ .bool b := by
  cases v with
  | non => cases (show u = Value.none from r); exact ⟨rfl, fun z => by cases z⟩
  | bl c => exact absurd rfl (hv c)
  | int i => obtain ⟨t, q⟩ := (show ∃ t, u = Value.int i t from r); cases q; exact ⟨rfl, fun z => by cases z⟩
  | str i => obtain ⟨t, q⟩ := (show ∃ t, u = Value.str i t from r); cases q; exact ⟨rfl, fun z => by cases z⟩
  | byt i => obtain ⟨t, q⟩ := (show ∃ t, u = Value.bytes i t from r); cases q; exact ⟨rfl, fun z => by cases z⟩
  | flt i => obtain ⟨t, q⟩ := (show ∃ t, u = Value.float i t from r); cases q; exact ⟨rfl, fun z => by cases z⟩
  | ref a => cases (show u = Value.ref a from r); exact ⟨rfl, fun z => by cases z⟩
  | ty n => cases (show u = Value.type n from r); exact ⟨rfl, fun z => by cases z⟩
@[simp] def isBl (d : D) (b : Bool) : Bool := match d with | .bool c => c == b | _ => false
@[simp] def gIs : D → D → (Res → Prop) → Prop
  | d, .bool b, k => k (.fz (.bool (isBl d b)))
  | _, _, _ => False
@[simp] def gIsNot : D → D → (Res → Prop) → Prop
  | d, .bool b, k => k (.fz (.bool (!isBl d b)))
  | _, _, _ => False
theorem RdAt.notB {K : PySem.W.Frag} {F H : Hp} {v : V} {d : D} (h : RdAt K F H v d) (hd : ∀ c, d ≠ .bool c) : ∀ c, v ≠ .bl c := by
  intro c e
  subst e
  rcases h with h | ⟨κ, a, e, _⟩
  · cases h; exact hd _ rfl
  · cases e
theorem op_gIs : OpR X (compareOp .Is) (r2 X.K gIs) := by
  intro pins s σ H x y v u Q I rx ry ⟨F, dx, dy, k, se, hx, hy, g, fin⟩
  unfold gIs at g
  split at g
  · rename_i b
    cases hy.bool
    cases (show u = Value.bool b from ry)
    have go : ∀ c, c = isBl dx b → EP X pins σ Q (.bool c) s := fun c hc => ⟨.bl c, H, I, rfl, r2_val se g fin (by rw [hc]; exact .bl _)⟩
    by_cases hb : ∃ c, dx = .bool c
    · obtain ⟨c, rfl⟩ := hb
      cases hx.bool
      cases (show v = Value.bool c from rx)
      by_cases e : c = b
      · subst e
        exact wpAny_is_self rfl (go true (by simp [isBl]))
      · exact wpAny_is_other rfl (fun z => e (Value.bool.inj z)) (go false (by simp [isBl, e]))
    · obtain ⟨h1, h2⟩ := val_isB (b := b) rx (hx.notB fun c z => hb ⟨c, z⟩)
      refine wpAny_is_other h1 h2 (go false ?_)
      cases dx with
      | bool c => exact absurd ⟨c, rfl⟩ hb
      | _ => rfl
  · exact g.elim
theorem op_gIsNot : OpR X (compareOp .IsNot) (r2 X.K gIsNot) := by
  intro pins s σ H x y v u Q I rx ry ⟨F, dx, dy, k, se, hx, hy, g, fin⟩
  unfold gIsNot at g
  split at g
  · rename_i b
    cases hy.bool
    cases (show u = Value.bool b from ry)
    have go : ∀ c, c = !isBl dx b → EP X pins σ Q (.bool c) s := fun c hc => ⟨.bl c, H, I, rfl, r2_val se g fin (by rw [hc]; exact .bl _)⟩
    by_cases hb : ∃ c, dx = .bool c
    · obtain ⟨c, rfl⟩ := hb
      cases hx.bool
      cases (show v = Value.bool c from rx)
      by_cases e : c = b
      · subst e
        exact wpAny_isNot_self rfl (go false (by simp [isBl]))
      · exact wpAny_isNot_other rfl (fun z => e (Value.bool.inj z)) (go true (by simp [isBl, e]))
    · obtain ⟨h1, h2⟩ := val_isB (b := b) rx (hx.notB fun c z => hb ⟨c, z⟩)
      refine wpAny_isNot_other h1 h2 (go true ?_)
      cases dx with
      | bool c => exact absurd ⟨c, rfl⟩ hb
      | _ => rfl
  · exact g.elim
/-! ### the script -/
@[simp] def gLenS : List D → (Res → Prop) → Prop
  | [.dict [(.list ds, .none)]], k => ∃ ns, intsOf ds = some ns ∧ k (.fz (.int ns.length))
  | _, _ => False
theorem RdAt.scr {K : PySem.W.Frag} {F H : Hp} {v : V} {ns : List Int} (s : Ex F H) (h : RdAt K F H v (scrD ns)) (hn : ∀ κ a, ¬ OwAt K F H κ a (scrD ns)) : ∃ a, v = .ref a ∧ SqL K H a (ns.map V.int) := by
  rcases h with h | ⟨κ, a, _, h⟩
  · obtain ⟨a, ms, e1, e2, h'⟩ := scr_get (H := H) h
    rw [e2] at h'
    exact ⟨a, e1, ex_l s h'⟩
  · exact absurd h (hn κ a)
theorem no_ow {K : PySem.W.Frag} {F H : Hp} {κ : Kd} {a : Addr} {ns : List Int} : ¬ OwAt K F H κ a (scrD ns) := fun h => by
  cases κ with
  | l => obtain ⟨_, _, e, _⟩ := h; cases e
  | k =>
    obtain ⟨kvs, ps, e, _, h⟩ := h
    unfold scrD at e
    cases e
    cases h with | cons h1 _ =>
      have h1 := h1.1
      revert h1
      generalize (_ : Key × V).1 = k
      intro h1
      cases k <;> cases h1
  | t =>
    obtain ⟨kvs, ps, e, _, h⟩ := h
    unfold scrD at e
    cases e
    cases h with | cons h1 _ => exact absurd h1.1 (by intro z; cases z)
theorem cr_gLenS : CallR X (.builtin "len") (rn X.K gLenS) := by
  intro pins s σ H xs us Q I r ⟨F, ds, k, se, rd, g, fin⟩
  unfold gLenS at g
  split at g
  · obtain ⟨ns, e, g⟩ := g
    cases intsOf_eq e
    obtain ⟨v, rfl, h⟩ := rd.one
    obtain ⟨a, rfl, h1⟩ := RdAt.scr se h fun _ _ => no_ow
    exact call_len_seq pins s σ H _ us Q I r ⟨a, _, rfl, .inl h1, by rw [List.length_map]; exact r2_val se g fin (.int _)⟩
  · exact g.elim
@[simp] def gIxS : D → D → (Res → Prop) → Prop
  | .dict [(.list ds, .none)], .int i, k => ∃ ns, intsOf ds = some ns ∧ ∃ n, atI ns i = some n ∧ k (.fz (.int n))
  | _, _, _ => False
theorem atI_map {α β : Type} {f : α → β} {xs : List α} {i : Int} {n : α} (h : atI xs i = some n) : atI (xs.map f) i = some (f n) := by
  unfold atI at h ⊢
  rw [List.length_map]
  cases hj : ixN xs.length i with
  | none => rw [hj] at h; cases h
  | some j =>
    rw [hj] at h
    show (xs.map f)[j]? = _
    rw [List.getElem?_map, show xs[j]? = some n from h]
    rfl
theorem de_ixS {a b : Expr} (ha : DE X a da) (hb : DE X b db) (hs : PlainIx b := by intro _ _; rfl) : DE X (.Subscript a b pos) (dBin gIxS da db) :=
  PE.le (pe_ix ix_list ha hb hs) fun σ H Q ⟨F, ρ, k, S, q, fin⟩ => up2 S q fun x y ρ' v u F' H' q S' T f1 f2 => by
    obtain ⟨dx, r1, q⟩ := wc_rd S' f1 q
    obtain ⟨dy, r2', q⟩ := wc_rd S' f2 q
    unfold gIxS at q
    split at q
    · obtain ⟨ns, e, n, hn, q9⟩ := q
      cases intsOf_eq e
      obtain ⟨a, rfl, h1⟩ := RdAt.scr S'.sub r1 fun _ _ => no_ow
      cases r2'.int
      exact ⟨a, _, _, _, rfl, rfl, h1, atI_map hn, fin _ _ _ _ _ q9 S' T (.int _)⟩
    · exact q.elim
/-! ### x[i] op= e: x a name that owns a list -/
def rGetL (K : PySem.W.Frag) : V → V → Hp → VK → Prop := fun o i H Q => ∃ a xs n z, o = .ref a ∧ i = .int n ∧ SqL K H a xs ∧ atI xs n = some z ∧ Q z H
theorem get_list : PGet X (rGetL X.K) := by
  intro pins s σ H o i ov iv Q I ro ri h
  obtain ⟨p, xs, i, z, rfl, rfl, hq, he, q⟩ := h
  cases ro
  obtain ⟨t, rfl⟩ := ri
  obtain ⟨its, r, pl, hz⟩ := I.list hq
  obtain ⟨j, h1, h2, h3, h4, h5⟩ := atI_get he
  obtain ⟨w, ew, rw'⟩ := r.get h2
  have hl := r.length
  have hn := line63
  have fin : EP X pins σ Q w s := ⟨z, H, I, rw', q⟩
  by_cases h0 : 0 ≤ i
  · have hj : i.toNat = j := by
      rw [seqIndex_of h0 h5] at h1
      exact Option.some.inj h1
    exact wpAny_getItem_list pl.isList h0 (by omega) (by simpa [hj] using ew) fin
  · have hj : (i + (its.toArray.size : Int)).toNat = j := by
      rw [seqIndex_neg (by omega) h4] at h1
      rw [List.size_toArray, ← hl]
      exact Option.some.inj h1
    exact wpAny_getItem_list_neg pl.isList (by omega) (by rw [List.size_toArray] <;> omega) (by omega) (by rw [hj]; simpa using ew) fin
@[simp] def dAugI (i : Nat) (f : Int → Int → Int) (di da : DTE) : DTS := fun E ρ => isOl ρ i ∧ di ρ fun rj ρ1 => wc rj ρ1 fun dj => match dj, ρ1[i]? with
  | .int j, some (.ow _ .l (.list ds)) => ∃ n, atI ds j = some (.int n) ∧ da ρ1 fun r ρ2 => wc r ρ2 fun d => match d, ρ2[i]? with
    | .int m, some (.ow t .l (.list es)) => ∃ jj, ixN es.length j = some jj ∧ E.nx (ρ2.set i (.ow t .l (.list (es.set jj (.int (f n m))))))
    | _, _ => False
  | _, _ => False
theorem ds_augI {o ix : Expr} {pos tpos : Pos} {op : Operator} {i : Nat} {f : Int → Int → Int} {di : DTE} (ho : DE X o (dName i)) (hi : DE X ix di) (he : DE X e da) (hp : PIp X op (ipI f)) 
    (ha : ∀ ov iv new, augStore ix ov iv new = (do holding [new, ov, iv] (setItem ov iv new); release [new, ov, iv] []; pure .next) := by intros; rfl) : DS X (.AugAssign (.Subscript o ix tpos) op e pos) (dAugI i f di da) :=
  PS.le (ps_augS ho hi get_list he hp set_list ha) fun E σ H ⟨F, ρ, G, S, ⟨q0, q⟩, f1, f2, f3, f4⟩ => by
    obtain ⟨t, d, e0⟩ := isOl_get q0
    refine ⟨F, ρ, fun r' ρ' => r' = .bo i ∧ ρ' = ρ, S, by unfold dName; rw [e0]; exact ⟨rfl, rfl⟩, fun r' ρ1' w F1 H1 q1 S1 T1 g1 => ?_⟩
    obtain ⟨rfl, rfl⟩ := q1
    have g1 : σ[i]? = some (some w) := g1
    refine ⟨F1, _, _, S1, q, fun rj ρ1 v F2 H2 q S2 T2 fj => ?_⟩
    obtain ⟨dj, rd, q⟩ := wc_rd S2 fj q
    split at q
    · rename_i j t' ds e2
      cases rd.int
      obtain ⟨n, hn, q⟩ := q
      obtain ⟨a, g3, ⟨xs, _, hd, h1, h2⟩, _⟩ := S2.ow i _ _ _ e2
      cases hd
      rw [g1] at g3; cases g3
      obtain ⟨z, ez, dz⟩ := atI_dp h2 hn
      cases dz
      refine ⟨a, xs, j, _, rfl, rfl, Evl.sq_of h1, ez, F2, ρ1, _, S2, q, fun r ρ2 u F3 H3 q S3 T3 f' => ?_⟩
      obtain ⟨d, rd', q⟩ := wc_rd S3 f' q
      split at q
      · rename_i m t2 es e3
        cases rd'.int
        obtain ⟨jj, hj, q⟩ := q
        refine ⟨n, m, rfl, rfl, ?_⟩
        obtain ⟨a', g3, ⟨ys, _, hd, h3, h4⟩, _⟩ := S3.ow i _ _ _ e3
        cases hd
        rw [g1] at g3; cases g3
        refine ⟨a, ys, j, jj, rfl, rfl, h3, by rw [dpAll_len h4]; exact hj, ?_⟩
        obtain ⟨S5, T5⟩ := S3.updOwn e3 g1 (fun b hb => upd_ne hb) (show OwAt X.K F3 (upd H3 a (.lst (ys.set jj (.int (f n m))))) .l a (.list (es.set jj (.int (f n m)))) from ⟨_, _, rfl, upd_same, dpAll_set (.int _) jj h4⟩)
        exact f1 _ _ _ _ q S5 (T1.trans (T2.trans (T3.trans T5))).toTr
      · exact q.elim
    · exact q.elim
end
end TL

-- part TL15
/-! TL15: more tests, op=, callees without a promise. -/
namespace TL
open PySem PySem.Spec L2
open Evl (Ex ex_l ex_t)
variable [Lay]
section
variable {X : Cx} {a b c e : Expr} {es : List Expr} {da db dc : DTE} {p p2 pos : Pos} {T : String}
theorem dt_isN {j pos'} (ha : DE X a da) : DT X (.Compare a [.Is] [.Constant .none j pos'] pos) (dTest (dUn gIsN da)) :=
  PT.le (pt_cmp (pc_isN ha) rfl) fun σ H Q h => by
    obtain ⟨F, ρ, k, S, q, fin⟩ := h
    refine ⟨F, ρ, _, S, q, fun x ρ1 v F1 H1 q1 S1 T1 f1 => ?_⟩
    obtain ⟨dx, r1, q1⟩ := wc_rd S1 f1 q1
    rw [r1.non_iff]
    exact ⟨_, rfl, fin _ _ _ _ q1 S1 T1⟩
theorem dt_notN {j pos'} (ha : DE X a da) : DT X (.Compare a [.IsNot] [.Constant .none j pos'] pos) (dTest (dUn gNotN da)) :=
  PT.le (pt_cmp (pc_notN ha) rfl) fun σ H Q h => by
    obtain ⟨F, ρ, k, S, q, fin⟩ := h
    refine ⟨F, ρ, _, S, q, fun x ρ1 v F1 H1 q1 S1 T1 f1 => ?_⟩
    obtain ⟨dx, r1, q1⟩ := wc_rd S1 f1 q1
    rw [r1.non_iff]
    exact ⟨_, rfl, fin _ _ _ _ q1 S1 T1⟩
theorem dt_chain {op op' : CmpOp} {g g' : D → D → (Res → Prop) → Prop} (ho : OpR X (compareOp op) (r2 X.K g)) (ho' : OpR X (compareOp op') (r2 X.K g')) (ha : DE X a da) (hb : DE X b db) (hc : DE X c dc)
    (hm : lastMarks [op, op'] [b, c] = false := by with_unfolding_all rfl) : DT X (.Compare a [op, op'] [b, c] pos) (dTest (dChain g g' da db dc)) :=
  PT.le (pt_chain ho ho' ha hb hc hm) fun σ H Q h => by
    obtain ⟨F, ρ, k, S, q, fin⟩ := up_test h
    refine up2 S q fun x y ρ1 v u F1 H1 q S1 T1 f1 f2 => ?_
    obtain ⟨dx, r1, q⟩ := wc_rd S1 f1 q
    obtain ⟨dy, r2, q⟩ := wc_rd S1 f2 q
    refine ⟨F1, dx, dy, _, S1.sub, r1, r2, q, fun z w F2 H2 kz n => ?_⟩
    have S2 := n.sta S1
    have T2 := T1.trans n.tr
    have f3 := n.fit
    split at kz
    · rename_i bb
      have f3 : Dp X.K F2 w (.bool bb) := f3
      cases f3
      refine ⟨bb, rfl, ?_⟩
      cases bb with
      | true =>
        refine ⟨F2, ρ1, _, S2, kz, fun z ρ3 w3 F3 H3 q3 S3 T3 f4 => ?_⟩
        exact op2_fin q3 S3 (T2.trans T3) ((f2.later n.tr.toTr).later T3.toTr) (f4.back fun _ z => T2.none z) fin
      | false => exact fin _ _ _ _ _ kz S2 T2 (.bl false)
    · exact kz.elim
@[simp] def gSubI : D → D → (Res → Prop) → Prop
  | .int a, .int b, k => k (.fz (.int (a - b)))
  | _, _, _ => False
theorem op_gSubI : OpR X (inplaceOp .Sub) (r2 X.K gSubI) := by
  intro pins s σ H x y v u Q I rx ry ⟨F, dx, dy, k, se, hx, hy, g, fin⟩
  unfold gSubI at g
  split at g
  · rename_i a b
    cases hx.int; cases hy.int
    exact iop_sub pins s σ H _ _ v u Q I rx ry ⟨a, b, rfl, rfl, r2_val se g fin (.int _)⟩
  · exact g.elim
@[simp] def gMulI : D → D → (Res → Prop) → Prop
  | .int a, .int b, k => okMul a b ∧ k (.fz (.int (a * b)))
  | _, _, _ => False
theorem op_gMulI : OpR X (inplaceOp .Mult) (r2 X.K gMulI) := by
  intro pins s σ H x y v u Q I rx ry ⟨F, dx, dy, k, se, hx, hy, g, fin⟩
  unfold gMulI at g
  split at g
  · rename_i a b
    cases hx.int; cases hy.int
    exact iop_mul pins s σ H _ _ v u Q I rx ry ⟨a, b, rfl, rfl, g.1, r2_val se g.2 fin (.int _)⟩
  · exact g.elim
@[simp] def gFdivI : D → D → (Res → Prop) → Prop
  | .int a, .int b, k => (0 < b ∧ b < 1073741824) ∧ k (.fz (.int (a / b)))
  | _, _, _ => False
theorem op_gFdivI : OpR X (inplaceOp .FloorDiv) (r2 X.K gFdivI) := by
  intro pins s σ H x y v u Q I rx ry ⟨F, dx, dy, k, se, hx, hy, g, fin⟩
  unfold gFdivI at g
  split at g
  · rename_i a b
    cases hx.int; cases hy.int
    exact iop_fdiv pins s σ H _ _ v u Q I rx ry ⟨a, b, rfl, rfl, g.1, r2_val se g.2 fin (.int _)⟩
  · exact g.elim
/-- texts -/
@[simp] def gEqS : D → D → (Res → Prop) → Prop
  | .str a, .str b, k => k (.fz (.bool (decide (a = b))))
  | _, _, _ => False
theorem op_gEqS : OpR X (compareOp .Eq) (r2 X.K gEqS) := by
  intro pins s σ H x y v u Q I rx ry ⟨F, dx, dy, k, se, hx, hy, g, fin⟩
  unfold gEqS at g
  split at g
  · rename_i a b
    cases hx.str; cases hy.str
    have e : decide (V.str a = V.str b) = decide (a = b) := by simp
    exact op_eq pins s σ H _ _ v u Q I rx ry ⟨rfl, by rw [e]; exact r2_val se g fin (.bl _)⟩
  · exact g.elim
@[simp] def gNeS : D → D → (Res → Prop) → Prop
  | .str a, .str b, k => k (.fz (.bool (!decide (a = b))))
  | _, _, _ => False
theorem op_gNeS : OpR X (compareOp .NotEq) (r2 X.K gNeS) := by
  intro pins s σ H x y v u Q I rx ry ⟨F, dx, dy, k, se, hx, hy, g, fin⟩
  unfold gNeS at g
  split at g
  · rename_i a b
    cases hx.str; cases hy.str
    have e : decide (V.str a = V.str b) = decide (a = b) := by simp
    exact op_ne pins s σ H _ _ v u Q I rx ry ⟨rfl, by rw [e]; exact r2_val se g fin (.bl _)⟩
  · exact g.elim
end
section
variable {P : Program} {w : World} {K : PySem.W.Frag} {mg : Str → Option Value} {base : Heap}
theorem cal_no {x : Str} {st : Stmt} {f : Addr} {fd : FuncData} {ps : List Str} {ms : List Md} (Fu : Fun K x x st f fd) (hm : mg x = some (.ref f)) (hb0 : Binds K fd ps []) : Cal P w K mg base 0 x ms (fun _ _ => False) :=
  ⟨f, fd, ps, ⟨fun vs H Q E h => by obtain ⟨_, _, _, _, _, _, _, h, _⟩ := h; exact h.elim, fun A outer s H args us vs Q E hr he hb hv h => by obtain ⟨_, _, _, _, _, _, _, h, _⟩ := h; exact h.elim⟩, hm, Fu.kp, hb0⟩
theorem Cal.imp {k : Nat} {x : Str} {ms : List Md} {ts ts' : TSp} (C : Cal P w K mg base k x ms ts) (h : ∀ ds k, ts' ds k → ts ds k) : Cal P w K mg base k x ms ts' := by
  obtain ⟨f, fd, ps, F, r⟩ := C.ex
  exact ⟨f, fd, ps, F.imp fun vs H Q E ⟨F, ds, k, a, b, c, t, d, e⟩ => ⟨F, ds, k, a, b, c, t, h _ _ d, e⟩, r⟩
end
end TL

-- part TL16
/-! TL16: loops and comprehensions by invariants. -/
namespace TL
open PySem PySem.Spec L2
variable [Lay]
section
variable {g : DTG} {s : DTS} {E : DEnds} {t : DTT} {tt : DTT} {te : DTE} {src : List (Nat × D)} {vs : List Nat} {k : List D → List Slot → Prop}
theorem loop_ind {items : List D} {ρ : List Slot} (I : List D → List D → List Slot → Prop) (h0 : I [] items ρ) (hnil : ∀ ρ, I items [] ρ → E.nx ρ)
    (hcons : ∀ done d rest ρ, items = done ++ d :: rest → I done (d :: rest) ρ → (∀ ρ', I (done ++ [d]) rest ρ' → dLoop g s E rest ρ') → g d ρ fun ρ1 => s { nx := dLoop g s E rest, rt := E.rt, bk := E.nx, ct := dLoop g s E rest } ρ1) : dLoop g s E items ρ := by
  have key : ∀ rest done ρ, items = done ++ rest → I done rest ρ → dLoop g s E rest ρ := fun rest => by
    induction rest with
    | nil => intro done ρ e h; rw [List.append_nil] at e; subst e; exact hnil ρ h
    | cons d rest ih => exact fun done ρ e h => hcons done d rest ρ e h fun ρ' h' => ih (done ++ [d]) ρ' (by rw [e]; simp) h'
  exact key items [] ρ rfl h0
theorem comp_ind {items : List D} {ρ : List Slot} (I : List D → List D → List D → List Slot → Prop) (h0 : I [] [] items ρ) (hnil : ∀ acc ρ, I acc items [] ρ → stl src ρ ∧ k acc ρ)
    (hcons : ∀ acc done d rest ρ, items = done ++ d :: rest → I acc done (d :: rest) ρ → (∀ acc' ρ', I acc' (done ++ [d]) rest ρ' → dCompL g tt te src vs k rest acc' ρ') → stl src ρ ∧ g d ρ fun ρ1 => tt ρ1 fun b ρ2 => if b = true then te ρ2 fun r ρ3 => fzR r ρ3 fun v ρ4 => acc.length < sizeLine ∧ dCompL g tt te src vs k rest (acc ++ [v]) (wipeR ρ4 vs)
      else dCompL g tt te src vs k rest acc (wipeR ρ2 vs)) : dCompL g tt te src vs k items [] ρ := by
  have key : ∀ rest done acc ρ, items = done ++ rest → I acc done rest ρ → dCompL g tt te src vs k rest acc ρ := fun rest => by
    induction rest with
    | nil => intro done acc ρ e h; rw [List.append_nil] at e; subst e; exact hnil acc ρ h
    | cons d rest ih => exact fun done acc ρ e h => hcons acc done d rest ρ e h fun acc' ρ' h' => ih (done ++ [d]) acc' ρ' (by rw [e]; simp) h'
  exact key items [] [] ρ rfl h0
theorem comp_pure {items : List D} {ρ : List Slot} (p : D → Bool) (f : D → D) (hl : items.length ≤ sizeLine) (hs : stl src ρ)
    (step : ∀ d, d ∈ items → ∀ (kk : D → List Slot → Prop) (kn : List Slot → Prop), (p d = true → kk (f d) ρ) → (p d = false → kn ρ) → g d ρ fun ρ1 => tt ρ1 fun b ρ2 => if b = true then te ρ2 fun r ρ3 => fzR r ρ3 fun v ρ4 => kk v (wipeR ρ4 vs) else kn (wipeR ρ2 vs))
    (fin : k ((items.filter p).map f) ρ) : dCompL g tt te src vs k items [] ρ := by
  refine comp_ind (fun acc done rest ρ' => ρ' = ρ ∧ acc = (done.filter p).map f) ⟨rfl, rfl⟩ (fun acc ρ' ⟨e, e'⟩ => by rw [e, e']; exact ⟨hs, fin⟩) fun acc done d rest ρ' he ⟨e, e'⟩ ih => ?_
  subst e
  refine ⟨hs, step d (by rw [he]; simp) (fun v ρ4 => acc.length < sizeLine ∧ dCompL g tt te src vs k rest (acc ++ [v]) ρ4) (fun ρ2 => dCompL g tt te src vs k rest acc ρ2) (fun hp => ⟨?_, ih _ _ ⟨rfl, ?_⟩⟩) fun hp => ih _ _ ⟨rfl, ?_⟩⟩
  · rw [e', List.length_map]
    have h1 := List.length_filter_le p done
    have h2 : items.length = done.length + (rest.length + 1) := by rw [he]; simp
    omega
  · rw [e', List.filter_append, List.map_append]; simp [hp]
  · rw [e', List.filter_append, List.map_append]; simp [hp]
theorem comp_of {α : Type} {items : List D} {ρ : List Slot} {l : List α} {c : α → D} (he : items = l.map c) (p : α → Bool) (f : α → D) (hl : l.length ≤ sizeLine) (hs : stl src ρ)
    (step : ∀ x, x ∈ l → ∀ (kk : D → List Slot → Prop) (kn : List Slot → Prop), (p x = true → kk (f x) ρ) → (p x = false → kn ρ) → g (c x) ρ fun ρ1 => tt ρ1 fun b ρ2 => if b = true then te ρ2 fun r ρ3 => fzR r ρ3 fun v ρ4 => kk v (wipeR ρ4 vs) else kn (wipeR ρ2 vs))
    (fin : k ((l.filter p).map f) ρ) : dCompL g tt te src vs k items [] ρ := by
  subst he
  have key : ∀ (rest done : List α), l = done ++ rest → dCompL g tt te src vs k (rest.map c) ((done.filter p).map f) ρ := fun rest => by
    induction rest with
    | nil => intro done e; rw [List.append_nil] at e; subst e; exact ⟨hs, fin⟩
    | cons x rest ih =>
      intro done e
      have n : dCompL g tt te src vs k (rest.map c) (((done ++ [x]).filter p).map f) ρ := ih (done ++ [x]) (by rw [e]; simp)
      refine ⟨hs, step x (by rw [e]; simp) (fun v ρ4 => ((done.filter p).map f).length < sizeLine ∧ dCompL g tt te src vs k (rest.map c) ((done.filter p).map f ++ [v]) ρ4) (fun ρ2 => dCompL g tt te src vs k (rest.map c) ((done.filter p).map f) ρ2) (fun hp => ⟨?_, ?_⟩) fun hp => ?_⟩
      · rw [List.length_map]
        have h1 := List.length_filter_le p done
        have h2 : l.length = done.length + (rest.length + 1) := by rw [e]; simp
        omega
      · rw [List.filter_append, List.map_append] at n
        simpa [hp] using n
      · rw [List.filter_append, List.map_append] at n
        simpa [hp] using n
  exact key l [] rfl
/-- no test, ints -/
theorem comp_ints {α : Type} {items : List D} {ρ : List Slot} {l : List α} {c : α → D} (he : items = l.map c) (f : α → Int) (hl : l.length ≤ sizeLine) (hs : stl src ρ)
    (step : ∀ x, x ∈ l → ∀ (kk : D → List Slot → Prop), kk (.int (f x)) ρ → g (c x) ρ fun ρ1 => te ρ1 fun r ρ3 => fzR r ρ3 fun v ρ4 => kk v (wipeR ρ4 vs))
    (fin : k ((l.map f).map .int) ρ) : dCompL g dYes te src vs k items [] ρ := by
  refine comp_of he (fun _ => true) (fun x => .int (f x)) hl hs (fun x hx kk kn hk _ => step x hx kk (hk rfl)) ?_
  rw [List.filter_eq_self.mpr fun _ _ => rfl]
  rw [List.map_map] at fin
  exact fin
/-- a test, ints -/
theorem comp_fints {α : Type} {items : List D} {ρ : List Slot} {l : List α} {c : α → D} (he : items = l.map c) (p : α → Bool) (f : α → Int) (hl : l.length ≤ sizeLine) (hs : stl src ρ)
    (step : ∀ x, x ∈ l → ∀ (kk : D → List Slot → Prop) (kn : List Slot → Prop), (p x = true → kk (.int (f x)) ρ) → (p x = false → kn ρ) → g (c x) ρ fun ρ1 => tt ρ1 fun b ρ2 => if b = true then te ρ2 fun r ρ3 => fzR r ρ3 fun v ρ4 => kk v (wipeR ρ4 vs) else kn (wipeR ρ2 vs))
    (fin : k (((l.filter p).map f).map .int) ρ) : dCompL g tt te src vs k items [] ρ := by
  refine comp_of he p (fun x => .int (f x)) hl hs step ?_
  rw [List.map_map] at fin
  exact fin
theorem while_ind {ρ : List Slot} (I : Nat → List Slot → Prop) (h0 : ∃ m, I m ρ)
    (step : ∀ m ρ (kk : List Slot → Prop), I m ρ → (∀ ρ' m', m' < m → I m' ρ' → kk ρ') → t ρ fun b ρ1 => if b = true then s { nx := kk, rt := E.rt, bk := E.nx, ct := kk } ρ1 else E.nx ρ1) : dWhile t s E ρ := by
  have key : ∀ n m ρ, I m ρ → m < n → dWhileN t s E n ρ := fun n => by
    induction n with
    | zero => intro m ρ _ h; omega
    | succ n ih => exact fun m ρ h hm => step m ρ _ h fun ρ' m' h1 h2 => ih m' ρ' h2 (by omega)
  obtain ⟨m, h⟩ := h0
  exact ⟨m + 1, key _ m ρ h (Nat.lt_succ_self m)⟩
end
end TL

-- part TL17
/-! TL17: small words for the pure proofs. -/
namespace TL
open PySem PySem.Spec L2
variable [Lay]
theorem ifd {c A B : Prop} [Decidable c] (h1 : c → A) (h2 : ¬ c → B) : if decide c = true then A else B := by
  by_cases h : c
  · rw [if_pos (decide_eq_true h)]; exact h1 h
  · rw [if_neg (by simpa using h)]; exact h2 h
theorem ifnd {c A B : Prop} [Decidable c] (h1 : ¬ c → A) (h2 : c → B) : if (!decide c) = true then A else B := by
  by_cases h : c
  · rw [if_neg (by simpa using h)]; exact h2 h
  · rw [if_pos (by simpa using h)]; exact h1 h
theorem ifb {b : Bool} {A B : Prop} (h1 : b = true → A) (h2 : b = false → B) : if b = true then A else B := by
  cases b with
  | true => exact h1 rfl
  | false => exact h2 rfl
theorem ifnb {b : Bool} {A B : Prop} (h1 : b = false → A) (h2 : b = true → B) : if (!b) = true then A else B := by
  cases b with
  | true => exact h2 rfl
  | false => exact h1 rfl
theorem atI_of {α : Type} {xs : List α} {i : Int} {d : α} (h0 : 0 ≤ i) (h : xs[i.toNat]? = some d) : atI xs i = some d := by
  have hl := (List.getElem?_eq_some_iff.mp h).1
  unfold atI ixN
  rw [if_pos h0, if_pos (by omega)]
  exact h
theorem atI_ints {ns : List Int} {i : Int} {n : Int} (h0 : 0 ≤ i) (h : ns[i.toNat]? = some n) : atI (ns.map PyData.int) i = some (.int n) :=
  atI_of h0 (by rw [List.getElem?_map, h]; rfl)
theorem ixN_of {n : Nat} {i : Int} (h0 : 0 ≤ i) (h : i < n) : ixN n i = some i.toNat := by
  unfold ixN
  rw [if_pos h0, if_pos h]
theorem get_lt {ns : List Int} {i : Int} (h0 : 0 ≤ i) (h : i < ns.length) : ∃ n, ns[i.toNat]? = some n ∧ n ∈ ns := by
  have hl : i.toNat < ns.length := by omega
  exact ⟨_, List.getElem?_eq_getElem hl, List.getElem_mem hl⟩
/-- behind a statement any state that fits M -/
theorem seq_join {s u : DTS} {E : DEnds} {ρ : List Slot} (M : List Slot → Prop) (hs : ∀ kk : List Slot → Prop, (∀ ρ, M ρ → kk ρ) → s { E with nx := kk } ρ) (hu : ∀ ρ, M ρ → u E ρ) : dSeq s u E ρ := hs _ hu
theorem seq_to {s u : DTS} {E : DEnds} {ρ : List Slot} (ρ' : List Slot) (hs : ∀ kk : List Slot → Prop, kk ρ' → s { E with nx := kk } ρ) (hu : u E ρ') : dSeq s u E ρ := hs _ hu
theorem okio0 {ms : List Md} {rs : List Res} {ρ : List Slot} (h : idx ms rs = []) : okIo ms rs ρ := by
  unfold okIo
  rw [h]
  exact ⟨List.nodup_nil, fun _ _ => List.not_mem_nil, fun _ z => absurd z List.not_mem_nil⟩
theorem okio1 {ms : List Md} {rs : List Res} {ρ : List Slot} {i : Nat} (h : idx ms rs = [i]) (h2 : i ∉ rbo ms rs) (h3 : isOw ρ i) : okIo ms rs ρ := by
  unfold okIo
  rw [h]
  refine ⟨by simp, fun j hj z => ?_, fun j z => ?_⟩
  · rw [List.mem_singleton.mp z] at hj; exact h2 hj
  · rw [List.mem_singleton.mp z]; exact h3
theorem as1 {as : List Addr} (h : as.length = 1) : ∃ a, as = [a] := by
  match as, h with
  | [a], _ => exact ⟨a, rfl⟩
theorem as0 {as : List Addr} (h : as.length = 0) : as = [] := by
  match as, h with
  | [], _ => rfl
theorem mulSmall {a b : Int} (h : -(2 ^ 64) < b ∧ b < 2 ^ 64) : okMul a b := .inr h
theorem mulSmall' {a b : Int} (h : -(2 ^ 64) < a ∧ a < 2 ^ 64) : okMul a b := .inl h
theorem sh_int {i : Int} : Sh (.int i) := by show (PyData.canLay0 (.int i) && decide (PyData.depth (.int i) ≤ 64)) = true; simp [PyData.canLay0, PyData.depth]
theorem sh_bool {i : Bool} : Sh (.bool i) := by show (PyData.canLay0 (.bool i) && decide (PyData.depth (.bool i) ≤ 64)) = true; simp [PyData.canLay0, PyData.depth]
theorem sh_none : Sh .none := by show (PyData.canLay0 .none && decide (PyData.depth .none ≤ 64)) = true; simp [PyData.canLay0, PyData.depth]
/-- data without dicts of a depth of at most n -/
def ShN (n : Nat) (d : D) : Prop := PyData.canLay0 d = true ∧ PyData.depth d ≤ n
theorem ShN.sh {n : Nat} {d : D} (h : ShN n d) (hn : n ≤ 64 := by decide) : Sh d := by
  show (PyData.canLay0 d && decide (PyData.depth d ≤ 64)) = true
  rw [h.1, Bool.true_and, decide_eq_true_eq]
  exact Nat.le_trans h.2 hn
theorem shn_int {i : Int} {n : Nat} : ShN n (.int i) := ⟨by simp [PyData.canLay0], by simp [PyData.depth]⟩
theorem shn_bool {i : Bool} {n : Nat} : ShN n (.bool i) := ⟨by simp [PyData.canLay0], by simp [PyData.depth]⟩
theorem shn_none {n : Nat} : ShN n .none := ⟨by simp [PyData.canLay0], by simp [PyData.depth]⟩
theorem shn_str {n : Nat} {z : Str} (h : PyData.strOk z = true) : ShN n (.str z) := ⟨by simpa [PyData.canLay0] using h, by simp [PyData.depth]⟩
theorem shn_all {n : Nat} : ∀ {ds : List D}, (∀ d ∈ ds, ShN n d) → PyData.canLayAll0 ds = true ∧ PyData.depthAll ds ≤ n
  | [], _ => ⟨by simp [PyData.canLayAll0], by simp [PyData.depthAll]⟩
  | d :: ds, h => by
    obtain ⟨h1, h2⟩ := shn_all (ds := ds) fun e he => h e (List.mem_cons_of_mem _ he)
    obtain ⟨h3, h4⟩ := h d List.mem_cons_self
    refine ⟨by simp [PyData.canLayAll0, h1, h3], ?_⟩
    simp only [PyData.depthAll]
    exact Nat.max_le.mpr ⟨h4, h2⟩
theorem shn_list {n : Nat} {ds : List D} (h : ∀ d ∈ ds, ShN n d) : ShN (n + 1) (.list ds) := by
  obtain ⟨h1, h2⟩ := shn_all h
  exact ⟨by simpa [PyData.canLay0] using h1, by simp only [PyData.depth]; omega⟩
theorem shn_tuple {n : Nat} {ds : List D} (h : ∀ d ∈ ds, ShN n d) : ShN (n + 1) (.tuple ds) := by
  obtain ⟨h1, h2⟩ := shn_all h
  exact ⟨by simpa [PyData.canLay0] using h1, by simp only [PyData.depth]; omega⟩
theorem shn_ints {n : Nat} {ns : List Int} : ShN (n + 1) (.list (ns.map .int)) := shn_list fun d hd => by
  obtain ⟨i, _, rfl⟩ := List.mem_map.mp hd
  exact shn_int
theorem sh_ints {ns : List Int} : Sh (.list (ns.map .int)) := (shn_ints (n := 0)).sh
/-! data without bools and dicts: == is = -/
mutual
def Nb : D → Bool
  | .none => true
  | .bool _ => false
  | .int _ => true
  | .str _ => true
  | .list ds => NbAll ds
  | .tuple ds => NbAll ds
  | .dict _ => false
def NbAll : List D → Bool
  | [] => true
  | d :: ds => Nb d && NbAll ds
end
mutual
theorem eqv_iff : ∀ {d e : D}, Nb d = true → Nb e = true → (PyData.eqv d e = true ↔ d = e)
  | .none, e, _, h => by cases e <;> simp [PyData.eqv, Nb] at h ⊢
  | .bool _, _, h, _ => by simp [Nb] at h
  | .int i, e, _, h => by cases e <;> simp [PyData.eqv, Nb] at h ⊢
  | .str i, e, _, h => by cases e <;> simp [PyData.eqv, Nb] at h ⊢
  | .list ds, e, h, h' => by
    cases e with
    | list es =>
      simp only [PyData.eqv, PyData.list.injEq]
      exact eqvAll_iff (by simpa [Nb] using h) (by simpa [Nb] using h')
    | _ => simp [PyData.eqv, Nb] at h' ⊢
  | .tuple ds, e, h, h' => by
    cases e with
    | tuple es =>
      simp only [PyData.eqv, PyData.tuple.injEq]
      exact eqvAll_iff (by simpa [Nb] using h) (by simpa [Nb] using h')
    | _ => simp [PyData.eqv, Nb] at h' ⊢
  | .dict _, _, h, _ => by simp [Nb] at h
theorem eqvAll_iff : ∀ {ds es : List D}, NbAll ds = true → NbAll es = true → (PyData.eqvAll ds es = true ↔ ds = es)
  | [], [], _, _ => by simp [PyData.eqvAll]
  | [], _ :: _, _, _ => by simp [PyData.eqvAll]
  | _ :: _, [], _, _ => by simp [PyData.eqvAll]
  | d :: ds, e :: es, h, h' => by
    simp only [NbAll, Bool.and_eq_true] at h h'
    simp only [PyData.eqvAll, Bool.and_eq_true, List.cons.injEq]
    rw [eqv_iff h.1 h'.1, eqvAll_iff h.2 h'.2]
end
theorem nbAll_of : ∀ {ds : List D}, (∀ d ∈ ds, Nb d = true) → NbAll ds = true
  | [], _ => rfl
  | d :: ds, h => by simp only [NbAll, Bool.and_eq_true]; exact ⟨h d List.mem_cons_self, nbAll_of fun e he => h e (List.mem_cons_of_mem _ he)⟩
theorem nb_list {ds : List D} (h : ∀ d ∈ ds, Nb d = true) : Nb (.list ds) = true := by simp only [Nb]; exact nbAll_of h
theorem nb_tuple {ds : List D} (h : ∀ d ∈ ds, Nb d = true) : Nb (.tuple ds) = true := by simp only [Nb]; exact nbAll_of h
theorem nb_int {i : Int} : Nb (.int i) = true := by simp [Nb]
theorem nb_str {i : Str} : Nb (.str i) = true := by simp [Nb]
theorem nb_none : Nb .none = true := by simp [Nb]
theorem nb_ints {ns : List Int} : Nb (.list (ns.map .int)) = true := nb_list fun d hd => by
  obtain ⟨i, _, rfl⟩ := List.mem_map.mp hd
  exact nb_int
theorem eqv_self {d : D} (h : Nb d = true) : PyData.eqv d d = true := (eqv_iff h h).mpr rfl
theorem eqv_int {i j : Int} : PyData.eqv (.int i) (.int j) = decide (i = j) := by
  by_cases h : i = j
  · simp [PyData.eqv, h]
  · simp [PyData.eqv, h]
theorem mem_range {lo : Int} {n : Nat} {d : D} (h : d ∈ rangeD lo 1 n) : ∃ i : Nat, i < n ∧ d = .int (lo + i) := by
  unfold rangeD at h
  obtain ⟨i, hi, rfl⟩ := List.mem_map.mp h
  exact ⟨i, List.mem_range.mp hi, by rw [Int.mul_one]⟩
theorem rangeD_len {lo c : Int} {n : Nat} : (rangeD lo c n).length = n := by unfold rangeD; simp
/-- an item of a range by its place -/
theorem range_at {lo : Int} {n : Nat} {done rest : List D} {d : D} (h : rangeD lo 1 n = done ++ d :: rest) : d = .int (lo + done.length) ∧ done.length < n := by
  have hl : done.length < n := by
    have := congrArg List.length h
    rw [rangeD_len] at this
    simp at this
    omega
  have h1 : (rangeD lo 1 n)[done.length]? = some d := by rw [h]; simp
  unfold rangeD at h1
  rw [List.getElem?_map, List.getElem?_range hl] at h1
  simp at h1
  exact ⟨h1.symm, hl⟩
theorem zipD_ints (ns ws : List Int) : zipD (ns.map .int) (ws.map .int) = (List.zip ns ws).map fun p => .tuple [.int p.1, .int p.2] := by
  induction ns generalizing ws with
  | nil => simp [zipD]
  | cons n ns ih => cases ws with
    | nil => simp [zipD]
    | cons w ws => simp [zipD, ih]
theorem enumD_map {α : Type} (c : α → D) (l : List α) : ∀ i : Nat, enumD (i : Int) (l.map c) = (l.zipIdx i).map fun p => .tuple [.int (p.2 : Int), c p.1] := by
  induction l with
  | nil => intro i; rfl
  | cons x l ih => intro i; simp only [List.map_cons, enumD, List.zipIdx_cons, List.cons.injEq, true_and]; exact ih (i + 1)
theorem range_map (lo : Int) (n : Nat) : rangeD lo 1 n = (List.range n).map fun i => .int (lo + (i : Int)) := by
  unfold rangeD
  simp
theorem cut_to {α : Type} {xs : List α} {i : Int} (h : 0 ≤ i) : cutD xs none (some i) = xs.take i.toNat := by
  unfold cutD HT.sIx
  simp only [List.drop_zero, Nat.sub_zero]
  rw [if_neg (by omega)]
  by_cases hl : i.toNat ≤ xs.length
  · rw [Nat.min_eq_left hl]
  · rw [Nat.min_eq_right (by omega), List.take_of_length_le (Nat.le_refl _), List.take_of_length_le (by omega)]
theorem cut_from {α : Type} {xs : List α} {i : Int} (h : 0 ≤ i) : cutD xs (some i) none = xs.drop i.toNat := by
  unfold cutD HT.sIx
  simp only
  rw [if_neg (by omega)]
  by_cases hl : i.toNat ≤ xs.length
  · rw [Nat.min_eq_left hl, List.take_of_length_le (by rw [List.length_drop]; omega)]
  · rw [Nat.min_eq_right (by omega), Nat.sub_self, List.take_zero, List.drop_eq_nil_of_le (by omega)]
theorem cut_mid {α : Type} {xs : List α} {i j : Int} (h : 0 ≤ i) (h' : i ≤ j) (hl : j ≤ xs.length) : cutD xs (some i) (some j) = (xs.drop i.toNat).take (j - i).toNat := by
  unfold cutD HT.sIx
  simp only
  rw [if_neg (by omega), if_neg (by omega), Nat.min_eq_left (by omega), Nat.min_eq_left (by omega)]
  congr 1
  omega
/-- sorted ints -/
def srt (ns : List Int) : List Int := ns.mergeSort (fun a b => decide (a ≤ b))
theorem srt_perm (ns : List Int) : (srt ns).Perm ns := List.mergeSort_perm ..
theorem srt_le (ns : List Int) : (srt ns).Pairwise (· ≤ ·) := by
  have := List.pairwise_mergeSort (le := fun a b : Int => decide (a ≤ b)) (fun a b c h1 h2 => by simp at *; omega) (fun a b => by simp; omega) ns
  exact this.imp fun h => by simpa using h
theorem sorted_uniq : ∀ {l m : List Int}, l.Perm m → l.Pairwise (· ≤ ·) → m.Pairwise (· ≤ ·) → l = m
  | [], m, p, _, _ => (List.Perm.nil_eq p)
  | x :: l, [], p, _, _ => absurd p.length_eq (by simp)
  | x :: l, y :: m, p, h, h' => by
    rw [List.pairwise_cons] at h h'
    have e : x = y := by
      have h1 : x ∈ y :: m := p.mem_iff.mp List.mem_cons_self
      have h2 : y ∈ x :: l := p.mem_iff.mpr List.mem_cons_self
      rcases List.mem_cons.mp h1 with z | z
      · exact z
      · rcases List.mem_cons.mp h2 with z' | z'
        · exact z'.symm
        · have := h.1 y z'; have := h'.1 x z; omega
    subst e
    rw [sorted_uniq (List.Perm.cons_inv p) h.2 h'.2]
theorem srt_eq {ms ns : List Int} (p : ms.Perm ns) (h : ms.Pairwise (· ≤ ·)) : ms = srt ns := sorted_uniq (p.trans (srt_perm ns).symm) h (srt_le ns)
theorem srt_len (ns : List Int) : (srt ns).length = ns.length := (srt_perm ns).length_eq
theorem srt_mem {ns : List Int} {x : Int} : x ∈ srt ns ↔ x ∈ ns := (srt_perm ns).mem_iff
theorem perm_sum {a b : List Int} (p : a.Perm b) : a.sum = b.sum := by
  induction p with
  | nil => rfl
  | cons x _ ih => simp [ih]
  | swap x y l => simp only [List.sum_cons]; omega
  | trans _ _ h1 h2 => exact h1.trans h2
theorem srt_sum (ns : List Int) : (srt ns).sum = ns.sum := perm_sum (srt_perm ns)
theorem map_int_inj {a b : List Int} (h : a.map PyData.int = b.map PyData.int) : a = b := by
  induction a generalizing b with
  | nil => cases b with
    | nil => rfl
    | cons => simp at h
  | cons x a ih => cases b with
    | nil => simp at h
    | cons y b => simp only [List.map_cons, List.cons.injEq, PyData.int.injEq] at h; rw [h.1, ih h.2]
end TL

-- part TL18
/-! TL18: {e for x in xs if t}, e an int, as the one argument of a built-in function. -/
namespace TL
open PySem PySem.Spec L2 PyProof.Rows PpSet
open Evl (Ex ex_l ex_t)
variable [Lay]
section
variable {X : Cx}
/-- the set of ints that grows at D -/
def tSi (w : World) (wi : TI) (g : TG) (tt : TT) (te : TE) (vs : List Nat) : TE := fun σ H Q => wi σ H fun J H1 => ∀ D, H1 D = none → ∃ W : Nat → Nat → Hp → Prop, (∃ m, W 0 m (upd H1 D (SetO w D (fun _ => false) 0))) ∧ ∀ i m H, W i m H →
  (J.stop i H ∧ Q (.ref D) H) ∨ (J.go i H ∧ ∃ Nx : Hp → Prop, (∀ H', Nx H' → ∃ m', m' < m ∧ W (i + 1) m' H') ∧ ∀ x H', J.yld i H x H' → g x (wipe σ vs) H' fun σ2 H2 => wipe σ2 vs = wipe σ vs ∧ tt σ2 H2 fun b H3 =>
    if b = true then te σ2 H3 fun y H4 => ∃ (c : Int) (S : Int → Bool) (n : Nat), y = .int c ∧ H4 D = some (SetO w D S n) ∧ n + 1 < scanBound ∧ Nx (upd H4 D (SetO w D (fun j => S j || decide (j = c)) (if S c = true then n else n + 1))) else Nx H3)
theorem addI_ok {pins : List (Addr × Obj)} {σ : L2.St} {H : Hp} {s : Shared} {E : Value → Shared → Prop} {D : Addr} {S : Int → Bool} {n : Nat} {y : Int} {tk : Tok} {Q : Value → Shared → Prop} (I : Inv X pins σ H s) (hD : H D = some (SetO X.w D S n)) (room : n + 1 < scanBound)
    (h : ∀ s', Inv X pins σ (upd H D (SetO X.w D (fun j => S j || decide (j = y)) (if S y = true then n else n + 1))) s' → Q .none s') : wpAny (model X.prog X.w) X.A (call (.builtin "set.add") [.ref D, .int y tk]) Q E s := by
  refine setR_add (setO_get I hD) room fun h' sb new => ?_
  have he : ∃ u, h'.get? D = some u := by
    obtain ⟨o, _, _, _, ho, _⟩ := new
    exact ⟨o, ho⟩
  exact h _ (I.write (e := D) (t' := s.toks + 1) (by rw [hD]; trivial) (.inl rfl) (fun b u hb hu => (sb.2 b hb).trans hu) he (setO_new new))
/-- the comprehension as a value: the set stands at D -/
theorem pe_si {elt tg iter : Expr} {ifs : List Expr} {scope : Scope} {own : List (PySem.Str × Nat)} {pos : Pos} {wi : TI} {g : TG} {tt : TT} {te : TE} (hc : X.calm = true) (hN : X.N.Nodup) (hi : PI X tg iter wi) (ok : BlkOk X.N X.env.scope scope own)
    (hg : ∀ (s : Shared) (H : Hp) (C : Addr) (cl : List (PySem.Str × Addr)) (fp : List Addr), PG (X.blk s H scope (compEnvC scope cl C X.env) fp) tg g) (ht : ∀ (s : Shared) (H : Hp) (C : Addr) (cl : List (PySem.Str × Addr)) (fp : List Addr), PTs (X.blk s H scope (compEnvC scope cl C X.env) fp) ifs tt)
    (he : ∀ (s : Shared) (H : Hp) (C : Addr) (cl : List (PySem.Str × Addr)) (fp : List Addr), PE (X.blk s H scope (compEnvC scope cl C X.env) fp) elt te) (hs : ∀ x, foldedSetIterable iter X.env x = pure x := by intro _; rfl) :
    PE X (.SetComp elt [⟨tg, iter, ifs, 0⟩] scope pos) (tSi X.w wi g tt te (own.map (·.2))) := by
  refine ⟨fun pins z0 σ H Q I0 h => ?_⟩
  rw [eval_SetComp]
  have clo : ∀ y ∈ scope.names, y.2 = .free → ∃ c, X.env.cells.lookup y.1 = some c := fun y hy e => I0.ok.has _ (ok.free y hy e)
  refine wpAny_comprehension_free (use := none) rfl hs (closure_ok clo) ok.kind (fun y hy e => (ok.uniq y hy).trans (congrArg some e)) (thn (hi.run pins z0 σ H _ I0 h) fun xv z1 hx => thn hx fun itv z2 made => ?_)
  obtain ⟨it, fp, tn, J, Ha, e, Ia, T, turnAt, free, q⟩ := made
  subst e
  refine newSet_ok (newEnv_comp ?_)
  have young : Ha z2.heap.objs.size = none := Ia.hok.fresh (Nat.le_refl _)
  obtain ⟨W, ⟨m0, w0⟩, turns⟩ := q _ young
  let zb : Shared := { z2 with heap := z2.heap.push { cls := .type "set", dict := none, data := .set #[] 0 (.fresh 0 0 (!X.w.params.followText "set-order")) } }
  let D : Addr := z2.heap.objs.size
  let Hb : Hp := upd Ha D (SetO X.w D (fun _ => false) 0)
  have Ib : Inv X pins σ Hb zb := Ia.laid (t' := z2.toks) (fun b o e => Heap.get?_push_of_some _ e) (Nat.le_refl _) (setO_new (setR_fresh X.w))
  have below : ∀ b ∈ fp, b < z2.heap.objs.size := fun b hb => Heap.lt_size (T.obj _ _ turnAt b hb).choose_spec.1
  have fpb : ∀ b ∈ fp, FpOk X pins Hb b ∧ b < zb.heap.objs.size := fun b hb =>
    ⟨⟨(upd_ne (Nat.ne_of_lt (below b hb))).trans (free b hb).1, (free b hb).2⟩, by rw [Heap.size_push]; exact Nat.lt_succ_of_lt (below b hb)⟩
  have turnB : tn 0 zb.heap := T.keep _ _ _ turnAt fun b _ o e => Heap.get?_push_of_some _ e
  have Ic := block_start Ib ok hN fpb
  let cl := cellsFrom (zb.heap.objs.size + 1) scope.names (cloFrom X.env.cells scope.names [])
  have pg := hg zb Hb zb.heap.objs.size cl fp
  have pt := ht zb Hb zb.heap.objs.size cl fp
  have pe := he zb Hb zb.heap.objs.size cl fp
  have none0 : ∀ b ∈ fp, Hb b = none := fun b hb => (fpb b hb).1.1
  show codeAny _ _ (.compStart (.SetComp elt [⟨tg, iter, ifs, 0⟩] scope pos) 0 (.ref it) (.ref D) (compEnvC scope cl zb.heap.objs.size X.env)) (compPost (model X.prog X.w) X.A X.xe none (EP X pins σ Q) (.ref D) zb.heap.objs.size) { zb with heap := pushCells (zb.heap.push { cls := .type "dict", data := .dict #[] }) scope.names }
  have cL : (compEnvC scope cl zb.heap.objs.size X.env).locals = zb.heap.objs.size := rfl
  have turnC : tn 0 (pushCells (zb.heap.push { cls := .type "dict", data := .dict #[] }) scope.names) := T.keep _ _ _ turnB fun b _ o e => pushCells_keeps _ _ _ _ (Heap.get?_push_of_some _ e)
  have st0 : ∀ {σ' : L2.St} {H' : Hp} {s' : Shared}, Inv (X.blk zb Hb scope (compEnvC scope cl zb.heap.objs.size X.env) fp) [] σ' H' s' → (∀ b ∈ fp, H' b = none) → ∀ b ∈ fp, FpOk (X.blk zb Hb scope (compEnvC scope cl zb.heap.objs.size X.env) fp) [] H' b := fun {σ' H' s'} I' hn b hb =>
    ⟨hn b hb, (I'.ok.exf b hb).1, I'.ok.exfs b hb, .inl hb, fun x c e => (I'.ok.exf b hb).2 x c e, fun p hp => by cases hp⟩
  have loop : codeAny (model X.prog X.w) X.A (.compLoop (.SetComp elt [⟨tg, iter, ifs, 0⟩] scope pos) 0 (.ref it) (.ref D) (compEnvC scope cl zb.heap.objs.size X.env)) (compPost (model X.prog X.w) X.A X.xe none (EP X pins σ Q) (.ref D) zb.heap.objs.size) { zb with heap := pushCells (zb.heap.push { cls := .type "dict", data := .dict #[] }) scope.names } := by
    refine compLoopS_any (fun n s' => ∃ i H', Inv (X.blk zb Hb scope (compEnvC scope cl zb.heap.objs.size X.env) fp) [] (wipe σ (own.map (·.2))) H' s' ∧ tn i s'.heap ∧ (∀ b ∈ fp, H' b = none) ∧ W i n H') (fun n z5 ⟨i, H5, I5, t5, n5, w5⟩ => ?_) m0 ⟨0, Hb, Ic, turnC, none0, w0⟩
    rcases turns i n H5 w5 with ⟨stop, qq⟩ | ⟨go, Nx, hNx, step⟩
    · refine thnF (T.done (X.blk zb Hb scope (compEnvC scope cl zb.heap.objs.size X.env) fp) rfl rfl rfl hc i [] z5 _ H5 (fun _ _ => False) I5 (st0 I5 n5) t5 stop) fun r z6 ⟨hr, I6⟩ => ?_
      subst hr
      have I7 : Inv X pins σ H5 z6 := Ib.call' (ch := fp) I6.os I6.base I6.hok I6.bare fun b hb => ⟨(fpb b hb).1.2.2.2.1, (fpb b hb).1.2.1, (fpb b hb).1.2.2.2.2.1, (fpb b hb).1.2.2.2.2.2⟩
      have nC : H5 zb.heap.objs.size = none := I6.free
      obtain ⟨m, hn, _⟩ := I6.loc
      obtain ⟨f0, f1, f2, f3, f4, f5⟩ := Ib.fpOk (Nat.le_refl _) nC
      exact ⟨m, hn, fun h'' sb => ⟨.ref D, H5, I7.turned (t' := z6.toks) (fun b o hb e => (sb.2 b hb).trans e) f0 f1 f3 f4 f5, rfl, qq⟩⟩
    · refine thnF (T.item (X.blk zb Hb scope (compEnvC scope cl zb.heap.objs.size X.env) fp) rfl rfl rfl hc i [] z5 _ H5 (fun _ _ => False) I5 (st0 I5 n5) t5 go) fun r z6 ⟨u, hr, h6⟩ => ?_
      subst hr
      refine thnF h6 fun _ z7 ⟨x, H7, I7, r7, y7, t7, n7⟩ => ?_
      have I7' := I7.pinned (st0 I7 n7) (T.obj _ _ t7)
      refine thnF (pg.run _ z7 _ H7 x u _ I7' r7 (step x H7 y7)) fun _ z8 ⟨σ8, H8, I8, hw8, q8⟩ => ?_
      refine thnF (pt.run _ z8 σ8 H8 _ I8 q8) fun b z9 ⟨H9, I9, q9⟩ => ?_
      have again : ∀ {s' : Shared} {H' : Hp}, Inv (X.blk zb Hb scope (compEnvC scope cl zb.heap.objs.size X.env) fp) ([] ++ pinsAt fp z7.heap) σ8 H' s' → Nx H' → ∃ m, m < n ∧ ∃ i H', Inv (X.blk zb Hb scope (compEnvC scope cl zb.heap.objs.size X.env) fp) [] (wipe σ (own.map (·.2))) H' s' ∧ tn i s'.heap ∧ (∀ b ∈ fp, H' b = none) ∧ W i m H' := fun {s' H'} I' nx => by
        obtain ⟨m', hm, w'⟩ := hNx H' nx
        have held : ∀ b ∈ fp, ∀ o, z7.heap.get? b = some o → s'.heap.get? b = some o ∧ H' b = none := fun b hb o e => by
          have z := I'.pin (b, o) (List.mem_append_right _ (List.mem_append_right _ (mem_pinsAt hb e)))
          exact ⟨z.1, z.2.1⟩
        have same : (wipe σ (own.map (·.2))).length = σ8.length := (congrArg List.length hw8).symm.trans (wipe_length σ8 _)
        refine ⟨m', hm, i + 1, H', (I'.unpinned (pins := [])).weak same (fun j v e => (wipe_some (by rw [hw8]; exact e)).1), T.keep _ _ _ t7 fun b hb o e => (held b hb o e).1, fun b hb => ?_, w'⟩
        obtain ⟨o, e, _⟩ := T.obj _ _ t7 b hb
        exact (held b hb o e).2
      cases b with
      | false => exact again I9 q9
      | true =>
        refine thnF (pe.run _ z9 σ8 H9 _ I9 q9) fun z z10 ⟨yv, H10, I10, r10, c, S0, n0, ey, hD10, hz10, nx⟩ => ?_
        subst ey
        obtain ⟨tk, rfl⟩ := (show ∃ t, z = Value.int c t from r10)
        exact addI_ok (X := X.blk zb Hb scope (compEnvC scope cl zb.heap.objs.size X.env) fp) I10 hD10 hz10 fun z11 I11 => again I11 nx
  exact codeAny_compStart_set loop (T.self X.A 0 _ _ _ turnC loop)
end
/-- without repeats, first ones kept -/
def nub (l : List Int) : List Int := l.foldl (fun a x => if x ∈ a then a else a ++ [x]) []
theorem nub_snoc_mem {c : Int} : ∀ {l a : List Int}, c ∈ l.foldl (fun a x => if x ∈ a then a else a ++ [x]) a ↔ c ∈ a ∨ c ∈ l
  | [], a => by simp
  | x :: l, a => by
    rw [List.foldl_cons, nub_snoc_mem]
    by_cases h : x ∈ a
    · rw [if_pos h, List.mem_cons]
      constructor
      · rintro (z | z)
        · exact .inl z
        · exact .inr (.inr z)
      · rintro (z | z | z)
        · exact .inl z
        · exact .inl (z ▸ h)
        · exact .inr z
    · rw [if_neg h, List.mem_append, List.mem_singleton, List.mem_cons, or_assoc]
theorem mem_nub {c : Int} {l : List Int} : c ∈ nub l ↔ c ∈ l := by
  unfold nub
  rw [nub_snoc_mem]
  simp
theorem nub_snoc (l : List Int) (c : Int) : nub (l ++ [c]) = if c ∈ l then nub l else nub l ++ [c] := by
  have e : nub (l ++ [c]) = if c ∈ nub l then nub l else nub l ++ [c] := by
    unfold nub
    rw [List.foldl_append]
    rfl
  rw [e]
  by_cases h : c ∈ l
  · rw [if_pos h, if_pos (mem_nub.mpr h)]
  · rw [if_neg h, if_neg fun z => h (mem_nub.mp z)]
theorem nub_le (l : List Int) : (nub l).length ≤ l.length := by
  have key : ∀ m : List Int, ∀ l, l = m.reverse → (nub l).length ≤ l.length := fun m => by
    induction m with
    | nil => intro l e; subst e; exact Nat.le_refl _
    | cons x m ih =>
      intro l e
      subst e
      rw [List.reverse_cons, nub_snoc, List.length_append]
      have := ih _ rfl
      split
      · omega
      · rw [List.length_append]; simp at *; omega
  exact key l.reverse l (by simp)
def dSiL (g : DTG) (tt : DTT) (te : DTE) (src : List (Nat × D)) (vs : List Nat) (k : List Int → List Slot → Prop) : List D → List Int → List Slot → Prop
  | [], acc, ρ => stl src ρ ∧ k acc ρ
  | d :: ds, acc, ρ => stl src ρ ∧ g d ρ fun ρ1 => tt ρ1 fun b ρ2 => if b = true then te ρ2 fun r ρ3 => (match r with
        | .fz (.int c) => acc.length + 1 < scanBound ∧ dSiL g tt te src vs k ds (acc ++ [c]) (wipeR ρ3 vs)
        | _ => False)
      else dSiL g tt te src vs k ds acc (wipeR ρ2 vs)
/-- f({e for x in xs if t}): cons: what f makes of the ints put in -/
def dSi (w : DTI) (g : DTG) (tt : DTT) (te : DTE) (vs : List Nat) (cons : List Int → (Res → Prop) → Prop) : DTE := fun ρ k => w ρ fun items src ρ1 => (∀ p ∈ src, p.1 ∉ vs) ∧ dSiL g tt te src vs (fun acc ρ2 => cons acc fun z => k z (restR vs ρ1 ρ2)) items [] (wipeR ρ1 vs)
def ConsS (w : World) (K : PySem.W.Frag) (cons : List Int → (Res → Prop) → Prop) (r : List V → Hp → VK → Prop) : Prop := ∀ (F H : Hp) (a : Addr) (S : Int → Bool) (n : Nat) (acc : List Int) (k : Res → Prop) (Q : VK), Ex F H → H a = some (SetO w a S n) → (∀ x, S x = true ↔ x ∈ acc) → n = (nub acc).length → cons acc k →
  (∀ z v F' H', k z → New K F H F' H' v z → Q v H') → r [.ref a] H Q
theorem nt_si {w : World} {a : Addr} {S : Int → Bool} {n : Nat} : NT (SetO w a S n) := fun _ z => by unfold SetO at z; cases z
theorem nc_si {w : World} {a : Addr} {S : Int → Bool} {n : Nat} : NC (SetO w a S n) := ⟨nt_si, fun c q z => by
  unfold SetO LamX.CodeO at z
  injection z with z
  let oc : Obj := { cls := .none, data := .fields #[.none, .str q 0] }
  let h0 : Heap := { objs := (List.replicate (a + c + 1) oc).toArray }
  have at0 : ∀ b : Nat, b ≤ (a : Nat) + (c : Nat) → h0.get? b = some oc := fun b hb => by
    have e : h0.objs[b]? = some oc := by
      show (List.replicate ((a : Nat) + (c : Nat) + 1) oc).toArray[b]? = some oc
      simp [List.getElem?_replicate, Nat.lt_succ_of_le hb]
    unfold Heap.get?
    rw [e]
  have h1 : ∃ (oc : Obj) (vs : Array Value) (t : Tok), h0.get? c = some oc ∧ oc.data = .fields vs ∧ vs[1]? = some (.str q t) := ⟨oc, _, 0, at0 c (Nat.le_add_left _ _), rfl, rfl⟩
  rw [← congrFun z h0] at h1
  obtain ⟨o, es, ep, t, e1, _, e2, _⟩ := h1
  rw [at0 a (Nat.le_add_right _ _)] at e1
  cases e1
  cases e2⟩
structure BlkS (w : World) (K : PySem.W.Frag) (L : Addr) (vs : List Nat) (F1 H1 : Hp) (σ : L2.St) (ρ1 : List Slot) (F H : Hp) (ρ : List Slot) (acc : List Int) : Prop where
  sta : Sta K F H (L2.wipe σ vs) (wipeR ρ vs)
  tr : Tr F1 H1 (L2.wipe σ vs) (wipeR ρ1 vs) F H (L2.wipe σ vs) (wipeR ρ vs)
  slow : ∀ (i : Nat) (t : Option Addr) (κ : Kd) (d : D), (wipeR ρ vs)[i]? = some (.ow t κ d) → ∃ d0, (wipeR ρ1 vs)[i]? = some (.ow t κ d0)
  slrd : ∀ (i : Nat) (d : D), (wipeR ρ vs)[i]? = some (.rd d) → (wipeR ρ1 vs)[i]? = some (.rd d) ∨ ∃ t κ d0, (wipeR ρ1 vs)[i]? = some (.ow t κ d0)
  obj : ∃ S n, H L = some (SetO w L S n) ∧ (∀ x, S x = true ↔ x ∈ acc) ∧ n = (nub acc).length
section
theorem up_si {wd : World} {w : DTI} {js : List Nat} {g : DTG} {tt : DTT} {te : DTE} {vs : List Nat} {K : PySem.W.Frag} {cons : List Int → (Res → Prop) → Prop} {r0 : List V → Hp → VK → Prop} (hr : ConsS wd K cons r0) (hj : ∀ j ∈ js, j ∈ vs) {σ : L2.St} {H : Hp} {Q : VK} (h : up K (dSi w g tt te vs cons) σ H Q) :
    tSi wd (upI K w) (upG K js g) (upT K tt) (up K te) vs σ H fun v H1 => r0 [v] H1 Q := by
  obtain ⟨F, ρ, k, S, q, fin⟩ := h
  refine ⟨F, ρ, _, S, q, fun items src ρ1 F1 H1 J q S1 T1 wk L hL => ?_⟩
  obtain ⟨q0, q⟩ := q
  have fL : F1 L = none := by
    cases e : F1 L with
    | none => rfl
    | some o => rw [S1.sub L o e] at hL; cases hL
  have oL : ¬ OA σ ρ1 L := fun ⟨i, t, κ, d, h1, h2⟩ => by
    obtain ⟨a, e1, h3, _⟩ := S1.ow i t κ d h1
    rw [h2] at e1
    cases e1
    obtain ⟨o, ho⟩ := h3.some
    rw [hL] at ho; cases ho
  have oLw : ¬ OA (L2.wipe σ vs) (wipeR ρ1 vs) L := fun z => oL (oa_wipe z)
  have Sw := S1.wipe (vs := vs)
  have rdw : ∀ (i : Nat) (d : D), (wipeR ρ1 vs)[i]? = some (.rd d) → (L2.wipe σ vs)[i]? = some (some (.ref L)) → Dp K F1 (.ref L) d := fun i d e1 e2 => by
    obtain ⟨v, h1, h2⟩ := Sw.rd i d e1
    rw [e2] at h1
    cases h1
    rcases h2 with h2 | ⟨κ, a, e3, h2, _⟩
    · exact h2
    · cases e3
      obtain ⟨o, ho⟩ := h2.some
      rw [hL] at ho; cases ho
  let W : Nat → Nat → Hp → Prop := fun i m H' => m = items.length - i ∧ i ≤ items.length ∧ ∃ F' ρ' acc, F' L = none ∧ ¬ OA (L2.wipe σ vs) (wipeR ρ' vs) L ∧ BlkS wd K L vs F1 H1 σ ρ1 F' H' ρ' acc ∧
    dSiL g tt te src vs (fun acc ρ2 => cons acc fun z => k z (restR vs ρ1 ρ2)) (items.drop i) acc (wipeR ρ' vs)
  refine ⟨W, ⟨items.length, by simp, Nat.zero_le _, F1, ρ1, [], fL, oLw, ⟨Sw.updD (fun o z => by rw [hL] at z; cases z) fL oLw rdw, ⟨Ex.refl F1, fun b o h _ _ => Ex.new hL b o h, fun b o h => ⟨o, Ex.new hL b o h⟩, fun _ h => .inl h, fun _ _ h => .inl h⟩, fun _ _ _ d h => ⟨d, h⟩, fun _ _ h => .inl h, _, _, upd_same, fun k => by simp, rfl⟩, q⟩, ?_⟩
  rintro i m H2 ⟨rfl, hi, F2, ρ2, acc, f2, o2, B, q2⟩
  have src_ok : stl src (wipeR ρ2 vs) → ∀ p ∈ src, σ[p.1]? = σ[p.1]? ∧ cont (wipeR ρ2 vs) p.1 = some p.2 := fun z p hp => ⟨rfl, stl_all z p hp⟩
  -- the iterator's word, in the block's state
  have wk2 : stl src (wipeR ρ2 vs) → (∀ i, items.length ≤ i → J.stop i H2) ∧ ∀ i d, items[i]? = some d → J.go i H2 ∧ ∀ x H', J.yld i H2 x H' → ∃ F', Ex F2 F' ∧ Ex H2 H' ∧ Ex F' H' ∧ (∀ b o, F' b = some o → F2 b = some o ∨ H2 b = none) ∧ Dp K F' x d := fun z => by
    have TX := Tr.rest S1 B.tr B.slow B.slrd
    refine wk F2 H2 σ (restR vs ρ1 (wipeR ρ2 vs)) (Sta.rest S1 B.sta B.tr) TX.toTr fun p hp => ⟨rfl, ?_⟩
    have := stl_all z p hp
    unfold cont at this ⊢
    rw [restR_out (q0 p hp)]
    exact this
  by_cases hl : i < items.length
  · rw [List.drop_eq_getElem_cons hl] at q2
    obtain ⟨qs, q2⟩ := q2
    obtain ⟨go, yl⟩ := (wk2 qs).2 i items[i] (List.getElem?_eq_getElem hl)
    refine .inr ⟨go, fun H' => W (i + 1) (items.length - (i + 1)) H', fun H' z => ⟨items.length - (i + 1), by omega, z⟩, fun x H3 hy => ?_⟩
    obtain ⟨F3, e1, e2, e3, e4, dp⟩ := yl x H3 hy
    have S3 := B.sta.grow e1 e2 e3 e4
    have T3 : Tr F2 H2 (L2.wipe σ vs) (wipeR ρ2 vs) F3 H3 (L2.wipe σ vs) (wipeR ρ2 vs) := ⟨e1, fun b o h _ _ => e2 b o h, fun b o h => ⟨o, e2 b o h⟩, fun _ h => .inl h, fun b o h => (e4 b o h).imp id .inl⟩
    refine ⟨F3, wipeR ρ2 vs, items[i], _, S3, dp, q2, fun σ4 ρ4 F4 H4 q4 S4 T4 l4 n4 => ?_⟩
    have wσ : L2.wipe σ4 vs = L2.wipe σ vs := by
      refine List.ext_getElem? fun j => ?_
      by_cases hj' : j ∈ vs
      · have wn : ∀ {τ : L2.St} {us : List Nat}, j ∈ us → j < τ.length → (L2.wipe τ us)[j]? = some none := fun {τ us} => by
          induction us with
          | nil => intro h; cases h
          | cons u us ih =>
            intro h hl
            by_cases e : u = j
            · subst e
              show ((L2.wipe τ us).set u none)[u]? = _
              rw [List.getElem?_set]
              simp [wipe_length, hl]
            · show ((L2.wipe τ us).set u none)[j]? = _
              rw [List.getElem?_set_ne e]
              exact ih ((List.mem_cons.mp h).resolve_left (fun z => e z.symm)) hl
        have le : σ4.length = σ.length := by rw [l4, wipe_length]
        by_cases hlt : j < σ.length
        · rw [wn hj' (by omega), wn hj' hlt]
        · rw [List.getElem?_eq_none (by rw [wipe_length]; omega), List.getElem?_eq_none (by rw [wipe_length]; omega)]
      · rw [wipe_get hj', (n4 j fun z => hj' (hj j z)).1]
    refine ⟨wσ, F4, ρ4, _, S4, q4, fun b ρ5 F5 H5 q5 S5 T5 => ?_⟩
    have ρslow : ∀ {ρ6 : List Slot}, (∀ (i : Nat) (t : Option Addr) (κ : Kd) (d : D), ρ6[i]? = some (.ow t κ d) → ∃ d0, ρ4[i]? = some (.ow t κ d0)) → ∀ (i : Nat) (t : Option Addr) (κ : Kd) (d : D), (wipeR ρ6 vs)[i]? = some (.ow t κ d) → ∃ d0, (wipeR ρ1 vs)[i]? = some (.ow t κ d0) := fun {ρ6} h i t κ d e => by
      rcases wipeR_cases e with z | ⟨z, e⟩
      · cases z
      · obtain ⟨d1, h1⟩ := h i t κ d e
        rw [(n4 i fun y => z (hj i y)).2] at h1
        exact B.slow i t κ d1 h1
    have ρslrd : ∀ {ρ6 : List Slot}, (∀ (i : Nat) (d : D), ρ6[i]? = some (.rd d) → ρ4[i]? = some (.rd d) ∨ ∃ t κ d0, ρ4[i]? = some (.ow t κ d0)) → ∀ (i : Nat) (d : D), (wipeR ρ6 vs)[i]? = some (.rd d) → (wipeR ρ1 vs)[i]? = some (.rd d) ∨ ∃ t κ d0, (wipeR ρ1 vs)[i]? = some (.ow t κ d0) := fun {ρ6} h i d e => by
      rcases wipeR_cases e with z | ⟨z, e⟩
      · cases z
      · rcases h i d e with h1 | ⟨t, κ, d1, h1⟩
        · rw [(n4 i fun y => z (hj i y)).2] at h1
          exact B.slrd i d h1
        · rw [(n4 i fun y => z (hj i y)).2] at h1
          obtain ⟨d2, h2⟩ := B.slow i t κ d1 h1
          exact .inr ⟨t, κ, d2, h2⟩
    obtain ⟨S0, n0, hx, hd, hn0⟩ := B.obj
    cases b with
    | false =>
      have T6 : Tr F2 H2 (L2.wipe σ vs) (wipeR ρ2 vs) F5 H5 σ4 ρ5 := T3.trans (T4.trans T5.toTr)
      have T6w := T6.wiped (vs := vs)
      rw [wσ] at T6w
      obtain ⟨f6, o6⟩ := T6w.nof hx f2 o2
      have S6 := S5.wipe (vs := vs)
      rw [wσ] at S6
      exact ⟨rfl, hl, F5, ρ5, acc, f6, o6, ⟨S6, B.tr.trans T6w, ρslow T5.slow, ρslrd T5.slrd, S0, n0, T6.keep _ _ hx nt_si o2, hd, hn0⟩, q5⟩
    | true =>
      refine ⟨F5, ρ5, _, S5, q5, fun r ρ6 v F6 H6 q6 S6 T6 f => ?_⟩
      have q6 : ∃ c, r = .fz (.int c) ∧ acc.length + 1 < scanBound ∧ dSiL g tt te src vs (fun acc ρ2 => cons acc fun z => k z (restR vs ρ1 ρ2)) (items.drop (i + 1)) (acc ++ [c]) (wipeR ρ6 vs) := by
        split at q6
        · exact ⟨_, rfl, q6⟩
        · exact q6.elim
      obtain ⟨c, rfl, hz, q7⟩ := q6
      have f : Dp K F6 v (.int c) := f
      cases f
      have T7' := T5.trans T6
      have T8 : Tr F2 H2 (L2.wipe σ vs) (wipeR ρ2 vs) F6 H6 σ4 ρ6 := T3.trans (T4.trans T7'.toTr)
      have T8w := T8.wiped (vs := vs)
      rw [wσ] at T8w
      obtain ⟨f8, o8⟩ := T8w.nof hx f2 o2
      have S8 := S6.wipe (vs := vs)
      rw [wσ] at S8
      have sl := ρslow T7'.slow
      have sr := ρslrd T7'.slrd
      have room : n0 + 1 < scanBound := by
        have := nub_le acc
        omega
      refine ⟨c, S0, n0, rfl, T8.keep _ _ hx nt_si o2, room, rfl, hl, F6, ρ6, acc ++ [c], f8, o8, ⟨S8.updD (fun o z => by rw [T8.keep _ _ hx nt_si o2] at z; cases z; exact nc_si) f8 o8 fun i d e1 e2 => ?_, ?_, sl, sr, _, _, upd_same, fun x => ?_, ?_⟩, q7⟩
      · rcases sr i d e1 with y | ⟨t, κ, d0, y⟩
        · exact dp_mono (B.tr.fext.trans T8.fext) (rdw i d y e2)
        · exact absurd ⟨i, t, κ, d0, y, e2⟩ oLw
      · have T9 := B.tr.trans T8w
        refine ⟨T9.fext, fun b o h nt n => ?_, fun b o h => ?_, T9.own, T9.fnew⟩
        · have hne : b ≠ L := fun z => by rw [z, hL] at h; cases h
          rw [upd_ne hne]; exact T9.keep b o h nt n
        · have hne : b ≠ L := fun z => by rw [z, hL] at h; cases h
          rw [upd_ne hne]; exact T9.there b o h
      · rw [Bool.or_eq_true, hd, List.mem_append, List.mem_singleton, decide_eq_true_eq]
      · rw [nub_snoc]
        by_cases hc : c ∈ acc
        · rw [if_pos ((hd c).mpr hc), if_pos hc, hn0]
        · have e0 : S0 c = false := by
            cases e : S0 c with
            | true => exact absurd ((hd c).mp e) hc
            | false => rfl
          rw [e0, if_neg (by decide), if_neg hc, hn0, List.length_append]
          rfl
  · have e : i = items.length := by omega
    subst e
    rw [List.drop_length] at q2
    obtain ⟨qs, q2⟩ := q2
    refine .inl ⟨(wk2 qs).1 _ (Nat.le_refl _), ?_⟩
    have TX := Tr.rest S1 B.tr B.slow B.slrd
    have SX := Sta.rest S1 B.sta B.tr
    obtain ⟨S0, n0, hx, hd, hn0⟩ := B.obj
    have TT := T1.trans TX
    exact hr _ _ _ _ _ _ _ _ SX.sub hx hd hn0 q2 fun z v F' H' kz n => fin z _ v F' H' kz (n.sta SX) (TT.trans n.tr) (n.fits SX fun _ z => TT.none z)
end
end TL

-- part TL19
/-! TL19: len and sorted of a set comprehension, list.index, a, b, c = x, y, z. -/
namespace TL
open PySem PySem.Spec L2
open Evl (Ex ex_l ex_t)
variable [Lay]
section
variable {X : Cx}
def rLenSet (w : World) : List V → Hp → VK → Prop := fun xs H Q => ∃ (a : Addr) (S : Int → Bool) (n : Nat), xs = [V.ref a] ∧ H a = some (SetO w a S n) ∧ Q (.int n) H
theorem call_lenS : CallR X (.builtin "len") (rLenSet X.w) := by
  intro pins s σ H xs us Q I r ⟨a, S, n, e, ha, q⟩
  subst e
  obtain ⟨u, rfl, ru⟩ := vals1 r
  cases (show u = Value.ref a from ru)
  obtain ⟨o, es, ep, t, h1, h2, h3, _, _, _, h4, h5, h6, _⟩ := setO_get I ha
  subst h6
  refine PySem.call_len_set h1 h2 h3 h5 ?_ ⟨.int _, H, I.tok _, ⟨_, rfl⟩, q⟩
  have : scanBound = 4096 := rfl
  omega
/-- the number of unlike ones -/
@[simp] def cLen (acc : List Int) (k : Res → Prop) : Prop := k (.fz (.int (nub acc).length))
theorem cs_len : ConsS X.w X.K cLen (rLenSet X.w) := fun F H a S n acc k Q se ha hS hn hk fin => ⟨a, S, n, rfl, ha, by subst hn; exact fin _ _ _ _ hk (New.val se (.int _))⟩
/-- the unlike ones, rising -/
@[simp] def cSort (acc : List Int) (k : Res → Prop) : Prop := (nub acc).length < 64 ∧ ∀ ns : List Int, ns.Pairwise (· < ·) → (∀ x, x ∈ ns ↔ x ∈ acc) → k (.tm .l (.list (ns.map .int)))
theorem cs_sort : ConsS X.w X.K cSort (rSortedSet X.w) := fun F H a S n acc k Q se ha hS hn hk fin => ⟨a, S, n, rfl, ha, (hn ▸ hk.1), fun ns p h1 h2 _ hp => fin _ _ _ _ (hk.2 ns h1 fun x => (h2 x).trans (hS x)) (New.list se hp (dpAll_ints_mk ns))⟩
theorem de_si {x : Str} {id : String} {p pos' : Pos} {cons : List Int → (Res → Prop) → Prop} {r0 : List V → Hp → VK → Prop} {elt tg iter : Expr} {ifs : List Expr} {scope : Scope} {own : List (Str × Nat)} {pos : Pos} {w : DTI} {js : List Nat} {g : DTG} {tt : DTT} {te : DTE}
    (hr : ConsS X.w X.K cons r0) (hcl : CallR X (.builtin id) r0) (hgl : Gl X x) (hm : X.mg x = none) (hv : bootBuiltins x = some (.builtin id)) (hc : X.calm = true) (hN : X.N.Nodup) (hi : DI X tg iter w) (ok : BlkOk X.N X.env.scope scope own)
    (hg : ∀ (s : Shared) (H : Hp) (C : Addr) (cl : List (Str × Addr)) (fp : List Addr), DG (X.blk s H scope (compEnvC scope cl C X.env) fp) tg js g) (ht : ∀ (s : Shared) (H : Hp) (C : Addr) (cl : List (Str × Addr)) (fp : List Addr), DTsT (X.blk s H scope (compEnvC scope cl C X.env) fp) ifs tt)
    (he : ∀ (s : Shared) (H : Hp) (C : Addr) (cl : List (Str × Addr)) (fp : List Addr), DE (X.blk s H scope (compEnvC scope cl C X.env) fp) elt te) (hj : ∀ j ∈ js, j ∈ own.map (·.2) := by decide) (hs : ∀ x, foldedSetIterable iter X.env x = pure x := by intro _; rfl)
    (hn : x ≠ "__name__" := by decide) (hdb : (x == ("__debug__" : Str)) = false := by decide)
    (hst : starEach [.SetComp elt [⟨tg, iter, ifs, 0⟩] scope pos] X.env = (false, eval (.SetComp elt [⟨tg, iter, ifs, 0⟩] scope pos) X.env) :: starEach [] X.env := by rfl) :
    DE X (.Call (.Name x p) [.SetComp elt [⟨tg, iter, ifs, 0⟩] scope pos] [] pos') (dSi w g tt te (own.map (·.2)) cons) :=
  PE.le (pe_callB hcl hgl hm hv (pa_cons (pe_si (wi := upI X.K w) (g := upG X.K js g) (tt := upT X.K tt) (te := up X.K te) hc hN hi ok hg ht he hs) pa_nil hst) hn hdb hst) fun σ H Q h => up_si hr hj h
/-! ### xs.index(y) -/
@[simp] def gIndexI : D → List D → (Res → Prop) → Prop
  | .list ds, [.int i], k => ∃ ns, intsOf ds = some ns ∧ ∃ j : Nat, ns[j]? = some i ∧ (∀ m : Nat, m < j → ns[m]? ≠ some i) ∧ k (.fz (.int j))
  | _, _, _ => False
theorem flat_ints' (ns : List Int) : (ns.map V.int).all flatV = true := by
  rw [List.all_eq_true]
  intro v hv
  obtain ⟨i, _, rfl⟩ := List.mem_map.mp hv
  rfl
theorem mt_gIndexI : MtR X "list.index" (rm X.K gIndexI) := by
  intro pins s σ H x xs v us Q I rx rxs ⟨F, d, ds, k, se, hx, hxs, g, fin⟩
  unfold gIndexI at g
  split at g
  · obtain ⟨ns, e, j, hj, hm, g⟩ := g
    obtain ⟨a, ys, rfl, h1, h2⟩ := hx.list se
    rw [intsOf_eq e] at h2
    rw [dpAll_ints h2] at h1
    obtain ⟨w, rfl, hw⟩ := hxs.one
    cases hw.int
    refine mt_index pins s σ H _ _ v us Q I rx rxs ⟨a, ns.map V.int, _, j, .int _, rfl, rfl, .inl h1, rfl, flat_ints' ns, by rw [List.getElem?_map, hj]; rfl, ?_, fun m z' hm' hz => ?_, r2_val se g fin (.int _)⟩
    · simp [eqV]
    · rw [List.getElem?_map] at hz
      cases e' : ns[m]? with
      | none => rw [e'] at hz; cases hz
      | some y =>
        rw [e'] at hz
        cases hz
        have : y ≠ _ := fun z => hm m hm' (by rw [e', z])
        simp [eqV, this]
  · exact g.elim
/-! ### a, b, c = x, y, z -/
def dPar3 (i j l : Nat) (da : DTA) : DTS := fun E ρ => da ρ fun rs ρ1 => match rs with
  | [r, r', r''] => fzR r ρ1 fun d ρ2 => fzR r' ρ2 fun d' ρ3 => fzR r'' ρ3 fun d'' ρ4 => E.nx (((ρ4.set i (.fz d)).set j (.fz d')).set l (.fz d''))
  | _ => False
theorem ds_par3 {i j l : Nat} {x y z : Str} {a b c : Expr} {da : DTA} {px py pz pt pos : Pos} {kt k2 pt2} (hc : X.calm = true) (hN : X.N.Nodup) (hi : X.N[i]? = some x) (hj : X.N[j]? = some y) (hl : X.N[l]? = some z) (hij : i ≠ j) (hil : i ≠ l) (hjl : j ≠ l)
    (hx : X.env.scope.names.lookup x = some .local) (hy : X.env.scope.names.lookup y = some .local) (hz : X.env.scope.names.lookup z = some .local) (ha : DA X [a, b, c] da)
    (hw : swappedStores [.Tuple [.Name x px, .Name y py, .Name z pz] kt pt] (.Tuple [a, b, c] k2 pt2) X.env = pure (some [x, y, z]))
    (hs : swapsWithSole [.Tuple [.Name x px, .Name y py, .Name z pz] kt pt] (.Tuple [a, b, c] k2 pt2) pos.line X.env = pure false := by rfl) :
    DS X (.Assign [.Tuple [.Name x px, .Name y py, .Name z pz] kt pt] (.Tuple [a, b, c] k2 pt2) pos) (dPar3 i j l da) := PS.le (ps_par3 hc hN hi hj hl hij hil hjl hx hy hz ha hw hs) fun E σ H ⟨F, ρ, G, S, q, f1, f2, f3, f4⟩ =>
  ⟨F, ρ, _, S, q, fun rs ρ1 vs F1 H1 q S1 T1 f => by
    split at q
    · rename_i r r' r''
      match vs, f with
      | [v, w, u], ⟨g1, g2, g3, _⟩ =>
        refine ⟨v, w, u, rfl, ?_⟩
        obtain ⟨d, ρ2, F2, q, S2, T2, dp, e2, o2⟩ := fzR_ok S1 g1.w T1 q
        obtain ⟨d', ρ3, F3, q, S3, T3, dp', e3, o3⟩ := fzR_ok S2 (g2.w.frz e2 o2) T2 q
        obtain ⟨d'', ρ4, F4, q, S4, T4, dp'', e4, o4⟩ := fzR_ok S3 ((g3.w.frz e2 o2).frz e3 o3) T3 q
        have S5 := S4.store (i := i) (v := v) (s := .fz d) (dp_mono (e3.trans e4) dp)
        have S6 := S5.store (i := j) (v := w) (s := .fz d') (dp_mono e4 dp')
        have S7 := S6.store (i := l) (v := u) (s := .fz d'') dp''
        refine f1 _ _ _ _ q S7 ⟨T4.fext, T4.keep, T4.there, fun b z => ?_, T4.fnew⟩
        rcases oa_store S6 b z with z | ⟨⟨_, _, _, y⟩, _⟩
        · rcases oa_store S5 b z with y | ⟨⟨_, _, _, y⟩, _⟩
          · rcases oa_store S4 b y with y | ⟨⟨_, _, _, y⟩, _⟩
            · exact T4.own b y
            · cases y
          · cases y
        · cases y
    · exact q.elim⟩
end
end TL

-- part TL20
/-! TL20: in, not in. -/
namespace TL
open PySem PySem.Spec L2
open Evl (Ex ex_l ex_t)
variable [Lay]
theorem inV_ints (i : Int) (ns : List Int) : inV (.int i) (ns.map V.int) = decide (i ∈ ns) := by
  unfold inV
  rw [List.any_map, Bool.eq_iff_iff, List.any_eq_true, decide_eq_true_eq]
  constructor
  · rintro ⟨j, hj, h⟩
    have : j = i := by simpa [eqV] using h
    exact this ▸ hj
  · intro h
    exact ⟨i, h, by simp [eqV]⟩
def strsOf : List D → Option (List Str)
  | [] => some []
  | .str i :: ds => (strsOf ds).map (i :: ·)
  | _ :: _ => none
theorem strsOf_eq : ∀ {ds : List D} {ns : List Str}, strsOf ds = some ns → ds = ns.map .str
  | [], ns, h => by cases h; rfl
  | d :: ds, ns, h => by
    cases d with
    | str i =>
      unfold strsOf at h
      cases e : strsOf ds with
      | none => rw [e] at h; cases h
      | some ms => rw [e] at h; cases h; rw [strsOf_eq e]; rfl
    | _ => cases h
theorem strsOf_map : ∀ ns : List Str, strsOf (ns.map .str) = some ns
  | [] => rfl
  | n :: ns => by rw [List.map_cons, strsOf, strsOf_map ns]; rfl
theorem inV_strs (i : Str) (ns : List Str) : inV (.str i) (ns.map V.str) = decide (i ∈ ns) := by
  unfold inV
  rw [List.any_map, Bool.eq_iff_iff, List.any_eq_true, decide_eq_true_eq]
  constructor
  · rintro ⟨j, hj, h⟩
    have : j = i := by simpa [eqV] using h
    exact this ▸ hj
  · intro h
    exact ⟨i, h, by simp [eqV]⟩
theorem flat_strs' (ns : List Str) : (ns.map V.str).all flatV = true := by
  rw [List.all_eq_true]
  intro v hv
  obtain ⟨i, _, rfl⟩ := List.mem_map.mp hv
  rfl
/-- an int in a list or tuple of ints, a text in a list or tuple of texts -/
@[simp] def gInB (f : Bool → Bool) : D → D → (Res → Prop) → Prop
  | .int i, .list ds, k => ∃ ns, intsOf ds = some ns ∧ k (.fz (.bool (f (decide (i ∈ ns)))))
  | .int i, .tuple ds, k => ∃ ns, intsOf ds = some ns ∧ k (.fz (.bool (f (decide (i ∈ ns)))))
  | .str i, .list ds, k => ∃ ns, strsOf ds = some ns ∧ k (.fz (.bool (f (decide (i ∈ ns)))))
  | .str i, .tuple ds, k => ∃ ns, strsOf ds = some ns ∧ k (.fz (.bool (f (decide (i ∈ ns)))))
  | _, _, _ => False
@[simp] abbrev gIn := gInB fun b => b
@[simp] abbrev gNin := gInB fun b => !b
section
variable {X : Cx}
theorem in_seq {K : PySem.W.Frag} {F H : Hp} {neg : Bool} {f : Bool → Bool} (hf : ∀ b, f b = if neg = true then !b else b) {x y : V} {dx dy : D} {k : Res → Prop} {Q : VK} (se : Ex F H) (hx : RdAt K F H x dx) (hy : RdAt K F H y dy) (g : gInB f dx dy k)
    (fin : ∀ z v F' H', k z → New K F H F' H' v z → Q v H') : rIn K neg x y H Q := by
  have fn : ∀ {v : V} {vs : List V} {b : Bool}, inV v vs = b → k (.fz (.bool (f b))) → Q (.bl (if neg = true then !inV v vs else inV v vs)) H := fun {v vs b} e hk => by
    rw [e, ← hf]
    exact fin _ _ _ _ hk (New.val se (.bl _))
  unfold gInB at g
  split at g
  · obtain ⟨ns, e, g⟩ := g
    cases hx.int
    obtain ⟨a, ys, rfl, h1, h2⟩ := hy.list se
    rw [intsOf_eq e] at h2
    rw [dpAll_ints h2] at h1
    exact ⟨a, _, rfl, .inl (.inl h1), rfl, flat_ints' ns, fn (inV_ints _ _) g⟩
  · obtain ⟨ns, e, g⟩ := g
    cases hx.int
    obtain ⟨a, ys, rfl, h1, h2, _⟩ := hy.tuple
    rw [intsOf_eq e] at h2
    rw [dpAll_ints h2] at h1
    exact ⟨a, _, rfl, .inr (ex_t se h1), rfl, flat_ints' ns, fn (inV_ints _ _) g⟩
  · obtain ⟨ns, e, g⟩ := g
    cases hx.str
    obtain ⟨a, ys, rfl, h1, h2⟩ := hy.list se
    rw [strsOf_eq e] at h2
    rw [dpAll_strs h2] at h1
    exact ⟨a, _, rfl, .inl (.inl h1), rfl, flat_strs' ns, fn (inV_strs _ _) g⟩
  · obtain ⟨ns, e, g⟩ := g
    cases hx.str
    obtain ⟨a, ys, rfl, h1, h2, _⟩ := hy.tuple
    rw [strsOf_eq e] at h2
    rw [dpAll_strs h2] at h1
    exact ⟨a, _, rfl, .inr (ex_t se h1), rfl, flat_strs' ns, fn (inV_strs _ _) g⟩
  · exact g.elim
theorem op_gIn : OpR X (compareOp .In) (r2 X.K gIn) := fun pins s σ H x y v u Q I rx ry ⟨F, dx, dy, k, se, hx, hy, g, fin⟩ =>
  op_in_seq pins s σ H x y v u Q I rx ry (in_seq (fun b => by simp) se hx hy g fin)
theorem op_gNin : OpR X (compareOp .NotIn) (r2 X.K gNin) := fun pins s σ H x y v u Q I rx ry ⟨F, dx, dy, k, se, hx, hy, g, fin⟩ =>
  op_notIn_seq pins s σ H x y v u Q I rx ry (in_seq (fun b => by simp) se hx hy g fin)
/-- data of any depth in a list -/
@[simp] def gInD (f : Bool → Bool) : D → D → (Res → Prop) → Prop
  | d, .list ds, k => Sh d ∧ Sh (.list ds) ∧ k (.fz (.bool (f (ds.any fun z => PyData.eqv z d))))
  | _, _, _ => False
theorem op_gInD (hu : X.A.units + 65 < cLine) : OpR X (compareOp .In) (r2 X.K (gInD fun b => b)) := by
  intro pins s σ H x y v u Q I rx ry ⟨F, dx, dy, k, se, hx, hy, g, fin⟩
  unfold gInD at g
  split at g
  · exact op_inD hu pins s σ H _ _ v u Q I rx ry ⟨_, _, hx.l2 se g.1, hy.l2 se g.2.1, g.1, g.2.1, r2_val se g.2.2 fin (.bl _)⟩
  · exact g.elim
theorem op_gNinD (hu : X.A.units + 65 < cLine) : OpR X (compareOp .NotIn) (r2 X.K (gInD fun b => !b)) := by
  intro pins s σ H x y v u Q I rx ry ⟨F, dx, dy, k, se, hx, hy, g, fin⟩
  unfold gInD at g
  split at g
  · exact op_notInD hu pins s σ H _ _ v u Q I rx ry ⟨_, _, hx.l2 se g.1, hy.l2 se g.2.1, g.1, g.2.1, r2_val se g.2.2 fin (.bl _)⟩
  · exact g.elim
theorem room65 {k : Nat} {A : Around} (r : Room k A) : A.units + 65 < cLine := by have := r.un; omega
theorem room1 {k : Nat} {A : Around} (r : Room k A) : A.units + 1 < cLine := by have := r.un; omega
/-- a sign in a text -/
@[simp] def gInS (f : Bool → Bool) : D → D → (Res → Prop) → Prop
  | .str a, .str z, k => ∃ c, a = ⟨#[c]⟩ ∧ k (.fz (.bool (f (decide (c ∈ z.cps.toList)))))
  | _, _, _ => False
theorem op_gInS : OpR X (compareOp .In) (r2 X.K (gInS fun b => b)) := by
  intro pins s σ H x y v u Q I rx ry ⟨F, dx, dy, k, se, hx, hy, g, fin⟩
  unfold gInS at g
  split at g
  · obtain ⟨c, rfl, g⟩ := g
    cases hx.str; cases hy.str
    exact op_in_sign pins s σ H _ _ v u Q I rx ry ⟨c, _, rfl, rfl, r2_val se g fin (.bl _)⟩
  · exact g.elim
theorem op_gNinS : OpR X (compareOp .NotIn) (r2 X.K (gInS fun b => !b)) := by
  intro pins s σ H x y v u Q I rx ry ⟨F, dx, dy, k, se, hx, hy, g, fin⟩
  unfold gInS at g
  split at g
  · obtain ⟨c, rfl, g⟩ := g
    cases hx.str; cases hy.str
    exact op_notIn_sign pins s σ H _ _ v u Q I rx ry ⟨c, _, rfl, rfl, r2_val se g fin (.bl _)⟩
  · exact g.elim
end
end TL

-- part TL21
/-! TL21: dicts that a slot owns. -/
namespace TL
open PySem PySem.Spec L2
open Evl (Ex ex_l ex_t)
variable [Lay]
/-- the pair of a key -/
def lookD (ps : List (D × D)) (key : D) : Option D := (ps.find? fun p => PyData.eqv p.1 key).map (·.2)
def putD (ps : List (D × D)) (key v : D) : List (D × D) := if (ps.any fun p => PyData.eqv p.1 key) = true then ps.map (fun p => if PyData.eqv p.1 key = true then (p.1, v) else p) else ps ++ [(key, v)]
theorem nb_kD (k : Key) : Nb (kD k) = true := by cases k <;> simp [kD, Nb]
theorem kD_inj {a b : Key} (h : kD a = kD b) : a = b := by
  cases a <;> cases b <;> simp [kD] at h <;> rw [h]
theorem kDs_inj : ∀ {a b : List Key}, a.map kD = b.map kD → a = b
  | [], [], _ => rfl
  | [], _ :: _, h => by simp at h
  | _ :: _, [], h => by simp at h
  | x :: a, y :: b, h => by simp only [List.map_cons, List.cons.injEq] at h; rw [kD_inj h.1, kDs_inj h.2]
theorem nb_kDs (ks : List Key) : Nb (.tuple (ks.map kD)) = true := nb_tuple fun d hd => by
  obtain ⟨k, _, rfl⟩ := List.mem_map.mp hd
  exact nb_kD k
theorem eqv_kD (a b : Key) : PyData.eqv (kD a) (kD b) = decide (a = b) := by
  rw [Bool.eq_iff_iff, eqv_iff (nb_kD a) (nb_kD b), decide_eq_true_eq]
  exact ⟨kD_inj, congrArg kD⟩
theorem eqv_kDs (a b : List Key) : PyData.eqv (.tuple (a.map kD)) (.tuple (b.map kD)) = decide (a = b) := by
  rw [Bool.eq_iff_iff, eqv_iff (nb_kDs a) (nb_kDs b), decide_eq_true_eq, PyData.tuple.injEq]
  exact ⟨kDs_inj, congrArg _⟩
/-- pairs of one list as those of the other; c: a key as data -/
def KVs (K : PySem.W.Frag) (F : Hp) {κ : Type} (c : κ → D) (kvs : List (κ × V)) (ps : List (D × D)) : Prop := Paired (fun (p : κ × V) (q : D × D) => q.1 = c p.1 ∧ Dp K F p.2 q.2) kvs ps
section
variable {K : PySem.W.Frag} {F : Hp} {κ : Type} [DecidableEq κ] {c : κ → D} {kvs : List (κ × V)} {ps : List (D × D)} {k : κ}
theorem KVs.look (hc : ∀ a b, PyData.eqv (c a) (c b) = decide (a = b)) (h : KVs K F c kvs ps) : match lookD ps (c k) with
    | some d => ∃ v, valV kvs k = some v ∧ Dp K F v d
    | none => valV kvs k = none := by
  unfold KVs at h
  induction h with
  | nil => rfl
  | @cons p q ps' qs h t ih =>
    obtain ⟨h1, h2⟩ := h
    unfold lookD valV at ih ⊢
    rw [List.find?_cons, List.find?_cons, h1, hc]
    by_cases e : p.1 = k
    · simp only [e, decide_true]
      exact ⟨_, rfl, h2⟩
    · simp only [e, decide_false]
      exact ih
theorem KVs.put {v : V} {d : D} (hc : ∀ a b, PyData.eqv (c a) (c b) = decide (a = b)) (h : KVs K F c kvs ps) (dv : Dp K F v d) : KVs K F c (putK kvs k v) (putD ps (c k) d) := by
  have an : (kvs.any fun kv => decide (kv.1 = k)) = ps.any fun p => PyData.eqv p.1 (c k) := by
    unfold KVs at h
    induction h with
    | nil => rfl
    | @cons p q ps' qs h t ih => rw [List.any_cons, List.any_cons, ih, h.1, hc]
  have mp : KVs K F c (kvs.map fun kv => if kv.1 = k then (kv.1, v) else kv) (ps.map fun p => if PyData.eqv p.1 (c k) = true then (p.1, d) else p) := by
    clear an
    unfold KVs at h ⊢
    induction h with
    | nil => exact .nil
    | @cons p q ps' qs h t ih =>
      rw [List.map_cons, List.map_cons]
      refine .cons ?_ ih
      rw [h.1, hc]
      by_cases e : p.1 = k
      · simp only [e, decide_true, if_true]
        exact ⟨trivial, dv⟩
      · simp only [e, decide_false, if_false]
        exact h
  unfold putK putD
  rw [an]
  split
  · exact mp
  · unfold KVs at h ⊢
    have ap : ∀ {as : List (κ × V)} {bs : List (D × D)}, Paired (fun (p : κ × V) (q : D × D) => q.1 = c p.1 ∧ Dp K F p.2 q.2) as bs → Paired (fun (p : κ × V) (q : D × D) => q.1 = c p.1 ∧ Dp K F p.2 q.2) (as ++ [(k, v)]) (bs ++ [(c k, d)]) := fun {as bs} h => by
      induction h with
      | nil => exact .cons ⟨rfl, dv⟩ .nil
      | cons h t ih => exact .cons h ih
    exact ap h
theorem KVs.len (h : KVs K F c kvs ps) : kvs.length = ps.length := Paired.length h
end
/-- a key, of an int and text dict; of a tuple dict -/
def keyK (d : D) : Option Key := match d with | .int i => some (.inl i) | .str x => some (.inr x) | _ => none
def keysT : List D → Option (List Key)
  | [] => some []
  | d :: ds => match keyK d, keysT ds with | some k, some ks => some (k :: ks) | _, _ => none
theorem keyK_eq {d : D} {k : Key} (h : keyK d = some k) : d = kD k := by
  unfold keyK at h
  split at h <;> cases h <;> rfl
theorem keysT_eq : ∀ {ds : List D} {ks : List Key}, keysT ds = some ks → ds = ks.map kD
  | [], ks, h => by cases h; rfl
  | d :: ds, ks, h => by
    unfold keysT at h
    split at h
    · rename_i k ks' h1 h2
      cases h
      rw [keyK_eq h1, keysT_eq h2]
      rfl
    · cases h
theorem dp_kD {K : PySem.W.Frag} {F : Hp} {v : V} {k : Key} (h : Dp K F v (kD k)) : v = kV k := by
  cases k with
  | inl i => cases h; rfl
  | inr x => cases h; rfl
theorem dpAll_kD {K : PySem.W.Frag} {F : Hp} : ∀ {vs : List V} {ks : List Key}, DpAll K F vs (ks.map kD) → vs = ks.map kV
  | _, [], .nil => rfl
  | _, k :: ks, .cons h hs => by rw [dp_kD h, dpAll_kD hs]; rfl
/-- the dict at a, of the kind κ, asked at the key dk that lies at y -/
def okKey : Kd → D → Prop
  | .k, d => (keyK d).isSome = true
  | .t, .tuple ds => (keysT ds).isSome = true
  | _, _ => False
theorem dget_at {K : PySem.W.Frag} {F H : Hp} {κ : Kd} {a : Addr} {y : V} {dk : D} {ps : List (D × D)} (hn : κ = .t → Lay.norm) (s : Ex F H) (h : OwAt K F H κ a (.dict ps)) (hy : RdAt K F H y dk) (ok : okKey κ dk) :
    ∃ o, DGet H a y o ∧ match lookD ps dk with
      | some d => ∃ v, o = some v ∧ Dp K F v d
      | none => o = none := by
  cases κ with
  | l => exact ok.elim
  | k =>
    obtain ⟨kvs, _, e, h1, h2⟩ := h
    cases e
    obtain ⟨k, hk⟩ := Option.isSome_iff_exists.mp (show (keyK dk).isSome = true from ok)
    cases keyK_eq hk
    have ey : y = kV k := by
      rcases hy with hy | ⟨κ', b, _, hb⟩
      · exact dp_kD hy
      · cases κ' <;> (obtain ⟨_, _, e, _⟩ := hb; cases k <;> cases e)
    subst ey
    exact ⟨_, DGet.k h1, KVs.look (c := kD) eqv_kD h2⟩
  | t =>
    obtain ⟨kvs, _, e, h1, h2⟩ := h
    cases e
    cases dk with
    | tuple ds =>
      obtain ⟨ks, hk⟩ := Option.isSome_iff_exists.mp (show (keysT ds).isSome = true from ok)
      cases keysT_eq hk
      have ey : ∃ b, y = .ref b ∧ H b = some (.tup (ks.map kV)) := by
        rcases hy with hy | ⟨κ', b, _, hb⟩
        · cases hy with | tup q1 q2 =>
            have q1 := q1.ex (hn rfl)
            rw [dpAll_kD q2] at q1
            exact ⟨_, rfl, s _ _ q1⟩
        · cases κ' <;> (obtain ⟨_, _, e, _⟩ := hb; cases e)
      obtain ⟨b, rfl, hb⟩ := ey
      exact ⟨_, DGet.t h1 hb, KVs.look (c := fun ks : List Key => .tuple (ks.map kD)) eqv_kDs h2⟩
    | _ => exact ok.elim
/-- content of a result that is a dict of the kind κ of the frame's own -/
@[simp] def wk (κ : Kd) (r : Res) (ρ : List Slot) (k : List (D × D) → Prop) : Prop := match r with
  | .tm κ' (.dict ps) => κ' = κ ∧ k ps
  | .bo i => match ρ[i]? with
    | some (.ow _ κ' (.dict ps)) => κ' = κ ∧ k ps
    | _ => False
  | _ => False
theorem wk_ow {K : PySem.W.Frag} {F H H0 : Hp} {σ : L2.St} {ρ : List Slot} {κ : Kd} {v : V} {r : Res} {k : List (D × D) → Prop} (S : Sta K F H σ ρ) (f : Fits K F H σ ρ H0 v r) (h : wk κ r ρ k) : ∃ a ps, v = .ref a ∧ OwAt K F H κ a (.dict ps) ∧ k ps := by
  unfold wk at h
  split at h
  · obtain ⟨rfl, h⟩ := h
    obtain ⟨a, rfl, q, _⟩ := f
    exact ⟨a, _, rfl, q, h⟩
  · rename_i i
    split at h
    · rename_i t κ' ps e
      obtain ⟨rfl, h⟩ := h
      obtain ⟨a, e1, q, _⟩ := S.ow i _ _ _ e
      rw [show σ[i]? = some (some v) from f] at e1
      cases e1
      exact ⟨a, ps, rfl, q, h⟩
    · exact h.elim
  · exact h.elim
section
variable {X : Cx} {o i e : Expr} {do_ di : DTE} {pos : Pos}
@[simp] def dDNew (κ : Kd) : DTE := fun ρ k => k (.tm κ (.dict [])) ρ
theorem new_dict {K : PySem.W.Frag} {F H : Hp} {p : Addr} {κ : Kd} {u : HO} (s : Ex F H) (hp : H p = none) (ho : OwAt K F (upd H p u) κ p (.dict [])) : New K F H F (upd H p u) (.ref p) (.tm κ (.dict [])) := by
  have fp : F p = none := by
    cases e : F p with
    | none => rfl
    | some o => rw [s p o e] at hp; cases hp
  exact ⟨Ex.refl F, Ex.new hp, s.trans (Ex.new hp), fun _ _ h => .inl h, p, rfl, ho, fp, hp⟩
theorem de_dnewK : DE X (.Dict [] [] pos) (dDNew .k) := PE.le pe_dnewK fun σ H Q ⟨F, ρ, k, S, q, fin⟩ => fun p hp => by
  have n := new_dict (K := X.K) (κ := .k) S.sub hp ⟨[], [], rfl, upd_same, .nil⟩
  exact fin _ _ _ _ _ q (n.sta S) n.tr (n.fits S fun _ z => z)
theorem de_dnewT : DE X (.Dict [] [] pos) (dDNew .t) := PE.le pe_dnewT fun σ H Q ⟨F, ρ, k, S, q, fin⟩ => fun p hp => by
  have n := new_dict (K := X.K) (κ := .t) S.sub hp ⟨[], [], rfl, upd_same, .nil⟩
  exact fin _ _ _ _ _ q (n.sta S) n.tr (n.fits S fun _ z => z)
/-- d[k] -/
@[simp] def dDGet (κ : Kd) (do_ di : DTE) : DTE := fun ρ k => do_ ρ fun r ρ1 => di ρ1 fun rk ρ2 => wk κ r ρ2 fun ps => wc rk ρ2 fun dk => okKey κ dk ∧ ∃ d, lookD ps dk = some d ∧ k (.fz d) ρ2
theorem de_dget {κ : Kd} (hn : κ = .t → Lay.norm) (hu : X.A.units + 1 < cLine) (ho : DE X o do_) (hi : DE X i di) (hs : NoSl i := by intro _ _; rfl) : DE X (.Subscript o i pos) (dDGet κ do_ di) :=
  PE.le (pe_dget hu ho hi hs) fun σ H Q ⟨F, ρ, k, S, q, fin⟩ => up2 S q fun x y ρ' v u F' H' q S' T f1 f2 => by
    obtain ⟨a, ps, rfl, h1, q⟩ := wk_ow S' f1 q
    obtain ⟨dk, h2, ok, d, hd, q⟩ := wc_rd S' f2 q
    obtain ⟨ov, g, m⟩ := dget_at hn S'.sub h1 h2 ok
    rw [hd] at m
    obtain ⟨w, rfl, dp⟩ := m
    exact ⟨a, w, rfl, g, fin _ _ _ _ _ q S' T dp⟩
/-- k in d, k not in d -/
@[simp] def dDIn (κ : Kd) (f : Bool → Bool) (di do_ : DTE) : DTE := fun ρ k => di ρ fun rk ρ1 => do_ ρ1 fun r ρ2 => wk κ r ρ2 fun ps => wc rk ρ2 fun dk => okKey κ dk ∧ k (.fz (.bool (f (lookD ps dk).isSome))) ρ2
theorem din_fin {κ : Kd} {K : PySem.W.Frag} (hn : κ = .t → Lay.norm) {f : Bool → Bool} {σ : L2.St} {H : Hp} {Q : VK} (h : up K (dDIn κ f di do_) σ H Q) :
    up K di σ H fun y H1 => up K do_ σ H1 fun x H2 => ∃ a o, x = .ref a ∧ DGet H2 a y o ∧ Q (.bl (f o.isSome)) H2 := by
  obtain ⟨F, ρ, k, S, q, fin⟩ := h
  refine up2 S q fun x y ρ' v u F' H' q S' T f1 f2 => ?_
  obtain ⟨a, ps, rfl, h1, q⟩ := wk_ow S' f2 q
  obtain ⟨dk, h2, ok, q⟩ := wc_rd S' f1 q
  obtain ⟨ov, g, m⟩ := dget_at hn S'.sub h1 h2 ok
  have e : ov.isSome = (lookD ps dk).isSome := by
    cases e : lookD ps dk with
    | none => rw [e] at m; rw [m]; rfl
    | some d => rw [e] at m; obtain ⟨w, rfl, _⟩ := m; rfl
  exact ⟨a, ov, rfl, g, by rw [e]; exact fin _ _ _ _ _ q S' T (.bl _)⟩
theorem de_din {κ : Kd} (hn : κ = .t → Lay.norm) (hu : X.A.units + 1 < cLine) (hi : DE X i di) (ho : DE X o do_) (hm : behindInMarks .In o = false := by first | exact nobehind _ (by decide) (by decide) | rfl) : DE X (.Compare i [.In] [o] pos) (dDIn κ (fun b => b) di do_) :=
  PE.le (pe_cmp (pc_din hu hi ho) hm) fun σ H Q h => din_fin hn h
theorem de_dnin {κ : Kd} (hn : κ = .t → Lay.norm) (hu : X.A.units + 1 < cLine) (hi : DE X i di) (ho : DE X o do_) (hm : behindInMarks .NotIn o = false := by first | exact nobehind _ (by decide) (by decide) | rfl) : DE X (.Compare i [.NotIn] [o] pos) (dDIn κ (fun b => !b) di do_) :=
  PE.le (pe_cmp (pc_dnotin hu hi ho) hm) fun σ H Q h => din_fin hn h
theorem dt_din {κ : Kd} (hn : κ = .t → Lay.norm) (hu : X.A.units + 1 < cLine) (hi : DE X i di) (ho : DE X o do_) (hm : behindInMarks .In o = false := by first | exact nobehind _ (by decide) (by decide) | rfl) : DT X (.Compare i [.In] [o] pos) (dTest (dDIn κ (fun b => b) di do_)) :=
  PT.le (pt_cmp (pc_din hu hi ho) hm) fun σ H Q h => din_fin (f := fun b => b) hn (up_test h)
theorem dt_dnin {κ : Kd} (hn : κ = .t → Lay.norm) (hu : X.A.units + 1 < cLine) (hi : DE X i di) (ho : DE X o do_) (hm : behindInMarks .NotIn o = false := by first | exact nobehind _ (by decide) (by decide) | rfl) : DT X (.Compare i [.NotIn] [o] pos) (dTest (dDIn κ (fun b => !b) di do_)) :=
  PT.le (pt_cmp (pc_dnotin hu hi ho) hm) fun σ H Q h => din_fin (f := fun b => !b) hn (up_test h)
/-- d[k] = v -/
@[simp] def gSetD : Kd → D → D → D → (D → Prop) → Prop
  | κ, .dict ps, dk, v, k => okKey κ dk ∧ ps.length < sizeLine ∧ k (.dict (putD ps dk v))
  | _, _, _, _, _ => False
theorem set_gSetD (hn : Lay.norm) (hu : X.A.units + 1 < cLine) : PSet X (rset X.K gSetD) := by
  intro pins s σ H o i v ov iv u Q I ro ri rv ⟨F, a, κ, d, di, dv, k, se, e, ho, fa, hi, dp, g, fin⟩
  subst e
  unfold gSetD at g
  split at g
  · rename_i ps
    obtain ⟨ok, hl, g⟩ := g
    cases κ with
    | l => exact ok.elim
    | k =>
      obtain ⟨kvs, _, e, h1, h2⟩ := ho
      cases e
      obtain ⟨key, hk⟩ := Option.isSome_iff_exists.mp (show (keyK di).isSome = true from ok)
      cases keyK_eq hk
      have ey : i = kV key := by
        rcases hi with hy | ⟨κ', b, _, hb⟩
        · exact dp_kD hy
        · cases κ' <;> (obtain ⟨_, _, e, _⟩ := hb; cases key <;> cases e)
      subst ey
      have l1 : kvs.length = ps.length := Paired.length h2
      exact set_dict hu pins s σ H _ _ v ov iv u Q I ro ri rv ⟨a, _, rfl, DPut.k h1 (by omega), fin _ _ g (fun b hb => upd_ne hb) ⟨_, _, rfl, upd_same, KVs.put (c := kD) eqv_kD h2 dp⟩⟩
    | t =>
      obtain ⟨kvs, _, e, h1, h2⟩ := ho
      cases e
      cases di with
      | tuple ds =>
        obtain ⟨ks, hk⟩ := Option.isSome_iff_exists.mp (show (keysT ds).isSome = true from ok)
        cases keysT_eq hk
        have ey : ∃ b, i = .ref b ∧ H b = some (.tup (ks.map kV)) := by
          rcases hi with hy | ⟨κ', b, _, hb⟩
          · cases hy with | tup q1 q2 =>
              have q1 := q1.ex hn
              rw [dpAll_kD q2] at q1
              exact ⟨_, rfl, se _ _ q1⟩
          · cases κ' <;> (obtain ⟨_, _, e, _⟩ := hb; cases e)
        obtain ⟨b, rfl, hb⟩ := ey
        have l1 : kvs.length = ps.length := Paired.length h2
        exact set_dict hu pins s σ H _ _ v ov iv u Q I ro ri rv ⟨a, _, rfl, DPut.t h1 hb (by omega), fin _ _ g (fun b hb => upd_ne hb) ⟨_, _, rfl, upd_same, KVs.put (c := fun ks : List Key => .tuple (ks.map kD)) eqv_kDs h2 dp⟩⟩
      | _ => exact ok.elim
  · exact g.elim
end
end TL

-- part TL22
/-! TL22: a, b = x, y where new objects are kept as the slots' own. -/
namespace TL
open PySem PySem.Spec L2
open Evl (Ex ex_l ex_t)
variable [Lay]
@[simp] def slN : Res → (Slot → Prop) → Prop
  | .fz d, k => k (.fz d)
  | .tm κ d, k => k (.ow none κ d)
  | _, _ => False
def dParS (i j : Nat) (da db : DTE) : DTS := fun E ρ => da ρ fun r ρ1 => db ρ1 fun r' ρ2 => slN r fun s => slN r' fun s' => E.nx ((ρ2.set i s).set j s')
section
variable {X : Cx}
theorem ds_parS {i j : Nat} {x y : Str} {a b : Expr} {da db : DTE} {px py pt pos : Pos} {kt k2 pt2} (hc : X.calm = true) (hN : X.N.Nodup) (hi : X.N[i]? = some x) (hj : X.N[j]? = some y) (hij : i ≠ j)
    (hx : X.env.scope.names.lookup x = some .local) (hy : X.env.scope.names.lookup y = some .local) (ha : DE X a da) (hb : DE X b db)
    (hw : swappedStores [.Tuple [.Name x px, .Name y py] kt pt] (.Tuple [a, b] k2 pt2) X.env = pure (some [x, y]))
    (hs : swapsWithSole [.Tuple [.Name x px, .Name y py] kt pt] (.Tuple [a, b] k2 pt2) pos.line X.env = pure false := by rfl)
    (h1 : starEach [a, b] X.env = (false, eval a X.env) :: starEach [b] X.env := by rfl) (h2 : starEach [b] X.env = (false, eval b X.env) :: starEach [] X.env := by rfl) :
    DS X (.Assign [.Tuple [.Name x px, .Name y py] kt pt] (.Tuple [a, b] k2 pt2) pos) (dParS i j da db) := PS.le (ps_par hc hN hi hj hij hx hy (pa_cons ha (pa_cons hb pa_nil h2) h1) hw hs) fun E σ H ⟨F, ρ, G, S, q, f1, f2, f3, f4⟩ => by
  refine ⟨F, ρ, _, S, q, fun r ρ1 v F1 H1 q S1 T1 g1 => ⟨F1, ρ1, _, S1, q, fun r' ρ2 w F2 H2 q S2 T2 g2 => ⟨v, w, rfl, ?_⟩⟩⟩
  have T := T1.trans T2
  have g1' := g1.later T2.toTr
  -- the first
  have st1 : ∃ s, (∀ t, s ≠ Slot.rd t) ∧ slN r' (fun s' => G.nx ((ρ2.set i s).set j s')) ∧ Sta X.K F2 H2 (σ.set i (some v)) (ρ2.set i s) ∧ Tr F H σ ρ F2 H2 (σ.set i (some v)) (ρ2.set i s) ∧ ((∃ t κ d, s = .ow t κ d) → ∀ c, v = .ref c → ∃ o, H1 c = some o) := by
    cases r with
    | fz d =>
      exact ⟨.fz d, fun _ z => (by cases z), q, S2.store (s := .fz d) g1', T.store S2 fun _ h _ => (by obtain ⟨_, _, _, z⟩ := h; cases z), fun h => (by obtain ⟨_, _, _, z⟩ := h; cases z)⟩
    | tm κ d =>
      obtain ⟨c, rfl, ho, hn, hoa, hz⟩ := g1'
      obtain ⟨c', e', ho1, _⟩ := g1
      cases e'
      refine ⟨.ow none κ d, fun _ z => (by cases z), q, S2.store (s := .ow none κ d) ⟨rfl, c, rfl, ho, hn, hoa, fun j d' hj hs => ?_⟩, T.store S2 fun b' _ e => (by cases e; exact hz), fun _ c2 e => (by cases e; exact ho1.some)⟩
      rcases T.slrd j d' hj with y | ⟨t, κ', d0, y⟩
      · obtain ⟨w', h1, h2⟩ := S.rd j d' y
        rw [hs] at h1
        cases h1
        rcases h2 with h2 | ⟨κ', b', e, h2, _⟩
        · exact dp_mono T.fext h2
        · cases e
          obtain ⟨o', ho'⟩ := h2.some
          rw [hz] at ho'; cases ho'
      · obtain ⟨b', h1, h2, _⟩ := S.ow j t κ' d0 y
        rw [hs] at h1
        cases h1
        obtain ⟨o', ho'⟩ := h2.some
        rw [hz] at ho'; cases ho'
    | rd d => exact q.elim
    | bo i => exact q.elim
  obtain ⟨s, hsr, q, S3, T3, own⟩ := st1
  cases r' with
  | fz d =>
    have S4 := S3.store (i := j) (v := w) (s := .fz d) g2
    refine f1 _ _ _ _ q S4 ⟨T3.fext, T3.keep, T3.there, fun b' z => ?_, T3.fnew⟩
    rcases oa_store S3 b' z with y | ⟨⟨_, _, _, y⟩, _⟩
    · exact T3.own b' y
    · cases y
  | tm κ d =>
    obtain ⟨c, rfl, ho, hn, hoa, hz⟩ := g2
    have n3 : ¬ OA (σ.set i (some v)) (ρ2.set i s) c := fun z => by
      rcases oa_store S2 c z with y | ⟨y, e⟩
      · exact hoa y
      · obtain ⟨o, h⟩ := own y c e
        rw [hz] at h; cases h
    have S4 := S3.store (i := j) (v := .ref c) (s := .ow none κ d) ⟨rfl, c, rfl, ho, hn, n3, fun l d' hl hs => ?_⟩
    · refine f1 _ _ _ _ q S4 ⟨T3.fext, T3.keep, T3.there, fun b' z => ?_, T3.fnew⟩
      rcases oa_store S3 b' z with y | ⟨_, e⟩
      · exact T3.own b' y
      · cases e
        exact .inr (T1.none hz)
    · rcases get_sets hl with ⟨_, y⟩ | ⟨ne, y⟩
      · exact absurd y.symm (hsr d')
      · rw [List.getElem?_set_ne ne] at hs
        rcases T2.slrd l d' y with y | ⟨t, κ', d0, y⟩
        · obtain ⟨w', h1, h2⟩ := S1.rd l d' y
          rw [hs] at h1
          cases h1
          rcases h2 with h2 | ⟨κ', b', e, h2, _⟩
          · exact dp_mono T2.fext h2
          · cases e
            obtain ⟨o', ho'⟩ := h2.some
            rw [hz] at ho'; cases ho'
        · obtain ⟨b', h1, h2, _⟩ := S1.ow l t κ' d0 y
          rw [hs] at h1
          cases h1
          obtain ⟨o', ho'⟩ := h2.some
          rw [hz] at ho'; cases ho'
  | rd d => exact q.elim
  | bo i => exact q.elim
end
end TL

-- part Scm
/-! Scm: what the laws' common helpers promise. -/
namespace TL.cm
open PySem PySem.Spec L2
variable [Lay]
/-- ints as a list -/
def IL (ns : List Int) : D := .list (ns.map .int)
/-- the box of draws -/
def BoxD (d : D) : Prop := ∃ (r : List Int) (n : Int), d = .list [.list (r.map .int), .int n] ∧ r ≠ [] ∧ 0 ≤ n
@[simp] abbrev m__law_cell : List Md := [.fz, .fz]
def t__law_cell : TSp := fun ds k => ∃ ns i, ds = [scrD ns, .int i] ∧ 0 ≤ i ∧ ∀ n : Int, k (.fz (.int n)) []
@[simp] abbrev m__law_digits : List Md := [.fz, .fz, .fz]
def t__law_digits : TSp := fun ds k => ∃ ns a b, ds = [scrD ns, .int a, .int b] ∧ 0 ≤ a ∧ a < b ∧ b ≤ 1000 ∧ ∀ r : List Int, (∀ x ∈ r, 0 ≤ x ∧ x < 1000) → r ≠ [] → k (.tm .l (.list (r.map .int))) []
@[simp] abbrev m__law_draw : List Md := [.io .l, .fz]
def t__law_draw : TSp := fun ds k => ∃ b many, ds = [b, .int many] ∧ BoxD b ∧ 0 < many ∧ ∀ (x : Int) b', 0 ≤ x → x < many → BoxD b' → k (.fz (.int x)) [b']
@[simp] abbrev m__law_pick : List Md := [.io .l, .rd]
def t__law_pick : TSp := fun ds k => ∃ b row, (ds = [b, .list row] ∨ ds = [b, .tuple row]) ∧ BoxD b ∧ row ≠ [] ∧ ∀ x b', x ∈ row → BoxD b' → k (.fz x) [b']
/-- data that _law_same may be told twice -/
def Sm : Nat → D → Prop
  | _, .none => True
  | _, .bool _ => True
  | _, .int i => i.natAbs.log2 < 1920
  | _, .str z => (reprText z).length ≤ sizeLine
  | n + 1, .list ds => ds.length ≤ sizeLine ∧ ∀ d ∈ ds, Sm n d
  | n + 1, .tuple ds => ds.length ≤ sizeLine ∧ ∀ d ∈ ds, Sm n d
  | _, _ => False
@[simp] abbrev m__law_same : List Md := [.rd, .rd]
def u__law_same (n : Nat) : TSp := fun ds k => ∃ d, ds = [d, d] ∧ Sm n d ∧ k (.fz (.bool true)) []
def t__law_same : TSp := fun ds k => ∃ d, ds = [d, d] ∧ Sm 9 d ∧ k (.fz (.bool true)) []
end TL.cm

-- part Dcm
/-! Dcm: the defs as transformers over trees. Printed by gen.py. -/
namespace TL.cm
open PySem PySem.Spec L2
variable [Lay]

/-- slots: 0 script, 1 k -/
def d__law_cell : DTS :=
  (dSeq (dIfS (dTest (dBin gLt (dName 1) (dFn gLenS (dCons (dName 0) dNil))))
    (dRet (dBin gIxS (dName 0) (dName 1)))
    dNext)
  (dRet (dC (.int 0))))
def r__law_cell (ds : List D) (as : List Addr) : List Slot := entryR m__law_cell ds as ++ List.replicate 0 .un
def Ok__law_cell : Prop := ∀ ds k as, t__law_cell ds k → ds.length = m__law_cell.length → as.length = nio m__law_cell → d__law_cell { nx := finR m__law_cell as k (.fz .none), rt := finR m__law_cell as k } (entryR m__law_cell ds as ++ List.replicate (2 - m__law_cell.length) .un)
/-- slots: 0 script, 1 first, 2 last, 3 digits, 4 k, 5 cell, 6 lap, 7 seed -/
def b__law_digits_1 : DTS :=
  (dIfS (dTest (dBin gGt (dName 5) (dC (.int 0))))
          (dSeq (dDrop (dMu 3 gAppend (dCons (dBin gMod (dFn gInt (dCons (dName 5) dNil)) (dC (.int 1000))) dNil)))
          (dSet 5 (dBin gFdiv (dName 5) (dC (.int 1000)))))
          dNext)
def b__law_digits_2 : DTS :=
  (dSeq (dSet 7 (dBin gMod (dFn gInt (dCons (dBin gAdd (dBin gAdd (dBin gMul (dName 7) (dC (.int 16807))) (dBin gMul (dC (.int 7)) (dName 6))) (dC (.int 1))) dNil)) (dC (.int 2147483647))))
        (dDrop (dMu 3 gAppend (dCons (dBin gMod (dFn gInt (dCons (dBin gFdiv (dName 7) (dC (.int 997))) dNil)) (dC (.int 1000))) dNil))))
def b__law_digits_3 : DTS :=
  (dSeq (dSet 5 (dCall m__law_cell t__law_cell (dCons (dName 0) (dCons (dName 4) dNil))))
    (dSeq (dIfS (dTest (dBin gLt (dName 5) (dC (.int 0))))
      (dSet 5 (dBin gSub (dC (.int 1)) (dBin gMul (dC (.int 2)) (dName 5))))
      dNext)
    (dIfS (dTest (dBin gGe (dName 5) (dBin gPow (dC (.int 10)) (dC (.int 18)))))
      (dFor (dItR1 (dCons (dC (.int 60)) dNil)) (gN 6)
        b__law_digits_1)
      (dSeq (dSet 7 (dBin gMod (dFn gInt (dCons (dBin gAdd (dBin gAdd (dBin gMul (dName 5) (dC (.int 48271))) (dBin gMul (dName 4) (dC (.int 69621)))) (dC (.int 11))) dNil)) (dC (.int 2147483647))))
      (dFor (dItR1 (dCons (dC (.int 12)) dNil)) (gN 6)
        b__law_digits_2)))))
def d__law_digits : DTS :=
  (dSeq (dSet 3 (dLst dNil))
  (dSeq (dFor (dItR2 (dCons (dName 1) (dCons (dName 2) dNil))) (gN 4)
    b__law_digits_3)
  (dRet (dName 3))))
def r__law_digits (ds : List D) (as : List Addr) : List Slot := entryR m__law_digits ds as ++ List.replicate 5 .un
def Ok__law_digits : Prop := ∀ ds k as, t__law_digits ds k → ds.length = m__law_digits.length → as.length = nio m__law_digits → d__law_digits { nx := finR m__law_digits as k (.fz .none), rt := finR m__law_digits as k } (entryR m__law_digits ds as ++ List.replicate (8 - m__law_digits.length) .un)
/-- slots: 0 box, 1 many -/
def d__law_draw : DTS :=
  (dSeq (dStI 0 gSetL (dBin gAdd (dBin gIx (dName 0) (dC (.int 1))) (dC (.int 1))) (dC (.int 1)))
  (dSeq (dIfS (dTest (dBin gGt (dBin gIx (dName 0) (dC (.int 1))) (dFn gLen (dCons (dBin gIx (dName 0) (dC (.int 0))) dNil))))
    (dRet (dBin gMod (dFn gInt (dCons (dBin gAdd (dBin gAdd (dBin gIx (dBin gIx (dName 0) (dC (.int 0))) (dBin gMod (dFn gInt (dCons (dBin gMul (dBin gIx (dName 0) (dC (.int 1))) (dC (.int 31))) dNil)) (dFn gLen (dCons (dBin gIx (dName 0) (dC (.int 0))) dNil)))) (dBin gMul (dBin gIx (dName 0) (dC (.int 1))) (dC (.int 7)))) (dC (.int 3))) dNil)) (dName 1)))
    dNext)
  (dRet (dBin gMod (dFn gInt (dCons (dBin gIx (dBin gIx (dName 0) (dC (.int 0))) (dBin gSub (dBin gIx (dName 0) (dC (.int 1))) (dC (.int 1)))) dNil)) (dName 1)))))
def r__law_draw (ds : List D) (as : List Addr) : List Slot := entryR m__law_draw ds as ++ List.replicate 0 .un
def Ok__law_draw : Prop := ∀ ds k as, t__law_draw ds k → ds.length = m__law_draw.length → as.length = nio m__law_draw → d__law_draw { nx := finR m__law_draw as k (.fz .none), rt := finR m__law_draw as k } (entryR m__law_draw ds as ++ List.replicate (2 - m__law_draw.length) .un)
/-- slots: 0 told, 1 due, 2 k -/
def b__law_same_1 (tr : TSp) : DTS :=
  (dIfS (dNot (dTest (dCall m__law_same tr (dCons (dBin gIx (dName 0) (dName 2)) (dCons (dBin gIx (dName 1) (dName 2)) dNil)))))
      (dRet (dC (.bool false)))
      dNext)
def d__law_same (tr : TSp) : DTS :=
  (dSeq (dIfS (dTest (dUn gIsN (dName 1)))
    (dRet (dUn gIsN (dName 0)))
    dNext)
  (dSeq (dIfS (dTest (dBin gIs (dName 1) (dC (.bool true))))
    (dRet (dBin gIs (dName 0) (dC (.bool true))))
    dNext)
  (dSeq (dIfS (dTest (dBin gIs (dName 1) (dC (.bool false))))
    (dRet (dBin gIs (dName 0) (dC (.bool false))))
    dNext)
  (dSeq (dIfS (dTest (dIsI "str" (dName 1)))
    (dRet (dAndV (dIsI "str" (dName 0)) (dBin gEqS (dFn gRepr (dCons (dName 0) dNil)) (dFn gRepr (dCons (dName 1) dNil)))))
    dNext)
  (dSeq (dIfS (dTest (dIsI "int" (dName 1)))
    (dRet (dAndV (dIsI "int" (dName 0)) (dAndV (dNotV (dIsI "bool" (dName 0))) (dBin gEqS (dFn gRepr (dCons (dName 0) dNil)) (dFn gRepr (dCons (dName 1) dNil))))))
    dNext)
  (dSeq (dIfS (dOr (dAnd (dTest (dIsI "tuple" (dName 1))) (dNot (dTest (dIsI "tuple" (dName 0))))) (dAnd (dTest (dIsI "list" (dName 1))) (dNot (dTest (dIsI "list" (dName 0))))))
    (dRet (dC (.bool false)))
    dNext)
  (dSeq (dIfS (dTest (dBin gNe (dFn gLen (dCons (dName 0) dNil)) (dFn gLen (dCons (dName 1) dNil))))
    (dRet (dC (.bool false)))
    dNext)
  (dSeq (dFor (dItR1 (dCons (dFn gLen (dCons (dName 1) dNil)) dNil)) (gN 2)
    (b__law_same_1 tr))
  (dRet (dC (.bool true)))))))))))
def r__law_same (ds : List D) (as : List Addr) : List Slot := entryR m__law_same ds as ++ List.replicate 1 .un
def Ok__law_same (tr : TSp) : Prop := ∀ ds k as, t__law_same ds k → ds.length = m__law_same.length → as.length = nio m__law_same → d__law_same tr { nx := finR m__law_same as k (.fz .none), rt := finR m__law_same as k } (entryR m__law_same ds as ++ List.replicate (3 - m__law_same.length) .un)
/-- slots: 0 box, 1 row -/
def d__law_pick : DTS :=
  (dRet (dBin gIx (dName 1) (dBin gMod (dFn gInt (dCons (dCall m__law_draw t__law_draw (dCons (dName 0) (dCons (dC (.int 1000)) dNil))) dNil)) (dFn gLen (dCons (dName 1) dNil)))))
def r__law_pick (ds : List D) (as : List Addr) : List Slot := entryR m__law_pick ds as ++ List.replicate 0 .un
def Ok__law_pick : Prop := ∀ ds k as, t__law_pick ds k → ds.length = m__law_pick.length → as.length = nio m__law_pick → d__law_pick { nx := finR m__law_pick as k (.fz .none), rt := finR m__law_pick as k } (entryR m__law_pick ds as ++ List.replicate (2 - m__law_pick.length) .un)
end TL.cm

-- part Pcm
/-! Pcm: the common helpers keep their promises. -/
namespace TL.cm
open PySem PySem.Spec L2
variable [Lay]
theorem p__law_cell : Ok__law_cell := by
  rintro ds k as ⟨ns, i, rfl, hi, hk⟩ - ha
  refine ⟨ns, intsOf_map ns, ifd (fun h => ?_) fun h => ?_⟩
  · obtain ⟨n, hn, _⟩ := get_lt hi h
    exact ⟨ns, intsOf_map ns, _, atI_of hi hn, hk _⟩
  · exact hk 0
theorem p__law_draw : Ok__law_draw := by
  rintro ds k as ⟨b, many, rfl, ⟨r, n, rfl, hr, hn⟩, hm, hk⟩ - ha
  obtain ⟨a, rfl⟩ := as1 ha
  have hl : 0 < (r.length : Int) := by
    cases r with
    | nil => exact absurd rfl hr
    | cons => simp
  have lm : (List.map PyData.int r).length = r.length := List.length_map _
  have bx : BoxD (.list [.list (r.map .int), .int (n + 1)]) := ⟨r, n + 1, rfl, hr, by omega⟩
  have fin : ∀ y : Int, k (.fz (.int (y % many))) [.list [.list (r.map .int), .int (n + 1)]] := fun y => hk _ _ (Int.emod_nonneg _ (by omega)) (Int.emod_lt_of_pos _ hm) bx
  refine ⟨_, rfl, trivial, _, rfl, _, rfl, _, rfl, ifd (fun h => ?_) fun h => ?_⟩
  · rw [lm] at h
    obtain ⟨y, hy, _⟩ := get_lt (ns := r) (Int.emod_nonneg ((n + 1) * 31) (by omega)) (Int.emod_lt_of_pos ((n + 1) * 31) hl)
    refine ⟨_, rfl, _, rfl, mulSmall (by decide), _, rfl, ?_⟩
    refine ⟨by rw [lm]; exact hl, _, atI_ints (i := (n + 1) * 31 % ((List.map PyData.int r).length : Int)) (by rw [lm]; exact Int.emod_nonneg _ (by omega)) (by rw [lm]; exact hy), _, rfl, mulSmall (by decide), hm, rfl, rfl, ?_⟩
    exact fin _
  · rw [lm] at h
    obtain ⟨y, hy, _⟩ := get_lt (ns := r) (i := n + 1 - 1) (by omega) (by omega)
    exact ⟨_, rfl, _, rfl, _, atI_ints (by omega) hy, hm, rfl, rfl, fin _⟩
theorem p__law_pick : Ok__law_pick := by
  rintro ds k as ⟨b, row, hd, hb, hr, hk⟩ - ha
  obtain ⟨a, rfl⟩ := as1 ha
  have hl : 0 < (row.length : Int) := by
    cases row with
    | nil => exact absurd rfl hr
    | cons => simp only [List.length_cons]; omega
  have at' : ∀ x : Int, ∃ d, atI row (x % (row.length : Int)) = some d ∧ d ∈ row := fun x => by
    have h0 : 0 ≤ x % (row.length : Int) := Int.emod_nonneg _ (by omega)
    have h1 : x % (row.length : Int) < row.length := Int.emod_lt_of_pos _ hl
    have h2 : (x % (row.length : Int)).toNat < row.length := by omega
    exact ⟨_, atI_of h0 (List.getElem?_eq_getElem h2), List.getElem_mem h2⟩
  rcases hd with rfl | rfl
  · refine ⟨okio1 rfl (by decide) trivial, rfl, _, _, rfl, hb, by decide, fun x b' h1 h2 hb' => ⟨rfl, hl, ?_⟩⟩
    obtain ⟨d, h3, h4⟩ := at' x
    exact ⟨d, h3, rfl, rfl, hk d b' h4 hb'⟩
  · refine ⟨okio1 rfl (by decide) trivial, rfl, _, _, rfl, hb, by decide, fun x b' h1 h2 hb' => ⟨rfl, hl, ?_⟩⟩
    obtain ⟨d, h3, h4⟩ := at' x
    exact ⟨d, h3, rfl, rfl, hk d b' h4 hb'⟩
theorem p__law_digits : Ok__law_digits := by
  rintro ds k as ⟨ns, a, b, rfl, ha0, hab, hb, hk⟩ - ha
  obtain rfl := as0 ha
  have sl : sizeLine = 16777216 := rfl
  have p18 : (0 : Int) < 10 ^ Int.toNat 18 := by decide
  have gd : ∀ (r : List Int) (y : Int), (∀ x ∈ r, 0 ≤ x ∧ x < 1000) → ∀ x ∈ r ++ [y % 1000], 0 ≤ x ∧ x < 1000 := fun r y h x hx => by
    rcases List.mem_append.mp hx with z | z
    · exact h x z
    · rw [List.mem_singleton.mp z]; omega
  have ap : ∀ (r : List Int) (y : Int), r.map PyData.int ++ [.int y] = (r ++ [y]).map .int := fun r y => by simp
  have le : ∀ r : List Int, (r.map PyData.int).length = r.length := fun r => List.length_map _
  refine ⟨by show 0 ≤ sizeLine; omega, ⟨⟨by omega, by omega⟩, by omega, by omega⟩, trivial, ?_⟩
  refine loop_ind (fun done rest ρ => ∃ (r : List Int) (s4 s5 s6 s7 : Slot), ρ = [.fz (scrD ns), .fz (.int a), .fz (.int b), .ow none .l (.list (r.map .int)), s4, s5, s6, s7] ∧ (∀ x ∈ r, 0 ≤ x ∧ x < 1000) ∧ (done ≠ [] → r ≠ []) ∧ r.length ≤ 60 * done.length)
    ⟨[], .un, .un, .un, .un, rfl, by simp, by simp, by simp⟩ ?_ ?_
  · rintro ρ ⟨r, s4, s5, s6, s7, rfl, h1, h2, h3⟩
    refine hk r h1 (h2 fun z => ?_)
    have := congrArg List.length z
    rw [rangeD_len] at this
    simp at this
    omega
  · rintro done d rest ρ he ⟨r, s4, s5, s6, s7, rfl, h1, h2, h3⟩ next
    obtain ⟨rfl, hd⟩ := range_at he
    have hdl : done.length < 1000 := by omega
    refine seq_join (fun ρ => ∃ cell : Int, ρ = [.fz (scrD ns), .fz (.int a), .fz (.int b), .ow none .l (.list (r.map .int)), .fz (.int (a + done.length)), .fz (.int cell), s6, s7]) (fun kk hkk => ⟨okio0 rfl, ns, a + done.length, rfl, by omega, fun cell => hkk _ ⟨cell, rfl⟩⟩) ?_
    rintro ρ ⟨cell, rfl⟩
    refine seq_join (fun ρ => ∃ cell : Int, ρ = [.fz (scrD ns), .fz (.int a), .fz (.int b), .ow none .l (.list (r.map .int)), .fz (.int (a + done.length)), .fz (.int cell), s6, s7]) (fun kk hkk => ifd (fun _ => ⟨mulSmall' (by decide), hkk _ ⟨_, rfl⟩⟩) fun _ => hkk _ ⟨_, rfl⟩) ?_
    rintro ρ ⟨cell, rfl⟩
    refine ⟨⟨by decide, by decide, by decide⟩, ifd (fun h => ?_) fun h => ?_⟩
    · refine ⟨⟨by decide, by decide⟩, trivial, ?_⟩
      refine loop_ind (fun done' rest' ρ => ∃ (r' : List Int) (c : Int) (s6 : Slot), ρ = [.fz (scrD ns), .fz (.int a), .fz (.int b), .ow none .l (.list (r'.map .int)), .fz (.int (a + done.length)), .fz (.int c), s6, s7] ∧ (∀ x ∈ r', 0 ≤ x ∧ x < 1000) ∧ r'.length ≤ r.length + done'.length ∧ (r' ≠ [] ∨ (0 < c ∧ done' = [])))
        ⟨r, cell, s6, rfl, h1, by simp, .inr ⟨by omega, rfl⟩⟩ ?_ ?_
      · rintro ρ ⟨r', c, s6, rfl, g1, g2, g3⟩
        have hl : (rangeD 0 1 (Int.toNat 60)).length = 60 := by rw [rangeD_len]; decide
        refine next _ ⟨r', _, _, _, _, rfl, g1, fun _ => ?_, by simp; omega⟩
        rcases g3 with g3 | ⟨_, g3⟩
        · exact g3
        · rw [g3] at hl; cases hl
      · rintro done' d rest' ρ he' ⟨r', c, s6, rfl, g1, g2, g3⟩ next'
        have hl : done'.length < 60 := (range_at he').2
        refine ifd (fun hc => ?_) fun hc => next' _ ⟨r', c, _, rfl, g1, by simp; omega, .inl ?_⟩
        · refine ⟨trivial, by decide, ⟨by rw [le]; omega, by decide, ?_⟩⟩
          refine next' _ ⟨r' ++ [c % 1000], c / 1000, _, by rw [← ap]; rfl, gd _ _ g1, by simp; omega, .inl (by simp)⟩
        · rcases g3 with g3 | ⟨g3, _⟩
          · exact g3
          · omega
    · refine ⟨mulSmall (by decide), mulSmall (by decide), by decide, ⟨by decide, by decide⟩, trivial, ?_⟩
      refine loop_ind (fun done' rest' ρ => ∃ (r' : List Int) (c : Int) (s6 : Slot), ρ = [.fz (scrD ns), .fz (.int a), .fz (.int b), .ow none .l (.list (r'.map .int)), .fz (.int (a + done.length)), .fz (.int cell), s6, .fz (.int c)] ∧ (∀ x ∈ r', 0 ≤ x ∧ x < 1000) ∧ r'.length = r.length + done'.length)
        ⟨r, _, s6, rfl, h1, by simp⟩ ?_ ?_
      · rintro ρ ⟨r', c, s6, rfl, g1, g2⟩
        have hl : (rangeD 0 1 (Int.toNat 12)).length = 12 := by rw [rangeD_len]; decide
        refine next _ ⟨r', _, _, _, _, rfl, g1, fun _ z => ?_, by rw [hl] at g2; simp; omega⟩
        rw [z, hl] at g2
        simp at g2
      · rintro done' d rest' ρ he' ⟨r', c, s6, rfl, g1, g2⟩ next'
        obtain ⟨rfl, hl⟩ := range_at he'
        have hl : done'.length < 12 := hl
        refine ⟨mulSmall (by decide), mulSmall' (by decide), by decide, trivial, ⟨by decide, by decide⟩, by decide, by rw [le]; omega, ?_⟩
        exact next' _ ⟨r' ++ [_ % 1000], _, _, by rw [← ap]; rfl, gd _ _ g1, by simp; omega⟩
theorem p_same (n : Nat) (tr : TSp) (h : ∀ m, n = m + 1 → ∀ ds k, u__law_same m ds k → tr ds k) : ∀ ds k as, u__law_same n ds k → ds.length = m__law_same.length → as.length = nio m__law_same → d__law_same tr { nx := finR m__law_same as k (.fz .none), rt := finR m__law_same as k } (entryR m__law_same ds as ++ List.replicate (3 - m__law_same.length) .un) := by
  rintro ds k as ⟨d, rfl, hs, hk⟩ - ha
  obtain rfl := as0 ha
  have eqt : ∀ z : Str, k (.fz (.bool (decide (z = z)))) [] := fun z => by rw [decide_eq_true rfl]; exact hk
  have loop : ∀ (es : List D) (c : List D → D), (∀ (i : Nat) x, es[i]? = some x → ∀ kk : Res → Prop, kk (.fz x) → gIx (c es) (.int i) kk) → (∀ (m : Nat), n = m + 1 → ∀ x ∈ es, Sm m x) → n ≠ 0 → es.length ≤ sizeLine →
      dSeq (dFor (dItR1 (dCons (dC (.int es.length)) dNil)) (gN 2) (b__law_same_1 tr)) (dRet (dC (.bool true))) { nx := finR m__law_same [] k (.fz .none), rt := finR m__law_same [] k } [.rd (c es), .rd (c es), .un] := by
    intro es c hc hm hn hl
    have sl : sizeLine = 16777216 := rfl
    obtain ⟨m, rfl⟩ : ∃ m, n = m + 1 := ⟨n - 1, by omega⟩
    refine ⟨⟨by omega, by omega⟩, trivial, ?_⟩
    refine loop_ind (fun done rest ρ => ∃ s2, ρ = [.rd (c es), .rd (c es), s2]) ⟨_, rfl⟩ ?_ ?_
    · rintro ρ ⟨s2, rfl⟩
      exact hk
    · rintro done d rest ρ he ⟨s2, rfl⟩ next
      obtain ⟨rfl, hd⟩ := range_at he
      have hd : done.length < es.length := by omega
      have hx := List.getElem?_eq_getElem hd
      have e0 : (0 : Int) + (done.length : Int) = (done.length : Int) := by omega
      rw [e0]
      refine hc done.length _ hx _ ?_
      refine hc done.length _ hx _ ?_
      refine ⟨okio0 rfl, h m rfl _ _ ⟨_, rfl, hm m rfl _ (List.getElem_mem hd), ?_⟩⟩
      exact next _ ⟨_, rfl⟩
  cases d with
  | none => exact hk
  | bool b => cases b <;> exact hk
  | int i =>
    conv => whnf
    rw [isT_str_int]
    conv => whnf
    rw [isT_int_int]
    conv => whnf
    rw [isT_int_int]
    conv => whnf
    rw [isT_bool_int]
    have hs : i.natAbs.log2 < 1920 := by cases n <;> exact hs
    exact ⟨hs, hs, eqt _⟩
  | str z =>
    conv => whnf
    rw [isT_str_str]
    conv => whnf
    rw [isT_str_str]
    have hs : (reprText z).length ≤ sizeLine := by cases n <;> exact hs
    exact ⟨hs, hs, eqt _⟩
  | list es =>
    cases n with
    | zero => exact hs.elim
    | succ n =>
      obtain ⟨hl, hs⟩ := hs
      conv => whnf
      rw [isT_str_list]
      conv => whnf
      rw [isT_int_list]
      conv => whnf
      rw [isT_tuple_list]
      conv => whnf
      rw [isT_list_list]
      conv => whnf
      rw [isT_list_list]
      refine ⟨sh_int, sh_int, ?_⟩
      have e : (!PyData.eqv (.int (es.length : Int)) (.int es.length)) = false := by rw [eqv_self nb_int]; rfl
      show if (!PyData.eqv (.int (es.length : Int)) (.int es.length)) = true then _ else _
      rw [e]
      exact loop es .list (fun i x hx kk hk => ⟨x, atI_of (by omega) (by simpa using hx), hk⟩) (fun m hm => by cases hm; exact hs) (by omega) hl
  | tuple es =>
    cases n with
    | zero => exact hs.elim
    | succ n =>
      obtain ⟨hl, hs⟩ := hs
      conv => whnf
      rw [isT_str_tuple]
      conv => whnf
      rw [isT_int_tuple]
      conv => whnf
      rw [isT_tuple_tuple]
      conv => whnf
      rw [isT_tuple_tuple]
      conv => whnf
      rw [isT_list_tuple]
      refine ⟨sh_int, sh_int, ?_⟩
      have e : (!PyData.eqv (.int (es.length : Int)) (.int es.length)) = false := by rw [eqv_self nb_int]; rfl
      show if (!PyData.eqv (.int (es.length : Int)) (.int es.length)) = true then _ else _
      rw [e]
      exact loop es .tuple (fun i x hx kk hk => ⟨x, atI_of (by omega) (by simpa using hx), hk⟩) (fun m hm => by cases hm; exact hs) (by omega) hl
  | dict ps => cases n <;> exact hs.elim
theorem rec__law_same {P : Program} {w : World} {K : PySem.W.Frag} {mg : Str → Option Value} {base : Heap} (h0 : Cal P w K mg base 0 "_law_same" m__law_same (fun _ _ => False))
    (step : ∀ {k : Nat} {tr t : TSp}, Cal P w K mg base k "_law_same" m__law_same tr → (∀ ds k as, t ds k → ds.length = m__law_same.length → as.length = nio m__law_same → d__law_same tr { nx := finR m__law_same as k (.fz .none), rt := finR m__law_same as k } (entryR m__law_same ds as ++ List.replicate (3 - m__law_same.length) .un)) → Cal P w K mg base (k + 1) "_law_same" m__law_same t) :
    Cal P w K mg base 12 "_law_same" m__law_same t__law_same := by
  have key : ∀ n : Nat, Cal P w K mg base (n + 1) "_law_same" m__law_same (u__law_same n) := fun n => by
    induction n with
    | zero => exact step h0 (p_same 0 _ fun m hm => by omega)
    | succ n ih => exact step ih (p_same (n + 1) _ fun m hm => by cases hm; exact fun _ _ z => z)
  exact (key 9).weak (by decide)
/-- [.. draws .. for .. in ..]: St: the state by its box -/
theorem comp_box {g : DTG} {te : DTE} {src : List (Nat × D)} {vs : List Nat} {k : List D → List Slot → Prop} {items : List D} (St : D → List Slot) (P : Int → Prop) (hl : items.length ≤ sizeLine) (hs : ∀ b, stl src (St b))
    (step : ∀ d, d ∈ items → ∀ b, BoxD b → ∀ kk : D → List Slot → Prop, (∀ (x : Int) b', P x → BoxD b' → kk (.int x) (St b')) → g d (St b) fun ρ1 => te ρ1 fun r ρ3 => fzR r ρ3 fun v ρ4 => kk v (wipeR ρ4 vs))
    (fin : ∀ (ns : List Int) b', ns.length = items.length → (∀ x ∈ ns, P x) → BoxD b' → k (ns.map .int) (St b')) {b : D} (hb : BoxD b) : dCompL g dYes te src vs k items [] (St b) := by
  refine comp_ind (fun acc done rest ρ => ∃ (ns : List Int) (b' : D), acc = ns.map .int ∧ ns.length = done.length ∧ (∀ x ∈ ns, P x) ∧ BoxD b' ∧ ρ = St b') ⟨[], b, rfl, rfl, fun _ h => absurd h List.not_mem_nil, hb, rfl⟩ ?_ ?_
  · rintro acc ρ ⟨ns, b', rfl, h1, h2, h3, rfl⟩
    exact ⟨hs _, fin ns b' h1 h2 h3⟩
  · rintro acc done d rest ρ he ⟨ns, b', rfl, h1, h2, h3, rfl⟩ next
    refine ⟨hs _, step d (by rw [he]; simp) b' h3 (fun v ρ4 => (ns.map PyData.int).length < sizeLine ∧ dCompL g dYes te src vs k rest (ns.map PyData.int ++ [v]) ρ4) fun x b'' hx hb'' => ⟨?_, next _ _ ⟨ns ++ [x], b'', by simp, by simp [h1], fun y hy => ?_, hb'', rfl⟩⟩⟩
    · rw [List.length_map, h1]
      have := congrArg List.length he
      simp at this
      omega
    · rcases List.mem_append.mp hy with z | z
      · exact h2 y z
      · rw [List.mem_singleton.mp z]; exact hx
/-- a draw -/
theorem sm_int {n : Nat} {i : Int} (h : -(2 ^ 100) < i ∧ i < 2 ^ 100) : Sm n (.int i) := by
  have key : i.natAbs.log2 < 1920 := by
    by_cases h0 : i.natAbs = 0
    · rw [h0]; decide
    · refine (Nat.log2_lt h0).mpr ?_
      have h1 : i.natAbs < 2 ^ 100 := by omega
      exact Nat.lt_of_lt_of_le h1 (Nat.pow_le_pow_right (by decide) (by decide))
  cases n <;> exact key
theorem sm_list {n : Nat} {ds : List D} (hl : ds.length ≤ sizeLine) (h : ∀ d ∈ ds, Sm n d) : Sm (n + 1) (.list ds) := ⟨hl, h⟩
theorem sm_tuple {n : Nat} {ds : List D} (hl : ds.length ≤ sizeLine) (h : ∀ d ∈ ds, Sm n d) : Sm (n + 1) (.tuple ds) := ⟨hl, h⟩
theorem sm_bool {n : Nat} {b : Bool} : Sm n (.bool b) := by cases n <;> trivial
theorem sm_none {n : Nat} : Sm n .none := by cases n <;> trivial
theorem sm_ints {n : Nat} {ns : List Int} (hl : ns.length ≤ 16777216) (h : ∀ x ∈ ns, -(2 ^ 100) < x ∧ x < 2 ^ 100) : Sm (n + 1) (.list (ns.map .int)) := sm_list (by rw [List.length_map]; exact hl) fun d hd => by
  obtain ⟨x, hx, rfl⟩ := List.mem_map.mp hd
  exact sm_int (h x hx)
end TL.cm

-- part Sk49
/-! Sk49: what the defs of law k49 promise. -/
namespace TL.k49
open PySem PySem.Spec L2 TL.cm
variable [Lay]
/-- a lesson: its teacher, its class -/
def le (p : Int × Int) : D := .tuple [.int p.1, .int p.2]
def LL (ls : List (Int × Int)) : D := .list (ls.map le)
/-- two lessons share their teacher or their class -/
def shr (a b : Int × Int) : Bool := decide (a.1 = b.1) || decide (a.2 = b.2)
/-- nobody twice in a period -/
def Proper (ls : List (Int × Int)) (row : List Int) : Prop := ∀ (i j : Nat) (a b : Int × Int), i ≠ j → ls[i]? = some a → ls[j]? = some b → row[i]? = row[j]? → shr a b = false
/-- a timetable of ls in periods below p -/
structure Tt (ls : List (Int × Int)) (row : List Int) (p : Nat) : Prop where
  len : row.length = ls.length
  ten : ls.length ≤ 10
  rng : ∀ x ∈ row, 0 ≤ x ∧ x < p
  pr : Proper ls row
  small : ∀ a ∈ ls, (0 ≤ a.1 ∧ a.1 ≤ 1000) ∧ 0 ≤ a.2 ∧ a.2 ≤ 1000
def Bal (row : List Int) (p : Nat) : Prop := ∀ a b : Nat, a < p → b < p → row.count (a : Int) ≤ row.count (b : Int) + 1
@[simp] abbrev m__law_mixed : List Md := [.io .l, .rd]
def t__law_mixed : TSp := fun ds k => ∃ b row, ds = [b, .list row] ∧ BoxD b ∧ row.length ≤ 1000 ∧ ∀ r b', List.Perm r row → BoxD b' → k (.tm .l (.list r)) [b']
@[simp] abbrev m__law_placed : List Md := [.io .l, .fz]
/-- lessons with their periods -/
def pl (p : (Int × Int) × Int) : D := .tuple [.int p.1.1, .int p.1.2, .int p.2]
def t__law_placed : TSp := fun ds k => ∃ b, ∃ p : Nat, ds = [b, .int p] ∧ BoxD b ∧ p ≤ 10 ∧ ∀ (ps : List ((Int × Int) × Int)) b', Tt (ps.map (·.1)) (ps.map (·.2)) p → BoxD b' → k (.tm .l (.list (ps.map pl))) [b']
@[simp] abbrev m_shares : List Md := [.rd, .fz, .fz]
def t_shares : TSp := fun ds k => ∃ ls, ∃ i j : Nat, ∃ a b, ds = [LL ls, .int i, .int j] ∧ ls[i]? = some a ∧ ls[j]? = some b ∧ k (.fz (.bool (shr a b))) []
@[simp] abbrev m_chains_of : List Md := [.rd, .rd, .fz, .fz]
/-- one chain: places of the two periods, closed, with at most one more of either kind -/
structure Chain (ls : List (Int × Int)) (row : List Int) (one other : Int) (c : List Nat) : Prop where
  nd : c.Nodup
  inn : ∀ x ∈ c, row[x]? = some one ∨ row[x]? = some other
  closed : ∀ x ∈ c, ∀ (y : Nat) (a b : Int × Int), ls[x]? = some a → ls[y]? = some b → (row[y]? = some one ∨ row[y]? = some other) → shr a b = true → y ∈ c
  most : 2 * (c.filter fun x : Nat => decide (row[x]? = some one)).length ≤ c.length + 1
structure Chains (ls : List (Int × Int)) (row : List Int) (one other : Int) (cs : List (List Nat)) : Prop where
  all : ∀ c ∈ cs, Chain ls row one other c
  nd : cs.flatten.Nodup
  has : ∀ x : Nat, (row[x]? = some one ∨ row[x]? = some other) → x ∈ cs.flatten
def NL (ns : List Nat) : D := .list (ns.map fun n : Nat => .int (n : Int))
def t_chains_of : TSp := fun ds k => ∃ ls row, ∃ p : Nat, ∃ one other : Int, ds = [LL ls, IL row, .int one, .int other] ∧ Tt ls row p ∧ one ≠ other ∧ ∀ cs, Chains ls row one other cs → k (.tm .l (.list (cs.map NL))) []
@[simp] abbrev m_evened : List Md := [.rd, .rd, .fz]
def t_evened : TSp := fun ds k => ∃ ls row, ∃ p : Nat, ds = [LL ls, IL row, .int p] ∧ Tt ls row p ∧ p ≤ 20 ∧ ∀ r, Tt ls r p → Bal r p → k (.tm .l (IL r)) []
@[simp] abbrev m_even_rooms : List Md := [.rd, .fz]
/-- so many for each of p, rounded up -/
def up (n p : Nat) : Int := -(-(n : Int) / (p : Int))
def t_even_rooms : TSp := fun ds k => ∃ ls, ∃ p : Nat, ds = [LL ls, .int p] ∧ ls.length ≤ 1000 ∧ p ≤ 1000 ∧ (ls ≠ [] → 0 < p) ∧ k (.fz (.int (if ls = [] then 0 else up ls.length p))) []
@[simp] abbrev m_plan_of : List Md := [.rd, .rd, .fz, .fz, .fz]
@[simp] abbrev m_rooms_needed : List Md := [.rd, .rd]
def t_rooms_needed : TSp := fun ds k => ∃ (l : List D) (row : List Int) (m : Int), ds = [.list l, IL row] ∧ row.length ≤ 1000 ∧ (m = 0 ∨ ∃ x ∈ row, m = row.count x) ∧ (0 ≤ m ∧ ∀ x ∈ row, (row.count x : Int) ≤ m) ∧ k (.fz (.int m)) []
@[simp] abbrev m_gaps_of : List Md := [.rd]
@[simp] abbrev m__law_even : List Md := [.rd, .rd, .fz, .fz]
def t__law_even : TSp := fun ds k => ∃ ls row, ∃ p : Nat, ∃ m : Int, ds = [LL ls, IL row, .int p, .int m] ∧ Tt ls row p ∧ p ≤ 20 ∧ 0 ≤ m ∧ (∀ a : Nat, a < p → (row.count (a : Int) : Int) ≤ m) ∧ k (.fz (.bool true)) []
@[simp] abbrev m__law_gaps : List Md := [.rd]
/-- plans: None or an int in each period -/
def oD : Option Int → D
  | some i => .int i
  | none => .none
def PL (ps : List (Option Int)) : D := .list (ps.map oD)
/-- found, waiting, begun: the free periods between the first and the last taken one -/
def gstep (s : Int × Int × Bool) (o : Option Int) : Int × Int × Bool := match o with
  | none => (s.1, s.2.1 + 1, s.2.2)
  | some _ => (s.1 + (if s.2.2 then s.2.1 else 0), 0, true)
def gaps (ps : List (Option Int)) : Int := (ps.foldl gstep (0, 0, false)).1
def t_gaps_of : TSp := fun ds k => ∃ ps, ds = [PL ps] ∧ ps.length ≤ 1000 ∧ k (.fz (.int (gaps ps))) []
def t__law_gaps : TSp := fun ds k => ∃ ps, ds = [PL ps] ∧ ps.length ≤ 1000 ∧ k (.fz (.int (gaps ps))) []
/-- what who has in each period: side 0 teachers, 1 classes -/
def planL (ls : List (Int × Int)) (row : List Int) (side : Bool) (who : Int) (p : Nat) : List (Option Int) :=
  (ls.zip row).foldl (fun acc x => if (if side then x.1.2 else x.1.1) = who then acc.set x.2.toNat (some (if side then x.1.1 else x.1.2)) else acc) (List.replicate p none)
def t_plan_of : TSp := fun ds k => ∃ ls row, ∃ p : Nat, ∃ side : Bool, ∃ who : Int, ds = [LL ls, IL row, .int (if side then 1 else 0), .int who, .int p] ∧ row.length = ls.length ∧ ls.length ≤ 10 ∧ p ≤ 1000 ∧ (∀ x ∈ row, 0 ≤ x ∧ x < p) ∧ k (.tm .l (PL (planL ls row side who p))) []
@[simp] abbrev m_law : List Md := [.fz]
def t_law : TSp := fun ds k => ∃ ns, ds = [scrD ns] ∧ k (.fz (.bool true)) []
end TL.k49

-- part Dk49
/-! Dk49: the defs as transformers over trees. Printed by gen.py. -/
namespace TL.k49
open PySem PySem.Spec L2 TL.cm
variable [Lay]

/-- slots: 0 box, 1 row, 2 left, 3 found, 4 lap -/
def b__law_mixed_1 : DTS :=
  (dDrop (dMu 3 gAppend (dCons (dMu 2 gPop (dCons (dCall m__law_draw t__law_draw (dCons (dName 0) (dCons (dFn gLen (dCons (dName 2) dNil)) dNil))) dNil)) dNil)))
def d__law_mixed : DTS :=
  (dSeq (dParS 2 3 (dFn gListOf (dCons (dName 1) dNil)) (dLst dNil))
  (dSeq (dFor (dItR1 (dCons (dFn gLen (dCons (dName 1) dNil)) dNil)) (gN 4)
    b__law_mixed_1)
  (dRet (dName 3))))
structure Fr__law_mixed where
  (box row left found lap : Slot)
@[simp] def Fr__law_mixed.st (f : Fr__law_mixed) : List Slot := [f.box, f.row, f.left, f.found, f.lap]
def r__law_mixed (ds : List D) (as : List Addr) : List Slot := entryR m__law_mixed ds as ++ List.replicate 3 .un
def Ok__law_mixed : Prop := ∀ ds k as, t__law_mixed ds k → ds.length = m__law_mixed.length → as.length = nio m__law_mixed → d__law_mixed { nx := finR m__law_mixed as k (.fz .none), rt := finR m__law_mixed as k } (entryR m__law_mixed ds as ++ List.replicate (5 - m__law_mixed.length) .un)
/-- slots: 0 box, 1 periods, 2 kind, 3 placed, 4 period, 5 teachers, 6 far, 7 many, 8 k -/
def b__law_placed_1 : DTS :=
  (dDrop (dMu 3 gAppend (dCons (dTup (dCons (dBin gIx (dName 5) (dName 8)) (dCons (dBin gIx (dName 6) (dName 8)) (dCons (dName 4) dNil)))) dNil)))
def b__law_placed_2 : DTS :=
  (dSeq (dPar 5 6 (dCons (dCall m__law_mixed t__law_mixed (dCons (dName 0) (dCons (dLst (dCons (dC (.int 0)) (dCons (dC (.int 1)) (dCons (dC (.int 2)) (dCons (dC (.int 3)) dNil))))) dNil))) (dCons (dCall m__law_mixed t__law_mixed (dCons (dName 0) (dCons (dLst (dCons (dC (.int 0)) (dCons (dC (.int 1)) (dCons (dC (.int 2)) (dCons (dC (.int 3)) dNil))))) dNil))) dNil)))
    (dSeq (dSet 7 (dBin gIx (dLst (dCons (dCall m__law_draw t__law_draw (dCons (dName 0) (dCons (dC (.int 5)) dNil))) (dCons (dIf (dTest (dBin gLt (dName 4) (dC (.int 2)))) (dC (.int 4)) (dCall m__law_draw t__law_draw (dCons (dName 0) (dCons (dC (.int 2)) dNil)))) (dCons (dCall m__law_pick t__law_pick (dCons (dName 0) (dCons (dLst (dCons (dC (.int 0)) (dCons (dC (.int 4)) (dCons (dC (.int 3)) dNil)))) dNil))) dNil)))) (dName 2)))
    (dFor (dItR1 (dCons (dName 7) dNil)) (gN 8)
      b__law_placed_1)))
def d__law_placed : DTS :=
  (dSeq (dSet 2 (dCall m__law_draw t__law_draw (dCons (dName 0) (dCons (dC (.int 3)) dNil))))
  (dSeq (dSet 3 (dLst dNil))
  (dSeq (dFor (dItR1 (dCons (dName 1) dNil)) (gN 4)
    b__law_placed_2)
  (dRet (dCall m__law_mixed t__law_mixed (dCons (dName 0) (dCons (dSl (dCall m__law_mixed t__law_mixed (dCons (dName 0) (dCons (dName 3) dNil))) dNo (dSo (dC (.int 10)))) dNil)))))))
structure Fr__law_placed where
  (box periods kind placed period teachers far many k : Slot)
@[simp] def Fr__law_placed.st (f : Fr__law_placed) : List Slot := [f.box, f.periods, f.kind, f.placed, f.period, f.teachers, f.far, f.many, f.k]
def r__law_placed (ds : List D) (as : List Addr) : List Slot := entryR m__law_placed ds as ++ List.replicate 7 .un
def Ok__law_placed : Prop := ∀ ds k as, t__law_placed ds k → ds.length = m__law_placed.length → as.length = nio m__law_placed → d__law_placed { nx := finR m__law_placed as k (.fz .none), rt := finR m__law_placed as k } (entryR m__law_placed ds as ++ List.replicate (9 - m__law_placed.length) .un)
/-- slots: 0 lessons, 1 one, 2 other -/
def d_shares : DTS :=
  (dRet (dOrV (dBin gEq (dBin gIx (dBin gIx (dName 0) (dName 1)) (dC (.int 0))) (dBin gIx (dBin gIx (dName 0) (dName 2)) (dC (.int 0)))) (dBin gEq (dBin gIx (dBin gIx (dName 0) (dName 1)) (dC (.int 1))) (dBin gIx (dBin gIx (dName 0) (dName 2)) (dC (.int 1))))))
structure Fr_shares where
  (lessons one other : Slot)
@[simp] def Fr_shares.st (f : Fr_shares) : List Slot := [f.lessons, f.one, f.other]
def r_shares (ds : List D) (as : List Addr) : List Slot := entryR m_shares ds as ++ List.replicate 0 .un
def Ok_shares : Prop := ∀ ds k as, t_shares ds k → ds.length = m_shares.length → as.length = nio m_shares → d_shares { nx := finR m_shares as k (.fz .none), rt := finR m_shares as k } (entryR m_shares ds as ++ List.replicate (3 - m_shares.length) .un)
/-- slots: 0 lessons, 1 row, 2 one, 3 other, 4 left, 5 found, 6 chain, 7 at, 8 place, 9 far -/
def b_chains_of_1 : DTS :=
  (dSeq (dDrop (dMu 6 gExtend (dCons (dComp (dItL (dName 4)) (gN 9) (dAnd (dTest (dBin gNin (dName 9) (dName 6))) (dTest (dCall m_shares t_shares (dCons (dName 0) (dCons (dBin gIx (dName 6) (dName 7)) (dCons (dName 9) dNil)))))) (dName 9) [9]) dNil)))
      (dAug 7 gAddI (dC (.int 1))))
def b_chains_of_2 : DTS :=
  (dSeq (dSet 6 (dLst (dCons (dBin gIx (dName 4) (dC (.int 0))) dNil)))
    (dSeq (dSet 7 (dC (.int 0)))
    (dSeq (dWhile (dTest (dBin gLt (dName 7) (dFn gLen (dCons (dName 6) dNil))))
      b_chains_of_1)
    (dSeq (dDrop (dMu 5 gAppend (dCons (dFn gSortI (dCons (dName 6) dNil)) dNil)))
    (dSet 4 (dComp (dItL (dName 4)) (gN 8) (dTest (dBin gNin (dName 8) (dName 6))) (dName 8) [8]))))))
def d_chains_of : DTS :=
  (dSeq (dSet 4 (dComp (dItR1 (dCons (dFn gLen (dCons (dName 1) dNil)) dNil)) (gN 8) (dTest (dBin gIn (dBin gIx (dName 1) (dName 8)) (dTup (dCons (dName 2) (dCons (dName 3) dNil))))) (dName 8) [8]))
  (dSeq (dSet 5 (dLst dNil))
  (dSeq (dWhile (dTest (dBin gGt (dFn gLen (dCons (dName 4) dNil)) (dC (.int 0))))
    b_chains_of_2)
  (dRet (dName 5)))))
structure Fr_chains_of where
  (lessons row one other left found chain at_ place far : Slot)
@[simp] def Fr_chains_of.st (f : Fr_chains_of) : List Slot := [f.lessons, f.row, f.one, f.other, f.left, f.found, f.chain, f.at_, f.place, f.far]
def r_chains_of (ds : List D) (as : List Addr) : List Slot := entryR m_chains_of ds as ++ List.replicate 6 .un
def Ok_chains_of : Prop := ∀ ds k as, t_chains_of ds k → ds.length = m_chains_of.length → as.length = nio m_chains_of → d_chains_of { nx := finR m_chains_of as k (.fz .none), rt := finR m_chains_of as k } (entryR m_chains_of ds as ++ List.replicate (10 - m_chains_of.length) .un)
/-- slots: 0 lessons, 1 row, 2 periods, 3 found, 4 sizes, 5 most, 6 least, 7 chain, 8 full, 9 place, 10 period -/
def b_evened_1 : DTS :=
  (dStI 3 gSetL (dIf (dTest (dBin gEq (dBin gIx (dName 3) (dName 9)) (dName 5))) (dName 6) (dName 5)) (dName 9))
def b_evened_2 : DTS :=
  (dSeq (dSet 8 (dFn gLen (dCons (dComp (dItL (dName 7)) (gN 9) (dTest (dBin gEq (dBin gIx (dName 3) (dName 9)) (dName 5))) (dC (.int 1)) [9]) dNil)))
      (dIfS (dTest (dBin gGt (dBin gMul (dC (.int 2)) (dName 8)) (dFn gLen (dCons (dName 7) dNil))))
        (dSeq (dFor (dItL (dLend 7)) (gN 9)
          b_evened_1)
        dBrk)
        dNext))
def b_evened_3 : DTS :=
  (dSeq (dSet 4 (dComp (dItR1 (dCons (dName 2) dNil)) (gN 10) dYes (dMt "list" gCount (dName 3) (dCons (dName 10) dNil)) [10]))
    (dSeq (dAsg (gT 2 (gsC (gN 5) (gsC (gN 6) gsN))) (dTup (dCons (dMt "list" gIndexI (dName 4) (dCons (dFn gMax (dCons (dName 4) dNil)) dNil)) (dCons (dMt "list" gIndexI (dName 4) (dCons (dFn gMin (dCons (dName 4) dNil)) dNil)) dNil))))
    (dSeq (dIfS (dTest (dBin gLt (dBin gSub (dBin gIx (dName 4) (dName 5)) (dBin gIx (dName 4) (dName 6))) (dC (.int 2))))
      (dRet (dName 3))
      dNext)
    (dFor (dItL (dCall m_chains_of t_chains_of (dCons (dName 0) (dCons (dName 3) (dCons (dName 5) (dCons (dName 6) dNil)))))) (gN 7)
      b_evened_2))))
def d_evened : DTS :=
  (dSeq (dSet 3 (dFn gListOf (dCons (dName 1) dNil)))
  (dSeq (dIfS (dTest (dBin gEq (dName 2) (dC (.int 0))))
    (dRet (dName 3))
    dNext)
  (dWhile (dTest (dC (.bool true)))
    b_evened_3)))
structure Fr_evened where
  (lessons row periods found sizes most least chain full place period : Slot)
@[simp] def Fr_evened.st (f : Fr_evened) : List Slot := [f.lessons, f.row, f.periods, f.found, f.sizes, f.most, f.least, f.chain, f.full, f.place, f.period]
def r_evened (ds : List D) (as : List Addr) : List Slot := entryR m_evened ds as ++ List.replicate 8 .un
def Ok_evened : Prop := ∀ ds k as, t_evened ds k → ds.length = m_evened.length → as.length = nio m_evened → d_evened { nx := finR m_evened as k (.fz .none), rt := finR m_evened as k } (entryR m_evened ds as ++ List.replicate (11 - m_evened.length) .un)
/-- slots: 0 lessons, 1 periods -/
def d_even_rooms : DTS :=
  (dRet (dIf (dTest (dBin gGt (dFn gLen (dCons (dName 0) dNil)) (dC (.int 0)))) (dUn gNeg (dBin gFdiv (dUn gNeg (dFn gLen (dCons (dName 0) dNil))) (dName 1))) (dC (.int 0))))
structure Fr_even_rooms where
  (lessons periods : Slot)
@[simp] def Fr_even_rooms.st (f : Fr_even_rooms) : List Slot := [f.lessons, f.periods]
def r_even_rooms (ds : List D) (as : List Addr) : List Slot := entryR m_even_rooms ds as ++ List.replicate 0 .un
def Ok_even_rooms : Prop := ∀ ds k as, t_even_rooms ds k → ds.length = m_even_rooms.length → as.length = nio m_even_rooms → d_even_rooms { nx := finR m_even_rooms as k (.fz .none), rt := finR m_even_rooms as k } (entryR m_even_rooms ds as ++ List.replicate (2 - m_even_rooms.length) .un)
/-- slots: 0 lessons, 1 row, 2 side, 3 who, 4 periods, 5 found, 6 place, 7 lesson, 8 period -/
def b_plan_of_1 : DTS :=
  (dIfS (dTest (dBin gEq (dBin gIx (dName 7) (dName 2)) (dName 3)))
      (dStI 5 gSetL (dBin gIx (dName 7) (dBin gSub (dC (.int 1)) (dName 2))) (dBin gIx (dName 1) (dName 6)))
      dNext)
def d_plan_of : DTS :=
  (dSeq (dSet 5 (dComp (dItR1 (dCons (dName 4) dNil)) (gN 8) dYes (dC .none) [8]))
  (dSeq (dFor (dItE (dCons (dLend 0) dNil)) (gT 2 (gsC (gN 6) (gsC (gN 7) gsN)))
    b_plan_of_1)
  (dRet (dName 5))))
structure Fr_plan_of where
  (lessons row side who periods found place lesson period : Slot)
@[simp] def Fr_plan_of.st (f : Fr_plan_of) : List Slot := [f.lessons, f.row, f.side, f.who, f.periods, f.found, f.place, f.lesson, f.period]
def r_plan_of (ds : List D) (as : List Addr) : List Slot := entryR m_plan_of ds as ++ List.replicate 4 .un
def Ok_plan_of : Prop := ∀ ds k as, t_plan_of ds k → ds.length = m_plan_of.length → as.length = nio m_plan_of → d_plan_of { nx := finR m_plan_of as k (.fz .none), rt := finR m_plan_of as k } (entryR m_plan_of ds as ++ List.replicate (9 - m_plan_of.length) .un)
/-- slots: 0 lessons, 1 row, 2 period -/
def d_rooms_needed : DTS :=
  (dRet (dFn gMax (dCons (dBin gAdd (dComp (dItL (dName 1)) (gN 2) dYes (dMt "list" gCount (dName 1) (dCons (dName 2) dNil)) [2]) (dLst (dCons (dC (.int 0)) dNil))) dNil)))
structure Fr_rooms_needed where
  (lessons row period : Slot)
@[simp] def Fr_rooms_needed.st (f : Fr_rooms_needed) : List Slot := [f.lessons, f.row, f.period]
def r_rooms_needed (ds : List D) (as : List Addr) : List Slot := entryR m_rooms_needed ds as ++ List.replicate 1 .un
def Ok_rooms_needed : Prop := ∀ ds k as, t_rooms_needed ds k → ds.length = m_rooms_needed.length → as.length = nio m_rooms_needed → d_rooms_needed { nx := finR m_rooms_needed as k (.fz .none), rt := finR m_rooms_needed as k } (entryR m_rooms_needed ds as ++ List.replicate (3 - m_rooms_needed.length) .un)
/-- slots: 0 plan, 1 taken, 2 period, 3 far -/
def d_gaps_of : DTS :=
  (dSeq (dSet 1 (dComp (dItE (dCons (dName 0) dNil)) (gT 2 (gsC (gN 2) (gsC (gN 3) gsN))) (dTest (dUn gNotN (dName 3))) (dName 2) [2, 3]))
  (dRet (dIf (dTest (dBin gGt (dFn gLen (dCons (dName 1) dNil)) (dC (.int 0)))) (dBin gSub (dBin gAdd (dBin gSub (dBin gIx (dName 1) (dUn gNeg (dC (.int 1)))) (dBin gIx (dName 1) (dC (.int 0)))) (dC (.int 1))) (dFn gLen (dCons (dName 1) dNil))) (dC (.int 0)))))
structure Fr_gaps_of where
  (plan taken period far : Slot)
@[simp] def Fr_gaps_of.st (f : Fr_gaps_of) : List Slot := [f.plan, f.taken, f.period, f.far]
def r_gaps_of (ds : List D) (as : List Addr) : List Slot := entryR m_gaps_of ds as ++ List.replicate 3 .un
def Ok_gaps_of : Prop := ∀ ds k as, t_gaps_of ds k → ds.length = m_gaps_of.length → as.length = nio m_gaps_of → d_gaps_of { nx := finR m_gaps_of as k (.fz .none), rt := finR m_gaps_of as k } (entryR m_gaps_of ds as ++ List.replicate (4 - m_gaps_of.length) .un)
/-- slots: 0 lessons, 1 row, 2 periods, 3 most, 4 busy, 5 sizes, 6 place, 7 period, 8 side -/
def b__law_even_1 : DTS :=
  (dSeq (dIfS (dTest (dDIn .t (fun b => b) (dTup (dCons (dName 8) (dCons (dBin gIx (dBin gIx (dName 0) (dName 6)) (dName 8)) (dCons (dName 7) dNil)))) (dName 4)))
        (dRet (dC (.bool false)))
        dNext)
      (dStI 4 gSetD (dC (.int 1)) (dTup (dCons (dName 8) (dCons (dBin gIx (dBin gIx (dName 0) (dName 6)) (dName 8)) (dCons (dName 7) dNil))))))
def b__law_even_2 : DTS :=
  (dSeq (dIfS (dOr (dNot (dTest (dIsI "int" (dName 7)))) (dOr (dTest (dIsI "bool" (dName 7))) (dOr (dTest (dBin gLt (dName 7) (dC (.int 0)))) (dTest (dBin gGe (dName 7) (dName 2))))))
      (dRet (dC (.bool false)))
      dNext)
    (dSeq (dFor (dItL (dLst (dCons (dC (.int 0)) (dCons (dC (.int 1)) dNil)))) (gN 8)
      b__law_even_1)
    (dStI 5 gSetL (dBin gAdd (dBin gIx (dName 5) (dName 7)) (dC (.int 1))) (dName 7))))
def d__law_even : DTS :=
  (dSeq (dIfS (dOr (dNot (dTest (dIsI "list" (dName 1)))) (dTest (dBin gNe (dFn gLen (dCons (dName 1) dNil)) (dFn gLen (dCons (dName 0) dNil)))))
    (dRet (dC (.bool false)))
    dNext)
  (dSeq (dParS 4 5 (dDNew .t) (dComp (dItR1 (dCons (dName 2) dNil)) (gN 7) dYes (dC (.int 0)) [7]))
  (dSeq (dFor (dItE (dCons (dLend 1) dNil)) (gT 2 (gsC (gN 6) (gsC (gN 7) gsN)))
    b__law_even_2)
  (dRet (dBin gLe (dFn gMax (dCons (dBin gAdd (dName 5) (dLst (dCons (dC (.int 0)) dNil))) dNil)) (dName 3))))))
structure Fr__law_even where
  (lessons row periods most busy sizes place period side : Slot)
@[simp] def Fr__law_even.st (f : Fr__law_even) : List Slot := [f.lessons, f.row, f.periods, f.most, f.busy, f.sizes, f.place, f.period, f.side]
def r__law_even (ds : List D) (as : List Addr) : List Slot := entryR m__law_even ds as ++ List.replicate 5 .un
def Ok__law_even : Prop := ∀ ds k as, t__law_even ds k → ds.length = m__law_even.length → as.length = nio m__law_even → d__law_even { nx := finR m__law_even as k (.fz .none), rt := finR m__law_even as k } (entryR m__law_even ds as ++ List.replicate (9 - m__law_even.length) .un)
/-- slots: 0 plan, 1 found, 2 waiting, 3 begun, 4 far -/
def b__law_gaps_1 : DTS :=
  (dIfS (dTest (dUn gIsN (dName 4)))
      (dSet 2 (dBin gAdd (dName 2) (dC (.int 1))))
      (dSeq (dSet 1 (dBin gAdd (dName 1) (dIf (dTest (dName 3)) (dName 2) (dC (.int 0)))))
      (dAsg (gT 2 (gsC (gN 2) (gsC (gN 3) gsN))) (dTup (dCons (dC (.int 0)) (dCons (dC (.bool true)) dNil))))))
def d__law_gaps : DTS :=
  (dSeq (dAsg (gT 3 (gsC (gN 1) (gsC (gN 2) (gsC (gN 3) gsN)))) (dTup (dCons (dC (.int 0)) (dCons (dC (.int 0)) (dCons (dC (.bool false)) dNil)))))
  (dSeq (dFor (dItL (dLend 0)) (gN 4)
    b__law_gaps_1)
  (dRet (dName 1))))
structure Fr__law_gaps where
  (plan found waiting begun far : Slot)
@[simp] def Fr__law_gaps.st (f : Fr__law_gaps) : List Slot := [f.plan, f.found, f.waiting, f.begun, f.far]
def r__law_gaps (ds : List D) (as : List Addr) : List Slot := entryR m__law_gaps ds as ++ List.replicate 4 .un
def Ok__law_gaps : Prop := ∀ ds k as, t__law_gaps ds k → ds.length = m__law_gaps.length → as.length = nio m__law_gaps → d__law_gaps { nx := finR m__law_gaps as k (.fz .none), rt := finR m__law_gaps as k } (entryR m__law_gaps ds as ++ List.replicate (5 - m__law_gaps.length) .un)
/-- slots: 0 script, 1 box, 2 lap, 3 periods, 4 placed, 5 lessons, 6 row, 7 handed, 8 told_row, 9 many, 10 sizes, 11 most, 12 more, 13 places, 14 told, 15 side, 16 who, 17 plan, 18 place, 19 period, 20 teacher, 21 far -/
def b_law_1 : DTS :=
  (dSeq (dSet 11 (dFn gLen (dCons (dComp (dItR1 (dCons (dName 9) dNil)) (gN 18) (dTest (dBin gEq (dBin gMod (dFn gInt (dCons (dName 18) dNil)) (dName 13)) (dC (.int 0)))) (dC (.int 1)) [18]) dNil)))
      (dSeq (dSet 14 (dCall m_evened t_evened (dCons (dName 7) (dCons (dName 8) (dCons (dName 13) dNil)))))
      (dSeq (dIfS (dOr (dNot (dTest (dCall m__law_even t__law_even (dCons (dName 5) (dCons (dName 14) (dCons (dName 13) (dCons (dName 11) dNil))))))) (dOr (dTest (dBin gNe (dName 7) (dName 5))) (dTest (dBin gNe (dName 8) (dName 6)))))
        (dRet (dC (.bool false)))
        dNext)
      (dSeq (dIfS (dOr (dNot (dTest (dCall m__law_same t__law_same (dCons (dCall m_rooms_needed t_rooms_needed (dCons (dName 7) (dCons (dFn gListOf (dCons (dName 14) dNil)) dNil))) (dCons (dName 11) dNil))))) (dNot (dTest (dCall m__law_same t__law_same (dCons (dCall m_even_rooms t_even_rooms (dCons (dName 7) (dCons (dName 13) dNil))) (dCons (dName 11) dNil))))))
        (dRet (dC (.bool false)))
        dNext)
      (dSeq (dDrop (dMu 14 gAppend (dCons (dC (.int 0)) dNil)))
      (dIfS (dTest (dBin gNe (dName 8) (dName 6)))
        (dRet (dC (.bool false)))
        dNext))))))
def b_law_2 : DTS :=
  (dIfS (dTest (dBin gEq (dBin gIx (dBin gIx (dName 5) (dName 18)) (dName 15)) (dName 16)))
            (dStI 17 gSetL (dBin gIx (dBin gIx (dName 5) (dName 18)) (dBin gSub (dC (.int 1)) (dName 15))) (dName 19))
            dNext)
def b_law_3 : DTS :=
  (dSeq (dSet 17 (dComp (dItR1 (dCons (dName 12) dNil)) (gN 19) dYes (dC .none) [19]))
        (dSeq (dFor (dItE (dCons (dLend 6) dNil)) (gT 2 (gsC (gN 18) (gsC (gN 19) gsN)))
          b_law_2)
        (dSeq (dSet 14 (dCall m_plan_of t_plan_of (dCons (dName 7) (dCons (dName 8) (dCons (dName 15) (dCons (dName 16) (dCons (dName 12) dNil)))))))
        (dIfS (dOr (dNot (dTest (dCall m__law_same t__law_same (dCons (dName 14) (dCons (dName 17) dNil))))) (dNot (dTest (dCall m__law_same t__law_same (dCons (dCall m_gaps_of t_gaps_of (dCons (dName 14) dNil)) (dCons (dCall m__law_gaps t__law_gaps (dCons (dName 17) dNil)) dNil))))))
          (dRet (dC (.bool false)))
          dNext))))
def b_law_4 : DTS :=
  (dFor (dItL (dLst (dCons (dCall m__law_draw t__law_draw (dCons (dName 1) (dCons (dC (.int 4)) dNil))) (dCons (dCall m__law_draw t__law_draw (dCons (dName 1) (dCons (dC (.int 4)) dNil))) dNil)))) (gN 16)
        b_law_3)
def b_law_5 : DTS :=
  (dSeq (dSet 3 (dBin gAdd (dC (.int 1)) (dCall m__law_draw t__law_draw (dCons (dName 1) (dCons (dC (.int 6)) dNil)))))
    (dSeq (dSet 4 (dCall m__law_placed t__law_placed (dCons (dName 1) (dCons (dName 3) dNil))))
    (dSeq (dSet 5 (dComp (dItL (dName 4)) (gT 3 (gsC (gN 20) (gsC (gN 21) (gsC (gN 19) gsN)))) dYes (dTup (dCons (dName 20) (dCons (dName 21) dNil))) [20, 21, 19]))
    (dSeq (dSet 6 (dComp (dItL (dName 4)) (gT 3 (gsC (gN 20) (gsC (gN 21) (gsC (gN 19) gsN)))) dYes (dName 19) [20, 21, 19]))
    (dSeq (dPar 7 8 (dCons (dFn gListOf (dCons (dName 5) dNil)) (dCons (dFn gListOf (dCons (dName 6) dNil)) dNil)))
    (dSeq (dSet 9 (dFn gLen (dCons (dName 5) dNil)))
    (dSeq (dSet 10 (dComp (dItR1 (dCons (dName 3) dNil)) (gN 19) dYes (dFn gLen (dCons (dComp (dItL (dName 6)) (gN 21) (dTest (dBin gEq (dName 21) (dName 19))) (dC (.int 1)) [21]) dNil)) [19]))
    (dSeq (dIfS (dNot (dTest (dCall m__law_same t__law_same (dCons (dCall m_rooms_needed t_rooms_needed (dCons (dName 7) (dCons (dName 8) dNil))) (dCons (dFn gMax (dCons (dName 10) dNil)) dNil)))))
      (dRet (dC (.bool false)))
      dNext)
    (dSeq (dSet 11 (dFn gLen (dCons (dComp (dItR1 (dCons (dName 9) dNil)) (gN 18) (dTest (dBin gEq (dBin gMod (dFn gInt (dCons (dName 18) dNil)) (dName 3)) (dC (.int 0)))) (dC (.int 1)) [18]) dNil)))
    (dSeq (dIfS (dNot (dTest (dCall m__law_same t__law_same (dCons (dCall m_even_rooms t_even_rooms (dCons (dName 7) (dCons (dName 3) dNil))) (dCons (dName 11) dNil)))))
      (dRet (dC (.bool false)))
      dNext)
    (dSeq (dSet 12 (dBin gAdd (dName 3) (dCall m__law_draw t__law_draw (dCons (dName 1) (dCons (dC (.int 3)) dNil)))))
    (dSeq (dFor (dItL (dLst (dCons (dName 3) (dCons (dName 12) dNil)))) (gN 13)
      b_law_1)
    (dSeq (dFor (dItL (dLst (dCons (dC (.int 0)) (dCons (dC (.int 1)) dNil)))) (gN 15)
      b_law_4)
    (dSeq (dSet 17 (dComp (dItR1 (dCons (dCall m__law_draw t__law_draw (dCons (dName 1) (dCons (dC (.int 10)) dNil))) dNil)) (gN 19) dYes (dCall m__law_pick t__law_pick (dCons (dName 1) (dCons (dLst (dCons (dC .none) (dCons (dC .none) (dCons (dC (.int 0)) (dCons (dC (.int 3)) (dCons (dC .none) dNil)))))) dNil))) [19]))
    (dSeq (dSet 14 (dFn gListOf (dCons (dName 17) dNil)))
    (dIfS (dOr (dNot (dTest (dCall m__law_same t__law_same (dCons (dCall m_gaps_of t_gaps_of (dCons (dName 14) dNil)) (dCons (dCall m__law_gaps t__law_gaps (dCons (dName 17) dNil)) dNil))))) (dTest (dBin gNe (dName 14) (dName 17))))
      (dRet (dC (.bool false)))
      dNext))))))))))))))))
def d_law : DTS :=
  (dSeq (dSet 1 (dLst (dCons (dCall m__law_digits t__law_digits (dCons (dName 0) (dCons (dC (.int 0)) (dCons (dC (.int 20)) dNil)))) (dCons (dC (.int 0)) dNil))))
  (dSeq (dFor (dItR1 (dCons (dC (.int 3)) dNil)) (gN 2)
    b_law_5)
  (dSeq (dIfS (dOr (dNot (dTest (dCall m__law_same t__law_same (dCons (dCall m_evened t_evened (dCons (dLst dNil) (dCons (dLst dNil) (dCons (dC (.int 0)) dNil)))) (dCons (dLst dNil) dNil))))) (dOr (dNot (dTest (dCall m__law_same t__law_same (dCons (dCall m_even_rooms t_even_rooms (dCons (dLst dNil) (dCons (dC (.int 0)) dNil))) (dCons (dC (.int 0)) dNil))))) (dNot (dTest (dCall m__law_same t__law_same (dCons (dCall m_rooms_needed t_rooms_needed (dCons (dLst dNil) (dCons (dLst dNil) dNil))) (dCons (dC (.int 0)) dNil)))))))
    (dRet (dC (.bool false)))
    dNext)
  (dSeq (dIfS (dOr (dNot (dTest (dCall m__law_same t__law_same (dCons (dCall m_gaps_of t_gaps_of (dCons (dLst (dCons (dC .none) (dCons (dC (.int 0)) (dCons (dC .none) (dCons (dC .none) (dCons (dC (.int 1)) (dCons (dC .none) dNil))))))) dNil)) (dCons (dC (.int 2)) dNil))))) (dNot (dTest (dCall m__law_same t__law_same (dCons (dCall m_gaps_of t_gaps_of (dCons (dLst dNil) dNil)) (dCons (dC (.int 0)) dNil))))))
    (dRet (dC (.bool false)))
    dNext)
  (dRet (dAndV (dCall m__law_same t__law_same (dCons (dCall m_even_rooms t_even_rooms (dCons (dLst (dCons (dTup (dCons (dC (.int 0)) (dCons (dC (.int 0)) dNil))) (dCons (dTup (dCons (dC (.int 1)) (dCons (dC (.int 1)) dNil))) (dCons (dTup (dCons (dC (.int 2)) (dCons (dC (.int 2)) dNil))) dNil)))) (dCons (dC (.int 2)) dNil))) (dCons (dC (.int 2)) dNil))) (dCall m__law_same t__law_same (dCons (dCall m_plan_of t_plan_of (dCons (dLst (dCons (dTup (dCons (dC (.int 0)) (dCons (dC (.int 2)) dNil))) dNil)) (dCons (dLst (dCons (dC (.int 1)) dNil)) (dCons (dC (.int 1)) (dCons (dC (.int 2)) (dCons (dC (.int 3)) dNil)))))) (dCons (dLst (dCons (dC .none) (dCons (dC (.int 0)) (dCons (dC .none) dNil)))) dNil)))))))))
structure Fr_law where
  (script box lap periods placed lessons row handed told_row many sizes most more places told side who plan place period teacher far : Slot)
@[simp] def Fr_law.st (f : Fr_law) : List Slot := [f.script, f.box, f.lap, f.periods, f.placed, f.lessons, f.row, f.handed, f.told_row, f.many, f.sizes, f.most, f.more, f.places, f.told, f.side, f.who, f.plan, f.place, f.period, f.teacher, f.far]
def r_law (ds : List D) (as : List Addr) : List Slot := entryR m_law ds as ++ List.replicate 21 .un
def Ok_law : Prop := ∀ ds k as, t_law ds k → ds.length = m_law.length → as.length = nio m_law → d_law { nx := finR m_law as k (.fz .none), rt := finR m_law as k } (entryR m_law ds as ++ List.replicate (22 - m_law.length) .un)
end TL.k49

-- part Pk49a
/-! Pk49: the defs of law k49 keep their promises. -/
namespace TL.k49
open PySem PySem.Spec L2 TL.cm
variable [Lay]
theorem sl : sizeLine = 16777216 := rfl
theorem LL_at {ls : List (Int × Int)} {i : Nat} {a : Int × Int} (h : ls[i]? = some a) : atI (ls.map le) (i : Int) = some (le a) :=
  atI_of (by omega) (by rw [Int.toNat_natCast, List.getElem?_map, h]; rfl)
theorem p_shares : Ok_shares := by
  rintro ds k as ⟨ls, i, j, a, b, rfl, hi, hj, hk⟩ - ha
  obtain rfl := as0 ha
  refine ⟨_, LL_at hi, _, rfl, _, LL_at hj, _, rfl, sh_int, sh_int, ?_⟩
  rw [eqv_int]
  by_cases h : a.1 = b.1
  · have e : shr a b = true := by simp [shr, h]
    rw [e] at hk
    rw [decide_eq_true h]
    exact hk
  · rw [decide_eq_false h]
    refine ⟨_, LL_at hi, _, rfl, _, LL_at hj, _, rfl, sh_int, sh_int, ?_⟩
    have e : shr a b = PyData.eqv (.int a.2) (.int b.2) := by rw [eqv_int]; simp [shr, h]
    rw [e] at hk
    exact hk
theorem p_even_rooms : Ok_even_rooms := by
  rintro ds k as ⟨ls, p, rfl, hl, hp, hq, hk⟩ - ha
  obtain rfl := as0 ha
  have le' : (ls.map le).length = ls.length := List.length_map _
  refine ifd (fun h => ?_) fun h => ?_
  · rw [le'] at h
    have hne : ls ≠ [] := fun z => by rw [z] at h; simp at h
    have := hq hne
    rw [if_neg hne] at hk
    refine ⟨⟨by omega, by omega⟩, ?_⟩
    rw [le']
    exact hk
  · rw [le'] at h
    have e : ls = [] := List.length_eq_zero_iff.mp (by omega)
    rw [if_pos e] at hk
    exact hk
theorem p_rooms_needed : Ok_rooms_needed := by
  rintro ds k as ⟨l, row, m, rfl, hl, hm, hm2, hk⟩ - ha
  obtain rfl := as0 ha
  have q := sl
  refine ⟨fun p hp => absurd hp List.not_mem_nil, ?_⟩
  refine comp_ints (l := row) (c := .int) rfl (fun x => (row.count x : Int)) (by omega) trivial (fun x hx kk hk => ⟨rfl, row, intsOf_map _, hk⟩) ?_
  refine ⟨(by show 1 ≤ sizeLine; decide), by simp; omega, row.map (fun x => (row.count x : Int)) ++ [0], ?_, by simp, fun m' h1 h2 => ?_⟩
  · show intsOf ((row.map fun x => (row.count x : Int)).map PyData.int ++ [0].map PyData.int) = _
    rw [← List.map_append, intsOf_map]
  · have e : m' = m := by
      have a1 : m ∈ row.map (fun x => (row.count x : Int)) ++ [0] := by
        rcases hm with rfl | ⟨x, hx, rfl⟩
        · simp
        · exact List.mem_append_left _ (List.mem_map.mpr ⟨x, hx, rfl⟩)
      have a2 := h2 m a1
      have a3 : m' ≤ m := by
        rcases List.mem_append.mp h1 with z | z
        · obtain ⟨x, hx, rfl⟩ := List.mem_map.mp z
          exact hm2.2 x hx
        · rw [List.mem_singleton.mp z]; exact hm2.1
      omega
    rw [e]
    exact hk
theorem erase_perm {α : Type} : ∀ {l : List α} {i : Nat} (h : i < l.length), (l[i] :: l.eraseIdx i).Perm l
  | x :: l, 0, _ => by simp
  | x :: l, i + 1, h => by
    have ih := erase_perm (l := l) (i := i) (by simpa using h)
    rw [List.getElem_cons_succ, List.eraseIdx_cons_succ]
    exact (List.Perm.swap _ _ _).trans (ih.cons x)
theorem p__law_mixed : Ok__law_mixed := by
  rintro ds k as ⟨b, row, rfl, hb, hl, hk⟩ - ha
  obtain ⟨a, rfl⟩ := as1 ha
  have q := sl
  refine seq_to [.ow (some a) .l b, .rd (.list row), .ow none .l (.list row), .ow none .l (.list []), .un] (fun kk hkk => ⟨(by show 0 ≤ sizeLine; decide), hkk⟩) ?_
  refine seq_join (fun ρ => ∃ f b' s4, List.Perm f row ∧ BoxD b' ∧ ρ = [.ow (some a) .l b', .rd (.list row), .ow none .l (.list []), .ow none .l (.list f), s4]) (fun kk hkk => ?_) ?_
  · refine ⟨⟨by omega, by omega⟩, trivial, ?_⟩
    refine loop_ind (fun done rest ρ => ∃ l f b' s4, (f ++ l).Perm row ∧ l.length = rest.length ∧ BoxD b' ∧ ρ = [.ow (some a) .l b', .rd (.list row), .ow none .l (.list l), .ow none .l (.list f), s4]) ⟨row, [], b, _, by simp, by rw [rangeD_len]; rfl, hb, rfl⟩ ?_ ?_
    · rintro ρ ⟨l, f, b', s4, hp, hl, hb', rfl⟩
      have e : l = [] := List.length_eq_zero_iff.mp hl
      subst e
      rw [List.append_nil] at hp
      exact hkk _ ⟨f, b', s4, hp, hb', rfl⟩
    · rintro done d rest ρ he ⟨l, f, b', s4, hp, hll, hb', rfl⟩ next
      have hlen := hp.length_eq
      rw [List.length_append] at hlen
      simp only [List.length_cons] at hll
      refine ⟨trivial, trivial, okio1 rfl (by show (0 : Nat) ∉ []; simp) trivial, rfl, _, _, rfl, hb', by omega, fun x b'' h1 h2 hb'' => ⟨rfl, ?_⟩⟩
      have hx : x.toNat < l.length := by omega
      refine ⟨l[x.toNat], ⟨by omega, by omega⟩, x.toNat, seqIndex_of h1 (by omega), List.getElem?_eq_getElem hx, by omega, ?_⟩
      refine next _ ⟨l.eraseIdx x.toNat, f ++ [l[x.toNat]], b'', _, ?_, ?_, hb'', rfl⟩
      · refine List.Perm.trans ?_ hp
        rw [List.append_assoc]
        refine List.Perm.append_left f ?_
        rw [List.singleton_append]
        exact erase_perm hx
      · rw [List.length_eraseIdx_of_lt hx]
        omega
  rintro ρ ⟨f, b', s4, hp, hb', rfl⟩
  exact ⟨rfl, rfl, hk f b' hp hb'⟩
theorem perm_map {α β : Type} {f : α → β} {r s : List β} (p : r.Perm s) : ∀ {l : List α}, s = l.map f → ∃ l' : List α, r = l'.map f ∧ l'.Perm l := by
  induction p with
  | nil => intro l e; exact ⟨[], rfl, by rw [List.map_eq_nil_iff.mp e.symm]⟩
  | cons x _ ih =>
    intro l e
    cases l with
    | nil => cases e
    | cons y l =>
      simp only [List.map_cons, List.cons.injEq] at e
      obtain ⟨l', e1, e2⟩ := ih e.2
      exact ⟨y :: l', by rw [List.map_cons, e.1, e1], e2.cons y⟩
  | swap x y m =>
    intro l e
    match l, e with
    | a :: b :: l, e =>
      simp only [List.map_cons, List.cons.injEq] at e
      exact ⟨b :: a :: l, by simp only [List.map_cons, e.1, e.2.1, e.2.2], List.Perm.swap _ _ _⟩
  | trans _ _ h1 h2 =>
    intro l e
    obtain ⟨l1, e1, p1⟩ := h2 e
    obtain ⟨l2, e2, p2⟩ := h1 e1
    exact ⟨l2, e2, p2.trans p1⟩
/-- two placed lessons that may stand in one plan -/
def Ap (x y : (Int × Int) × Int) : Prop := x.2 = y.2 → shr x.1 y.1 = false
theorem shr_symm (a b : Int × Int) : shr a b = shr b a := by
  unfold shr
  rw [decide_eq_decide.mpr (eq_comm (a := a.1)), decide_eq_decide.mpr (eq_comm (a := a.2))]
theorem ap_symm {x y : (Int × Int) × Int} (h : Ap x y) : Ap y x := fun e => by rw [shr_symm]; exact h e.symm
theorem tt_of {ps : List ((Int × Int) × Int)} {p : Nat} (h : ps.Pairwise Ap) (hl : ps.length ≤ 10) (hr : ∀ x ∈ ps, (0 ≤ x.2 ∧ x.2 < p) ∧ (0 ≤ x.1.1 ∧ x.1.1 ≤ 1000) ∧ 0 ≤ x.1.2 ∧ x.1.2 ≤ 1000) : Tt (ps.map (·.1)) (ps.map (·.2)) p := by
  refine ⟨by simp, by simpa using hl, fun x hx => ?_, fun i j a b hij hi hj hp => ?_, fun a ha => ?_⟩
  · obtain ⟨y, hy, rfl⟩ := List.mem_map.mp hx
    exact (hr y hy).1
  · rw [List.getElem?_map] at hi hj hp
    rw [List.getElem?_map] at hp
    cases ei : ps[i]? with
    | none => rw [ei] at hi; cases hi
    | some x =>
      cases ej : ps[j]? with
      | none => rw [ej] at hj; cases hj
      | some y =>
        rw [ei] at hi hp
        rw [ej] at hj hp
        cases hi; cases hj
        have hp : x.2 = y.2 := by simpa using hp
        obtain ⟨li, hi⟩ := List.getElem?_eq_some_iff.mp ei
        obtain ⟨lj, hj⟩ := List.getElem?_eq_some_iff.mp ej
        have pw := List.pairwise_iff_getElem.mp h
        rcases Nat.lt_or_gt_of_ne hij with z | z
        · have := pw i j li lj z
          rw [hi, hj] at this
          exact this hp
        · have := pw j i lj li z
          rw [hi, hj] at this
          exact ap_symm this hp
  · obtain ⟨y, hy, rfl⟩ := List.mem_map.mp ha
    exact (hr y hy).2
theorem p__law_placed : Ok__law_placed := by
  rintro ds k as ⟨b, p, rfl, hb, hp, hk⟩ - ha
  obtain ⟨a, rfl⟩ := as1 ha
  have q := sl
  let Z : D → Int → List ((Int × Int) × Int) → Slot → Slot → Slot → Slot → Slot → List Slot := fun b kind ps s4 s5 s6 s7 s8 => [.ow (some a) .l b, .fz (.int p), .fz (.int kind), .ow none .l (.list (ps.map pl)), s4, s5, s6, s7, s8]
  refine seq_join (fun ρ => ∃ b' kind, BoxD b' ∧ (0 ≤ kind ∧ kind < 3) ∧ ρ = [.ow (some a) .l b', .fz (.int p), .fz (.int kind), .un, .un, .un, .un, .un, .un]) (fun kk hkk => ⟨okio1 rfl (by show (0 : Nat) ∉ []; simp) trivial, rfl, _, _, rfl, hb, by decide, fun x b' h1 h2 hb' => ⟨rfl, hkk _ ⟨b', x, hb', ⟨h1, h2⟩, rfl⟩⟩⟩) ?_
  rintro ρ ⟨b, kind, hb, hkd, rfl⟩
  refine seq_to (Z b kind [] .un .un .un .un .un) (fun kk hkk => ⟨(by show 0 ≤ sizeLine; decide), hkk⟩) ?_
  let Good : List ((Int × Int) × Int) → Nat → Prop := fun ps n => ps.Pairwise Ap ∧ ps.length ≤ 4 * n ∧ ∀ x ∈ ps, (0 ≤ x.2 ∧ x.2 < n) ∧ (0 ≤ x.1.1 ∧ x.1.1 ≤ 1000) ∧ 0 ≤ x.1.2 ∧ x.1.2 ≤ 1000
  refine seq_join (fun ρ => ∃ b' ps s4 s5 s6 s7 s8, BoxD b' ∧ Good ps p ∧ ρ = Z b' kind ps s4 s5 s6 s7 s8) (fun kk hkk => ?_) ?_
  · refine ⟨⟨by omega, by omega⟩, trivial, ?_⟩
    refine loop_ind (fun done rest ρ => ∃ b' ps s4 s5 s6 s7 s8, BoxD b' ∧ Good ps done.length ∧ ρ = Z b' kind ps s4 s5 s6 s7 s8) ⟨b, [], _, _, _, _, _, hb, ⟨List.Pairwise.nil, by simp, by simp⟩, rfl⟩ ?_ ?_
    · rintro ρ ⟨b', ps, s4, s5, s6, s7, s8, hb', hg, rfl⟩
      rw [rangeD_len] at hg
      exact hkk _ ⟨b', ps, s4, s5, s6, s7, s8, hb', by simpa using hg, rfl⟩
    · rintro done d rest ρ he ⟨b', ps, s4, s5, s6, s7, s8, hb', hg, rfl⟩ next
      obtain ⟨rfl, hd⟩ := range_at he
      have e0 : (0 : Int) + (done.length : Int) = (done.length : Int) := by omega
      rw [e0]
      have hdp : done.length < p := by simpa using hd
      refine seq_join (fun ρ => ∃ b' ts fs, BoxD b' ∧ ts.Perm [0, 1, 2, 3] ∧ fs.Perm [0, 1, 2, 3] ∧ ρ = Z b' kind ps (.fz (.int done.length)) (.fz (IL ts)) (.fz (IL fs)) s7 s8) (fun kk hkk => ?_) ?_
      · refine ⟨(by show 4 ≤ sizeLine; decide), okio1 rfl (by show (0 : Nat) ∉ []; simp) trivial, rfl, _, _, rfl, hb', (by show 4 ≤ 1000; decide), fun r b1 hr hb1 => ⟨rfl, (by show 4 ≤ sizeLine; decide), okio1 rfl (by show (0 : Nat) ∉ []; simp) trivial, rfl, _, _, rfl, hb1, (by show 4 ≤ 1000; decide), fun r' b2 hr' hb2 => ⟨rfl, ?_⟩⟩⟩
        obtain ⟨ts, rfl, ht⟩ := perm_map (f := PyData.int) hr (l := [0, 1, 2, 3]) rfl
        obtain ⟨fs, rfl, hf⟩ := perm_map (f := PyData.int) hr' (l := [0, 1, 2, 3]) rfl
        exact hkk _ ⟨b2, ts, fs, hb2, ht, hf, rfl⟩
      rintro ρ ⟨b', ts, fs, hb', ht, hf, rfl⟩
      refine seq_join (fun ρ => ∃ b' many, BoxD b' ∧ (0 ≤ many ∧ many ≤ 4) ∧ ρ = Z b' kind ps (.fz (.int done.length)) (.fz (IL ts)) (.fz (IL fs)) (.fz (.int many)) s8) (fun kk hkk => ?_) ?_
      · have pk : ∀ {z : D}, z ∈ [PyData.int 0, .int 4, .int 3] → ∃ v : Int, z = .int v ∧ 0 ≤ v ∧ v ≤ 4 := fun {z} hz => by
          simp only [List.mem_cons, List.not_mem_nil, or_false] at hz
          rcases hz with rfl | rfl | rfl
          · exact ⟨0, rfl, by decide, by decide⟩
          · exact ⟨4, rfl, by decide, by decide⟩
          · exact ⟨3, rfl, by decide, by decide⟩
        refine ⟨okio1 rfl (by show (0 : Nat) ∉ []; simp) trivial, rfl, _, _, rfl, hb', by decide, fun x b1 h1 h2 hb1 => ⟨rfl, ifd (fun h => ?_) fun h => ?_⟩⟩
        · refine ⟨(by show 3 ≤ sizeLine; decide), okio1 rfl (by show (0 : Nat) ∉ []; simp) trivial, rfl, _, _, .inl rfl, hb1, by simp, fun z b2 hz hb2 => ⟨rfl, (by show 3 ≤ sizeLine; decide), ?_⟩⟩
          obtain ⟨v, rfl, v1, v2⟩ := pk hz
          have hk3 : kind = 0 ∨ kind = 1 ∨ kind = 2 := by omega
          rcases hk3 with rfl | rfl | rfl
          · exact ⟨_, rfl, hkk _ ⟨b2, x, hb2, by omega, rfl⟩⟩
          · exact ⟨_, rfl, hkk _ ⟨b2, 4, hb2, by omega, rfl⟩⟩
          · exact ⟨_, rfl, hkk _ ⟨b2, v, hb2, by omega, rfl⟩⟩
        · refine ⟨okio1 rfl (by show (0 : Nat) ∉ []; simp) trivial, rfl, _, _, rfl, hb1, by decide, fun y b3 h3 h4 hb3 => ⟨rfl, ?_⟩⟩
          refine ⟨(by show 3 ≤ sizeLine; decide), okio1 rfl (by show (0 : Nat) ∉ []; simp) trivial, rfl, _, _, .inl rfl, hb3, by simp, fun z b2 hz hb2 => ⟨rfl, (by show 3 ≤ sizeLine; decide), ?_⟩⟩
          obtain ⟨v, rfl, v1, v2⟩ := pk hz
          have hk3 : kind = 0 ∨ kind = 1 ∨ kind = 2 := by omega
          rcases hk3 with rfl | rfl | rfl
          · exact ⟨_, rfl, hkk _ ⟨b2, x, hb2, by omega, rfl⟩⟩
          · exact ⟨_, rfl, hkk _ ⟨b2, y, hb2, by omega, rfl⟩⟩
          · exact ⟨_, rfl, hkk _ ⟨b2, v, hb2, by omega, rfl⟩⟩
      rintro ρ ⟨b', many, hb', hm, rfl⟩
      have lt : ts.length = 4 := ht.length_eq
      have lf : fs.length = 4 := hf.length_eq
      have nt : ts.Nodup := ht.nodup_iff.mpr (by decide)
      have nf : fs.Nodup := hf.nodup_iff.mpr (by decide)
      have mt : ∀ x ∈ ts, 0 ≤ x ∧ x ≤ 3 := fun x hx => by
        have := ht.mem_iff.mp hx
        simp only [List.mem_cons, List.not_mem_nil, or_false] at this
        omega
      have mf : ∀ x ∈ fs, 0 ≤ x ∧ x ≤ 3 := fun x hx => by
        have := hf.mem_iff.mp hx
        simp only [List.mem_cons, List.not_mem_nil, or_false] at this
        omega
      let nw : Nat → ((Int × Int) × Int) := fun k => ((ts.getD k 0, fs.getD k 0), (done.length : Int))
      have gt : ∀ k, k < 4 → ts[k]? = some (ts.getD k 0) := fun k hk => by rw [List.getD_eq_getElem?_getD, List.getElem?_eq_getElem (by omega)]; rfl
      have gf : ∀ k, k < 4 → fs[k]? = some (fs.getD k 0) := fun k hk => by rw [List.getD_eq_getElem?_getD, List.getElem?_eq_getElem (by omega)]; rfl
      have good : ∀ n, n ≤ 4 → Good (ps ++ (List.range n).map nw) (done.length + 1) := fun n hn => by
        refine ⟨List.pairwise_append.mpr ⟨hg.1, ?_, fun x hx y hy e => ?_⟩, ?_, fun x hx => ?_⟩
        · rw [List.pairwise_map]
          refine List.Pairwise.imp_of_mem ?_ (List.pairwise_lt_range (n := n))
          intro i j hi hj hij _
          have hi := List.mem_range.mp hi
          have hj := List.mem_range.mp hj
          have ne1 : ts.getD i 0 ≠ ts.getD j 0 := fun e => by
            have a1 := gt i (by omega)
            have a2 := gt j (by omega)
            rw [e, ← a2] at a1
            exact absurd ((List.getElem?_inj (by omega) nt).mp a1) (by omega)
          have ne2 : fs.getD i 0 ≠ fs.getD j 0 := fun e => by
            have a1 := gf i (by omega)
            have a2 := gf j (by omega)
            rw [e, ← a2] at a1
            exact absurd ((List.getElem?_inj (by omega) nf).mp a1) (by omega)
          show shr (ts.getD i 0, fs.getD i 0) (ts.getD j 0, fs.getD j 0) = false
          unfold shr
          simp only [decide_eq_false ne1, decide_eq_false ne2, Bool.or_false]
        · obtain ⟨k, _, rfl⟩ := List.mem_map.mp hy
          have := (hg.2.2 x hx).1
          have e : x.2 = (done.length : Int) := e
          omega
        · rw [List.length_append, List.length_map, List.length_range]
          have := hg.2.1
          omega
        · rcases List.mem_append.mp hx with z | z
          · have := hg.2.2 x z
            exact ⟨⟨this.1.1, by omega⟩, this.2⟩
          · obtain ⟨k, hk, rfl⟩ := List.mem_map.mp z
            have hk := List.mem_range.mp hk
            have b1 := mt _ (List.mem_of_getElem? (gt k (by omega)))
            have b2 := mf _ (List.mem_of_getElem? (gf k (by omega)))
            refine ⟨⟨?_, ?_⟩, ⟨b1.1, ?_⟩, b2.1, ?_⟩
            · show (0 : Int) ≤ done.length; omega
            · show (done.length : Int) < (done.length + 1 : Nat); omega
            · show ts.getD k 0 ≤ 1000; omega
            · show fs.getD k 0 ≤ 1000; omega
      refine ⟨⟨by omega, by omega⟩, trivial, ?_⟩
      refine loop_ind (fun done' rest' ρ => ∃ s8, ρ = Z b' kind (ps ++ (List.range done'.length).map nw) (.fz (.int done.length)) (.fz (IL ts)) (.fz (IL fs)) (.fz (.int many)) s8) ⟨s8, by simp [Z]⟩ ?_ ?_
      · rintro ρ ⟨s8, rfl⟩
        rw [rangeD_len]
        exact next _ ⟨b', _, _, _, _, _, _, hb', by simpa using good many.toNat (by omega), rfl⟩
      · rintro done' d' rest' ρ he' ⟨s8', rfl⟩ next'
        obtain ⟨rfl, hd'⟩ := range_at he'
        have e1 : (0 : Int) + (done'.length : Int) = (done'.length : Int) := by omega
        rw [e1]
        have hk4 : done'.length < 4 := by omega
        refine ⟨trivial, _, atI_ints (n := ts.getD done'.length 0) (by omega) (by rw [Int.toNat_natCast]; exact gt _ hk4), _, atI_ints (n := fs.getD done'.length 0) (by omega) (by rw [Int.toNat_natCast]; exact gf _ hk4), (by show 3 ≤ sizeLine; decide), ?_, ?_⟩
        · have := hg.2.1
          simp
          omega
        · refine next' _ ⟨.fz (.int (done'.length : Int)), ?_⟩
          have e2 : (ps ++ (List.range done'.length).map nw).map pl ++ [pl (nw done'.length)] = (ps ++ (List.range (done' ++ [PyData.int (0 + (done'.length : Int))]).length).map nw).map pl := by
            simp [List.range_succ]
          show [Slot.ow (some a) .l b', _, _, Slot.ow none .l (.list ((ps ++ (List.range done'.length).map nw).map pl ++ [pl (nw done'.length)])), _, _, _, _, _] = _
          rw [e2]
  rintro ρ ⟨b', ps, s4, s5, s6, s7, s8, hb', hg, rfl⟩
  have hg1 := hg.2.1
  refine ⟨okio1 rfl (by show (0 : Nat) ∉ [3]; decide) trivial, rfl, b', ps.map pl, rfl, hb', by simp; omega, fun r b1 hr hb1 => ⟨rfl, ?_⟩⟩
  obtain ⟨ps1, rfl, h1⟩ := perm_map hr rfl
  have ec : cutD (ps1.map pl) none (some 10) = (ps1.take 10).map pl := by rw [cut_to (by decide), ← List.map_take]; rfl
  refine ⟨okio1 rfl (by show (0 : Nat) ∉ []; simp) trivial, rfl, b1, (ps1.take 10).map pl, ?_, hb1, by simp; omega, fun r' b2 hr' hb2 => ⟨rfl, ?_⟩⟩
  · rw [ec]
  obtain ⟨ps2, rfl, h2⟩ := perm_map hr' rfl
  refine ⟨rfl, rfl, hk ps2 b2 (tt_of ?_ ?_ fun x hx => ?_) hb2⟩
  · have p1 : ps1.Pairwise Ap := (h1.pairwise_iff ap_symm).mpr hg.1
    exact (h2.pairwise_iff ap_symm).mpr (p1.sublist (List.take_sublist _ _))
  · rw [h2.length_eq, List.length_take]; omega
  · exact hg.2.2 x (h1.mem_iff.mp (List.mem_of_mem_take (h2.mem_iff.mp hx)))
end TL.k49

-- part TL23
/-! TL23: loops and comprehensions over typed items. -/
namespace TL
open PySem PySem.Spec L2
variable [Lay]
section
variable {g : DTG} {s : DTS} {E : DEnds} {t : DTT} {tt : DTT} {te : DTE} {src : List (Nat × D)} {vs : List Nat} {k : List D → List Slot → Prop} {ρ : List Slot}
theorem loop_map {α : Type} {l : List α} {c : α → D} (I : List α → List α → List Slot → Prop) (h0 : I [] l ρ) (hend : ∀ ρ, I l [] ρ → E.nx ρ)
    (step : ∀ done x rest ρ (kk : List Slot → Prop), l = done ++ x :: rest → I done (x :: rest) ρ → (∀ ρ', I (done ++ [x]) rest ρ' → kk ρ') → g (c x) ρ fun ρ1 => s { nx := kk, rt := E.rt, bk := E.nx, ct := kk } ρ1) : dLoop g s E (l.map c) ρ := by
  have key : ∀ rest done ρ, l = done ++ rest → I done rest ρ → dLoop g s E (rest.map c) ρ := fun rest => by
    induction rest with
    | nil => intro done ρ e h; rw [List.append_nil] at e; subst e; exact hend ρ h
    | cons d rest ih => exact fun done ρ e h => step done d rest ρ _ e h fun ρ' h' => ih (done ++ [d]) ρ' (by rw [e]; simp) h'
  exact key l [] ρ rfl h0
/-- .. by places -/
theorem loop_at {α : Type} {l : List α} {c : α → D} (I : Nat → List Slot → Prop) (h0 : I 0 ρ) (hend : ∀ ρ, I l.length ρ → E.nx ρ)
    (step : ∀ (i : Nat) x ρ (kk : List Slot → Prop), l[i]? = some x → I i ρ → (∀ ρ', I (i + 1) ρ' → kk ρ') → g (c x) ρ fun ρ1 => s { nx := kk, rt := E.rt, bk := E.nx, ct := kk } ρ1) : dLoop g s E (l.map c) ρ :=
  loop_map (fun done _ => I done.length) h0 hend fun done x rest ρ kk e h n => step done.length x ρ kk (by rw [e]; simp) h fun ρ' h' => n ρ' (by simpa using h')
theorem loop_mem {α : Type} {l : List α} {c : α → D} (I : List Slot → Prop) (h0 : I ρ) (hend : ∀ ρ, I ρ → E.nx ρ)
    (step : ∀ x ρ (kk : List Slot → Prop), x ∈ l → I ρ → (∀ ρ', I ρ' → kk ρ') → g (c x) ρ fun ρ1 => s { nx := kk, rt := E.rt, bk := E.nx, ct := kk } ρ1) : dLoop g s E (l.map c) ρ :=
  loop_map (fun _ _ => I) h0 hend fun done x rest ρ kk e h n => step x ρ kk (by rw [e]; simp) h n
theorem range0_map (n : Nat) : rangeD 0 1 n = (List.range n).map fun i : Nat => PyData.int (i : Int) := by
  rw [range_map]
  simp
theorem range1_map (lo : Nat) (n : Nat) : rangeD (lo : Int) 1 n = (List.range' lo n).map fun i : Nat => PyData.int (i : Int) := by
  rw [range_map, List.range'_eq_map_range, List.map_map]
  refine List.map_congr_left fun i _ => ?_
  show PyData.int ((lo : Int) + (i : Int)) = PyData.int ((lo + i : Nat) : Int)
  rw [Int.natCast_add]
/-- for i in range(n) -/
theorem loop_rg {n : Nat} (I : Nat → List Slot → Prop) (h0 : I 0 ρ) (hend : ∀ ρ, I n ρ → E.nx ρ)
    (step : ∀ (i : Nat) ρ (kk : List Slot → Prop), i < n → I i ρ → (∀ ρ', I (i + 1) ρ' → kk ρ') → g (.int (i : Int)) ρ fun ρ1 => s { nx := kk, rt := E.rt, bk := E.nx, ct := kk } ρ1) : dLoop g s E (rangeD 0 1 n) ρ := by
  rw [range0_map]
  refine loop_at I h0 (fun ρ h => hend ρ (by simpa using h)) fun i x ρ kk hx h nx => ?_
  have hi : i < n := by
    have := (List.getElem?_eq_some_iff.mp hx).1
    simpa using this
  rw [List.getElem?_range hi] at hx
  cases hx
  exact step i ρ kk hi h nx
theorem enum_map {α : Type} (c : α → D) (l : List α) : enumD 0 (l.map c) = (l.zipIdx 0).map fun p => PyData.tuple [.int (p.2 : Int), c p.1] := enumD_map c l 0
/-- for i, x in enumerate(l) -/
theorem loop_en {α : Type} {l : List α} {c : α → D} (I : Nat → List Slot → Prop) (h0 : I 0 ρ) (hend : ∀ ρ, I l.length ρ → E.nx ρ)
    (step : ∀ (i : Nat) x ρ (kk : List Slot → Prop), l[i]? = some x → I i ρ → (∀ ρ', I (i + 1) ρ' → kk ρ') → g (.tuple [.int (i : Int), c x]) ρ fun ρ1 => s { nx := kk, rt := E.rt, bk := E.nx, ct := kk } ρ1) : dLoop g s E (enumD 0 (l.map c)) ρ := by
  rw [enum_map]
  refine loop_at I h0 (fun ρ h => hend ρ (by simpa using h)) fun i x ρ kk hx h nx => ?_
  rw [List.getElem?_zipIdx] at hx
  cases hl : l[i]? with
  | none => rw [hl] at hx; cases hx
  | some y =>
    rw [hl] at hx
    simp at hx
    subst hx
    exact step i y ρ kk hl h nx
/-- [.. for i in range(n) if p i] -/
theorem comp_rg {n : Nat} (p : Nat → Bool) (f : Nat → D) (hl : n ≤ sizeLine) (hs : stl src ρ)
    (step : ∀ i, i < n → ∀ (kk : D → List Slot → Prop) (kn : List Slot → Prop), (p i = true → kk (f i) ρ) → (p i = false → kn ρ) → g (.int (i : Int)) ρ fun ρ1 => tt ρ1 fun b ρ2 => if b = true then te ρ2 fun r ρ3 => fzR r ρ3 fun v ρ4 => kk v (wipeR ρ4 vs) else kn (wipeR ρ2 vs))
    (fin : k (((List.range n).filter p).map f) ρ) : dCompL g tt te src vs k (rangeD 0 1 n) [] ρ :=
  comp_of (range0_map n) p f (by simpa using hl) hs (fun i hi => step i (List.mem_range.mp hi)) fin
theorem filter_true {α : Type} (l : List α) : l.filter (fun _ => true) = l := List.filter_eq_self.mpr fun _ _ => rfl
/-- [.. for i in range(n)] -/
theorem comp_rgA {n : Nat} (f : Nat → D) (hl : n ≤ sizeLine) (hs : stl src ρ)
    (step : ∀ i, i < n → ∀ (kk : D → List Slot → Prop), kk (f i) ρ → g (.int (i : Int)) ρ fun ρ1 => te ρ1 fun r ρ3 => fzR r ρ3 fun v ρ4 => kk v (wipeR ρ4 vs))
    (fin : k ((List.range n).map f) ρ) : dCompL g dYes te src vs k (rangeD 0 1 n) [] ρ :=
  comp_rg (fun _ => true) f hl hs (fun i hi kk kn h _ => step i hi kk (h rfl)) (by rw [filter_true]; exact fin)
/-- [.. for x in l] -/
theorem comp_mapA {α : Type} {l : List α} {c : α → D} (f : α → D) (hl : l.length ≤ sizeLine) (hs : stl src ρ)
    (step : ∀ x, x ∈ l → ∀ (kk : D → List Slot → Prop), kk (f x) ρ → g (c x) ρ fun ρ1 => te ρ1 fun r ρ3 => fzR r ρ3 fun v ρ4 => kk v (wipeR ρ4 vs))
    (fin : k (l.map f) ρ) : dCompL g dYes te src vs k (l.map c) [] ρ :=
  comp_of rfl (fun _ => true) f hl hs (fun x hx kk kn h _ => step x hx kk (h rfl)) (by rw [filter_true]; exact fin)
/-- [.. for x in l if p x] -/
theorem comp_map {α : Type} {l : List α} {c : α → D} (p : α → Bool) (f : α → D) (hl : l.length ≤ sizeLine) (hs : stl src ρ)
    (step : ∀ x, x ∈ l → ∀ (kk : D → List Slot → Prop) (kn : List Slot → Prop), (p x = true → kk (f x) ρ) → (p x = false → kn ρ) → g (c x) ρ fun ρ1 => tt ρ1 fun b ρ2 => if b = true then te ρ2 fun r ρ3 => fzR r ρ3 fun v ρ4 => kk v (wipeR ρ4 vs) else kn (wipeR ρ2 vs))
    (fin : k ((l.filter p).map f) ρ) : dCompL g tt te src vs k (l.map c) [] ρ := comp_of rfl p f hl hs step fin
/-- [.. for i, x in enumerate(l) if p i x] -/
theorem comp_en {α : Type} {l : List α} {c : α → D} (p : α × Nat → Bool) (f : α × Nat → D) (hl : l.length ≤ sizeLine) (hs : stl src ρ)
    (step : ∀ (i : Nat) x, l[i]? = some x → ∀ (kk : D → List Slot → Prop) (kn : List Slot → Prop), (p (x, i) = true → kk (f (x, i)) ρ) → (p (x, i) = false → kn ρ) → g (.tuple [.int (i : Int), c x]) ρ fun ρ1 => tt ρ1 fun b ρ2 => if b = true then te ρ2 fun r ρ3 => fzR r ρ3 fun v ρ4 => kk v (wipeR ρ4 vs) else kn (wipeR ρ2 vs))
    (fin : k (((l.zipIdx 0).filter p).map f) ρ) : dCompL g tt te src vs k (enumD 0 (l.map c)) [] ρ := by
  refine comp_of (enum_map c l) p f (by simpa using hl) hs (fun q hq => ?_) fin
  obtain ⟨x, i⟩ := q
  exact step i x (by simpa using List.mem_zipIdx_iff_getElem?.mp hq)
theorem comp_enA {α : Type} {l : List α} {c : α → D} (f : α × Nat → D) (hl : l.length ≤ sizeLine) (hs : stl src ρ)
    (step : ∀ (i : Nat) x, l[i]? = some x → ∀ (kk : D → List Slot → Prop), kk (f (x, i)) ρ → g (.tuple [.int (i : Int), c x]) ρ fun ρ1 => te ρ1 fun r ρ3 => fzR r ρ3 fun v ρ4 => kk v (wipeR ρ4 vs))
    (fin : k ((l.zipIdx 0).map f) ρ) : dCompL g dYes te src vs k (enumD 0 (l.map c)) [] ρ :=
  comp_en (fun _ => true) f hl hs (fun i x hx kk kn h _ => step i x hx kk (h rfl)) (by rw [filter_true]; exact fin)
/-- while True -/
theorem wtrue_ind {ρ : List Slot} (I : Nat → List Slot → Prop) (h0 : ∃ m, I m ρ)
    (step : ∀ m ρ (kk : List Slot → Prop), I m ρ → (∀ ρ' m', m' < m → I m' ρ' → kk ρ') → s { nx := kk, rt := E.rt, bk := E.nx, ct := kk } ρ) : dWhile (dTest (dC (.bool true))) s E ρ :=
  while_ind I h0 fun m ρ kk h n => by
    show if true = true then s { nx := kk, rt := E.rt, bk := E.nx, ct := kk } ρ else E.nx ρ
    rw [if_pos rfl]
    exact step m ρ kk h n
theorem at_map {α : Type} {l : List α} {c : α → D} {i : Nat} {x : α} (h : l[i]? = some x) : atI (l.map c) (i : Int) = some (c x) :=
  atI_of (by omega) (by rw [Int.toNat_natCast, List.getElem?_map, h]; rfl)
end
end TL

-- part Pk49b
/-! Pk49b: the chains. -/
namespace TL.k49
open PySem PySem.Spec L2 TL.cm
variable [Lay]
/-- every place but the first has an earlier neighbour -/
def Tree (ls : List (Int × Int)) (c : List Nat) : Prop := ∀ i, 0 < i → ∀ x, c[i]? = some x → ∃ (j : Nat) (y : Nat) (a b : Int × Int), j < i ∧ c[j]? = some y ∧ ls[x]? = some a ∧ ls[y]? = some b ∧ shr a b = true

theorem tree_most {ls : List (Int × Int)} {row : List Int} {one other : Int} {c : List Nat} (hp : Proper ls row) (hnd : c.Nodup)
    (hin : ∀ x ∈ c, row[x]? = some one ∨ row[x]? = some other) (ht : Tree ls c) :
    c.length ≤ 1 + 2 * (c.filter fun x : Nat => decide (row[x]? = some other)).length := by
  -- edges: for i>0, the end of other kind, and which side is shared
  have ex : ∀ i, 0 < i → i < c.length → ∃ u : Nat × Bool, u.1 ∈ (c.filter fun x : Nat => decide (row[x]? = some other)) ∧
      ∃ (j x y : Nat) (a b : Int × Int), j < i ∧ c[i]? = some x ∧ c[j]? = some y ∧ ls[x]? = some a ∧ ls[y]? = some b ∧ (u.1 = x ∨ u.1 = y) ∧ (row[x]? ≠ row[y]?) ∧ (if u.2 then a.1 = b.1 else a.2 = b.2) := by
    intro i h0 hi
    obtain ⟨j, y, a, b, hj, hy, ha, hb, hs⟩ := ht i h0 c[i] (List.getElem?_eq_getElem hi)
    have hxm : c[i] ∈ c := List.getElem_mem hi
    have hym : y ∈ c := List.mem_of_getElem? hy
    have hxy : c[i] ≠ y := by
      intro e
      have h1 : c[i]? = c[j]? := by rw [hy, List.getElem?_eq_getElem hi, e]
      have := (List.getElem?_inj hi hnd).mp h1
      omega
    have hr : row[c[i]]? ≠ row[y]? := by
      intro e
      have := hp c[i] y a b hxy ha hb e
      rw [this] at hs; cases hs
    have hs' : a.1 = b.1 ∨ a.2 = b.2 := by simpa [shr] using hs
    have side : ∃ s : Bool, (if s then a.1 = b.1 else a.2 = b.2) := by
      rcases hs' with z | z
      · exact ⟨true, z⟩
      · exact ⟨false, z⟩
    obtain ⟨s, hs⟩ := side
    by_cases ho : row[c[i]]? = some other
    · exact ⟨(c[i], s), List.mem_filter.mpr ⟨hxm, by simpa using ho⟩, j, c[i], y, a, b, hj, List.getElem?_eq_getElem hi, hy, ha, hb, .inl rfl, hr, hs⟩
    · have h1 := (hin _ hxm).resolve_right ho
      have h2 : row[y]? = some other := (hin _ hym).resolve_left fun e => hr (h1.trans e.symm)
      exact ⟨(y, s), List.mem_filter.mpr ⟨hym, by simpa using h2⟩, j, c[i], y, a, b, hj, List.getElem?_eq_getElem hi, hy, ha, hb, .inr rfl, hr, hs⟩
  have ex' : ∀ i : Nat, ∃ u : Nat × Bool, 0 < i → i < c.length → u.1 ∈ (c.filter fun x : Nat => decide (row[x]? = some other)) ∧
      ∃ (j x y : Nat) (a b : Int × Int), j < i ∧ c[i]? = some x ∧ c[j]? = some y ∧ ls[x]? = some a ∧ ls[y]? = some b ∧ (u.1 = x ∨ u.1 = y) ∧ (row[x]? ≠ row[y]?) ∧ (if u.2 then a.1 = b.1 else a.2 = b.2) := fun i => by
    by_cases h : 0 < i ∧ i < c.length
    · obtain ⟨u, hu⟩ := ex i h.1 h.2
      exact ⟨u, fun _ _ => hu⟩
    · exact ⟨(0, true), fun h1 h2 => absurd ⟨h1, h2⟩ h⟩
  obtain ⟨lab, hlab⟩ := Classical.axiomOfChoice ex'
  -- injective
  have inj : ∀ i k, 0 < i → i < k → k < c.length → lab i ≠ lab k := by
    intro i k h0 hik hk e
    obtain ⟨hm, j, x, y, a, b, hj, hx, hy, ha, hb, hu, hr, hs⟩ := hlab i h0 (by omega)
    obtain ⟨hm', j', x', y', a', b', hj', hx', hy', ha', hb', hu', hr', hs'⟩ := hlab k (by omega) hk
    rw [← e] at hu' hs' hm'
    have mx := List.mem_of_getElem? hx
    have my := List.mem_of_getElem? hy
    have mx' := List.mem_of_getElem? hx'
    have my' := List.mem_of_getElem? hy'
    have ho : row[(lab i).1]? = some other := by simpa using (List.mem_filter.mp hm).2
    have inj' : ∀ {p q : Nat} {z : Nat}, p < c.length → c[p]? = some z → c[q]? = some z → p = q := fun hp h1 h2 => (List.getElem?_inj hp hnd).mp (h1.trans h2.symm)
    -- the other ends
    have key : ∀ {u v w : Nat} {au av aw : Int × Int}, ls[u]? = some au → ls[v]? = some av → ls[w]? = some aw → row[u]? = some other → v ∈ c → w ∈ c → row[u]? ≠ row[v]? → row[u]? ≠ row[w]? → (if (lab i).2 then au.1 = av.1 else au.2 = av.2) → (if (lab i).2 then au.1 = aw.1 else au.2 = aw.2) → v = w := by
      intro u v w au av aw hu hv hw ho hvc hwc h1 h2 h3 h4
      have e1 : row[v]? = some one := (hin v hvc).resolve_right fun z => h1 (ho.trans z.symm)
      have e2 : row[w]? = some one := (hin w hwc).resolve_right fun z => h2 (ho.trans z.symm)
      refine Classical.byContradiction fun hne => ?_
      have := hp v w av aw hne hv hw (e1.trans e2.symm)
      have hs : shr av aw = true := by
        unfold shr
        cases hl : (lab i).2 <;> rw [hl] at h3 h4 <;> simp at h3 h4
        · rw [← h3, ← h4]; simp
        · rw [← h3, ← h4]; simp
      rw [hs] at this; cases this
    rcases hu with hu | hu <;> rcases hu' with hu' | hu'
    · -- x = x'
      have : i = k := inj' (by omega) hx (by rw [← hu, hu']; exact hx')
      omega
    · -- u = x = y' ; y and x'
      have exy : x = y' := hu.symm.trans hu'
      subst exy
      have eab : a = b' := by rw [ha] at hb'; exact Option.some.inj hb'
      subst eab
      have := key ha hb ha' (by rw [← hu]; exact ho) my mx' hr (Ne.symm hr') hs (by cases hl : (lab i).2 <;> rw [hl] at hs' <;> simp at hs' ⊢ <;> exact hs'.symm)
      subst this
      have := inj' (by omega) hy hx'
      omega
    · have exy : y = x' := hu.symm.trans hu'
      subst exy
      have eab : b = a' := by rw [hb] at ha'; exact Option.some.inj ha'
      subst eab
      have := inj' (by omega) hy hx'
      omega
    · have exy : y = y' := hu.symm.trans hu'
      subst exy
      have eab : b = b' := by rw [hb] at hb'; exact Option.some.inj hb'
      subst eab
      have := key hb ha ha' (by rw [← hu]; exact ho) mx mx' (Ne.symm hr) (Ne.symm hr') (by cases hl : (lab i).2 <;> rw [hl] at hs <;> simp at hs ⊢ <;> exact hs.symm) (by cases hl : (lab i).2 <;> rw [hl] at hs' <;> simp at hs' ⊢ <;> exact hs'.symm)
      subst this
      have := inj' (by omega) hx hx'
      omega
  -- pigeonhole
  let f := c.filter fun x : Nat => decide (row[x]? = some other)
  have nd : ((List.range (c.length - 1)).map fun i => lab (i + 1)).Nodup := by
    show List.Pairwise _ _
    rw [List.pairwise_map]
    refine List.Pairwise.imp_of_mem ?_ (List.pairwise_lt_range (n := c.length - 1))
    intro i k hi hk hik
    have := List.mem_range.mp hk
    exact inj _ _ (by omega) (by omega) (by omega)
  have sub : ((List.range (c.length - 1)).map fun i => lab (i + 1)) ⊆ f.map (fun x => (x, true)) ++ f.map (fun x => (x, false)) := by
    intro u hu
    obtain ⟨i, hi, rfl⟩ := List.mem_map.mp hu
    have := List.mem_range.mp hi
    have hm := (hlab (i + 1) (by omega) (by omega)).1
    cases h2 : (lab (i + 1)).2
    · exact List.mem_append_right _ (List.mem_map.mpr ⟨_, hm, by rw [← h2]⟩)
    · exact List.mem_append_left _ (List.mem_map.mpr ⟨_, hm, by rw [← h2]⟩)
  have := nd.length_le_of_subset sub
  simp at this
  show c.length ≤ 1 + 2 * f.length
  omega

theorem Chain.perm {ls : List (Int × Int)} {row : List Int} {one other : Int} {c d : List Nat} (p : d.Perm c) (h : Chain ls row one other c) : Chain ls row one other d :=
  ⟨p.nodup_iff.mpr h.nd, fun x hx => h.inn x (p.mem_iff.mp hx), fun x hx y a b h1 h2 h3 h4 => p.mem_iff.mpr (h.closed x (p.mem_iff.mp hx) y a b h1 h2 h3 h4), by
    rw [(p.filter _).length_eq, p.length_eq]; exact h.most⟩
theorem perm_nats {l : List Int} {c : List Nat} (p : l.Perm (c.map fun n : Nat => (n : Int))) : ∃ d : List Nat, l = d.map (fun n : Nat => (n : Int)) ∧ d.Perm c := perm_map p rfl
/-- the share of two places -/
def shN (ls : List (Int × Int)) (x y : Nat) : Bool := match ls[x]?, ls[y]? with
  | some a, some b => shr a b
  | _, _ => false
theorem shN_eq {ls : List (Int × Int)} {x y : Nat} {a b : Int × Int} (h1 : ls[x]? = some a) (h2 : ls[y]? = some b) : shN ls x y = shr a b := by unfold shN; rw [h1, h2]
theorem NL_ints (c : List Nat) : intsOf (c.map fun n : Nat => PyData.int (n : Int)) = some (c.map fun n : Nat => (n : Int)) := by
  have := intsOf_map (c.map fun n : Nat => (n : Int))
  rw [List.map_map] at this
  exact this
theorem mem_casts {c : List Nat} {x : Nat} : ((x : Int) ∈ c.map fun n : Nat => (n : Int)) ↔ x ∈ c := by
  rw [List.mem_map]
  constructor
  · rintro ⟨y, hy, e⟩
    have : y = x := by omega
    exact this ▸ hy
  · exact fun h => ⟨x, h, rfl⟩
theorem p_chains_of : Ok_chains_of := by
  rintro ds k as ⟨ls, row, p, one, other, rfl, ht, hne, hk⟩ - ha
  obtain rfl := as0 ha
  have q := sl
  have hlen := ht.len
  have hten := ht.ten
  let On : Nat → Prop := fun x => row[x]? = some one ∨ row[x]? = some other
  let F : Slot → Slot → Slot → Slot → Slot → Slot → List Slot := fun left found chain at_ place far => [.rd (LL ls), .rd (IL row), .fz (.int one), .fz (.int other), left, found, chain, at_, place, far]
  let L0 : List Nat := (List.range row.length).filter fun x => decide (On x)
  have mL0 : ∀ x, x ∈ L0 ↔ On x := fun x => by
    rw [List.mem_filter, List.mem_range, decide_eq_true_eq]
    refine ⟨fun h => h.2, fun h => ⟨?_, h⟩⟩
    rcases h with h | h <;> exact (List.getElem?_eq_some_iff.mp h).1
  have nL0 : L0.Nodup := List.nodup_range.filter _
  have lesson : ∀ x, On x → ∃ a, ls[x]? = some a := fun x h => by
    have : x < row.length := by rcases h with h | h <;> exact (List.getElem?_eq_some_iff.mp h).1
    exact ⟨_, List.getElem?_eq_getElem (by omega)⟩
  refine seq_to (F (.ow none .l (NL L0)) .un .un .un .un .un) (fun kk hkk => ?_) ?_
  · refine ⟨⟨by omega, by simp; omega⟩, fun p hp => absurd hp List.not_mem_nil, ?_⟩
    have e : ((List.map PyData.int row).length : Int).toNat = row.length := by simp
    show dCompL _ _ _ _ _ _ (rangeD 0 1 ((List.map PyData.int row).length : Int).toNat) _ _
    rw [e]
    refine comp_rg (fun x => decide (On x)) (fun x : Nat => .int (x : Int)) (by omega) trivial (fun i hi kk kn hy hn => ?_) hkk
    have hx : row[i]? = some row[i] := List.getElem?_eq_getElem hi
    refine ⟨_, at_map hx, (by show 2 ≤ sizeLine; decide), [one, other], rfl, ifd (fun h => hy ?_) fun h => hn ?_⟩
    · rw [decide_eq_true_eq]
      simp only [List.mem_cons, List.not_mem_nil, or_false] at h
      show row[i]? = some one ∨ row[i]? = some other
      rw [hx]
      exact h.imp (congrArg some) (congrArg some)
    · rw [decide_eq_false_iff_not]
      rintro (z | z)
      · rw [hx] at z; exact h (by simp [Option.some.inj z])
      · rw [hx] at z; exact h (by simp [Option.some.inj z])
  refine seq_to (F (.ow none .l (NL L0)) (.ow none .l (.list [])) .un .un .un .un) (fun kk hkk => ⟨(by show 0 ≤ sizeLine; decide), hkk⟩) ?_
  let J : List Nat → List (List Nat) → Prop := fun L cs => (∀ c ∈ cs, Chain ls row one other c) ∧ cs.flatten.Nodup ∧ L.Nodup ∧ (∀ x ∈ L, x ∉ cs.flatten) ∧ (∀ x, On x ↔ x ∈ L ∨ x ∈ cs.flatten) ∧ cs.length + L.length ≤ 10
  refine seq_join (fun ρ => ∃ cs s4 s6 s7 s8 s9, Chains ls row one other cs ∧ ρ = F s4 (.ow none .l (.list (cs.map NL))) s6 s7 s8 s9) (fun kk hkk => ?_) ?_
  · refine while_ind (fun m ρ => ∃ L cs s6 s7 s8 s9, L.length = m ∧ J L cs ∧ ρ = F (.ow none .l (NL L)) (.ow none .l (.list (cs.map NL))) s6 s7 s8 s9) ⟨L0.length, L0, [], _, _, _, _, rfl, ⟨by simp, by simp, nL0, by simp, fun x => by rw [mL0]; simp, ?_⟩, rfl⟩ ?_
    · have h10 : L0.length ≤ row.length := by
        have := List.length_filter_le (fun x => decide (On x)) (List.range row.length)
        rwa [List.length_range] at this
      show 0 + L0.length ≤ 10
      omega
    · rintro m ρ kk' ⟨L, cs, s6, s7, s8, s9, hm, hJ, rfl⟩ next
      obtain ⟨j1, j2, j3, j4, j5, j6⟩ := hJ
      have le' : (L.map fun n : Nat => PyData.int (n : Int)).length = L.length := List.length_map _
      refine ifd (fun h => ?_) fun h => ?_
      · rw [le'] at h
        obtain ⟨x0, L', eL⟩ : ∃ x0 L', L = x0 :: L' := by
          cases L with
          | nil => simp at h
          | cons x l => exact ⟨x, l, rfl⟩
        have hx0 : L[0]? = some x0 := by rw [eL]; rfl
        have mx0 : x0 ∈ L := by rw [eL]; simp
        have Lon : ∀ x ∈ L, On x := fun x hx => (j5 x).mpr (.inl hx)
        -- what shares with one of L stands in L
        have Lcl : ∀ x ∈ L, ∀ y, On y → shN ls x y = true → y ∈ L := fun x hx y hy hs => by
          rcases (j5 y).mp hy with z | z
          · exact z
          · obtain ⟨c, hc, hyc⟩ := List.mem_flatten.mp z
            obtain ⟨a, ea⟩ := lesson x (Lon x hx)
            obtain ⟨b, eb⟩ := lesson y hy
            rw [shN_eq ea eb] at hs
            have := (j1 c hc).closed y hyc x b a eb ea (Lon x hx) (by rw [shr_symm]; exact hs)
            exact absurd (List.mem_flatten.mpr ⟨c, hc, this⟩) (j4 x hx)
        refine seq_to (F (.ow none .l (NL L)) (.ow none .l (.list (cs.map NL))) (.ow none .l (NL [x0])) s7 s8 s9) (fun kk hkk => ⟨_, at_map hx0, (by show 1 ≤ sizeLine; decide), hkk⟩) ?_
        refine seq_to (F (.ow none .l (NL L)) (.ow none .l (.list (cs.map NL))) (.ow none .l (NL [x0])) (.fz (.int (0 : Nat))) s8 s9) (fun kk hkk => hkk) ?_
        refine seq_join (fun ρ => ∃ c s7 s8 s9, c.Nodup ∧ c ⊆ L ∧ c ≠ [] ∧ Tree ls c ∧ (∀ x ∈ c, ∀ y ∈ L, shN ls x y = true → y ∈ c) ∧ ρ = F (.ow none .l (NL L)) (.ow none .l (.list (cs.map NL))) (.ow none .l (NL c)) s7 s8 s9) (fun kk hkk => ?_) ?_
        · refine while_ind (fun m ρ => ∃ (c : List Nat) (a : Nat) (s8 s9 : Slot), m = L.length - a ∧ a ≤ c.length ∧ c.Nodup ∧ c ⊆ L ∧ c ≠ [] ∧ Tree ls c ∧ (∀ i x, i < a → c[i]? = some x → ∀ y ∈ L, shN ls x y = true → y ∈ c) ∧ ρ = F (.ow none .l (NL L)) (.ow none .l (.list (cs.map NL))) (.ow none .l (NL c)) (.fz (.int a)) s8 s9)
            ⟨L.length, [x0], 0, s8, s9, rfl, by simp, by simp, by simpa using mx0, by simp, ?_, fun i x h => by omega, rfl⟩ ?_
          · intro i h0 x hx
            cases i with
            | zero => omega
            | succ i => simp at hx
          · rintro m ρ kk' ⟨c, a, s8, s9, hm, hac, c1, c2, c3, c4, c5, rfl⟩ next
            have lc : (c.map fun n : Nat => PyData.int (n : Int)).length = c.length := List.length_map _
            have hcL := c1.length_le_of_subset c2
            refine ifd (fun h => ?_) fun h => ?_
            · rw [lc] at h
              have hac' : a < c.length := by omega
              have hca : c[a]? = some c[a] := List.getElem?_eq_getElem hac'
              have mca : c[a] ∈ c := List.getElem_mem hac'
              let N : List Nat := L.filter fun y => !decide (y ∈ c) && shN ls c[a] y
              have mN : ∀ y, y ∈ N ↔ y ∈ L ∧ y ∉ c ∧ shN ls c[a] y = true := fun y => by
                show y ∈ L.filter _ ↔ _
                simp [List.mem_filter]
              have nN : N.Nodup := j3.filter _
              have nd : (c ++ N).Nodup := List.nodup_append.mpr ⟨c1, nN, fun x hx y hy e => ((mN y).mp hy).2.1 (e ▸ hx)⟩
              have sub : c ++ N ⊆ L := fun y hy => by
                rcases List.mem_append.mp hy with z | z
                · exact c2 z
                · exact ((mN y).mp z).1
              have hl2 := nd.length_le_of_subset sub
              rw [List.length_append] at hl2
              have lN : (N.map fun n : Nat => PyData.int (n : Int)).length = N.length := List.length_map _
              refine ⟨trivial, fun p hp => ?_, ?_⟩
              · rw [List.mem_singleton.mp hp]
                show (4 : Nat) ∉ [9]
                decide
              refine comp_map (fun y => !decide (y ∈ c) && shN ls c[a] y) (fun n : Nat => .int (n : Int)) (by omega) ⟨rfl, trivial⟩ (fun y hy kk kn hyes hno => ?_) ?_
              · refine ⟨_, NL_ints c, ?_⟩
                refine ifnd (fun h => ?_) fun h => ?_
                · rw [mem_casts] at h
                  obtain ⟨u, eu⟩ := lesson _ (Lon _ (c2 mca))
                  obtain ⟨v, ev⟩ := lesson _ (Lon _ hy)
                  refine ⟨_, at_map hca, okio0 rfl, ls, c[a], y, u, v, rfl, eu, ev, ?_⟩
                  refine ifb (fun h1 => hyes ?_) fun h1 => hno ?_
                  · rw [shN_eq eu ev, h1, decide_eq_false h]; rfl
                  · rw [shN_eq eu ev, h1, Bool.and_false]
                · rw [mem_casts] at h
                  exact hno (by rw [decide_eq_true h]; rfl)
              · refine ⟨(by show (c.map fun n : Nat => PyData.int (n : Int)).length + (N.map fun n : Nat => PyData.int (n : Int)).length ≤ sizeLine; omega), trivial, ?_⟩
                refine next _ (L.length - (a + 1)) (by omega) ⟨c ++ N, a + 1, s8, keepS (some s9), rfl, by rw [List.length_append]; omega, nd, sub, by simp [c3], ?_, ?_, ?_⟩
                · -- Tree
                  intro i h0 x hx
                  by_cases hi : i < c.length
                  · rw [List.getElem?_append_left hi] at hx
                    obtain ⟨j, y, u, v, h1, h2, h3⟩ := c4 i h0 x hx
                    exact ⟨j, y, u, v, h1, by rw [List.getElem?_append_left (by omega)]; exact h2, h3⟩
                  · rw [List.getElem?_append_right (by omega)] at hx
                    have hxN := (mN x).mp (List.mem_of_getElem? hx)
                    obtain ⟨u, eu⟩ := lesson _ (Lon _ (c2 mca))
                    obtain ⟨v, ev⟩ := lesson _ (Lon _ hxN.1)
                    exact ⟨a, c[a], v, u, by omega, by rw [List.getElem?_append_left hac']; exact hca, ev, eu, by rw [shr_symm, ← shN_eq eu ev]; exact hxN.2.2⟩
                · intro i x hi hx y hy hs
                  rw [List.getElem?_append_left (by omega)] at hx
                  rcases Nat.lt_succ_iff_lt_or_eq.mp hi with z | z
                  · exact List.mem_append_left _ (c5 i x z hx y hy hs)
                  · subst z
                    rw [hca] at hx
                    cases hx
                    by_cases hyc : y ∈ c
                    · exact List.mem_append_left _ hyc
                    · exact List.mem_append_right _ ((mN y).mpr ⟨hy, hyc, hs⟩)
                · show [Slot.rd (LL ls), _, _, _, _, _, .ow none .l (.list ((c.map fun n : Nat => PyData.int (n : Int)) ++ N.map fun n : Nat => PyData.int (n : Int))), _, _, _] = _
                  rw [← List.map_append]
                  rfl
            · rw [lc] at h
              exact hkk _ ⟨c, _, _, _, c1, c2, c3, c4, fun x hx y hy hs => by
                obtain ⟨i, hi⟩ := List.mem_iff_getElem?.mp hx
                exact c5 i x (by have := (List.getElem?_eq_some_iff.mp hi).1; omega) hi y hy hs, rfl⟩
        rintro ρ ⟨c, s7, s8, s9, c1, c2, c3, c4, c5, rfl⟩
        have chain : Chain ls row one other c := by
          refine ⟨c1, fun x hx => Lon x (c2 hx), fun x hx y a b ea eb hy hs => c5 x hx y (Lcl x (c2 hx) y hy (by rw [shN_eq ea eb]; exact hs)) (by rw [shN_eq ea eb]; exact hs), ?_⟩
          have t := tree_most ht.pr c1 (fun x hx => Lon x (c2 hx)) c4
          have e : (c.filter fun x : Nat => decide (row[x]? = some one)).length + (c.filter fun x : Nat => decide (row[x]? = some other)).length = c.length := by
            have e1 : (c.filter fun x : Nat => decide (row[x]? = some other)) = c.filter fun x : Nat => !decide (row[x]? = some one) := List.filter_congr fun x hx => by
              rcases Lon x (c2 hx) with z | z
              · rw [z]; simp [hne]
              · rw [z]; simp [Ne.symm hne]
            rw [e1, ← List.countP_eq_length_filter, ← List.countP_eq_length_filter]
            have := List.length_eq_countP_add_countP (fun x : Nat => decide (row[x]? = some one)) (l := c)
            have e2 : c.countP (fun x : Nat => !decide (row[x]? = some one)) = c.countP (fun a => decide ¬decide (row[a]? = some one) = true) := List.countP_congr fun x _ => by simp
            rw [e2]
            omega
          omega
        refine seq_join (fun ρ => ∃ d s7 s8 s9, d.Perm c ∧ ρ = F (.ow none .l (NL L)) (.ow none .l (.list ((cs ++ [d]).map NL))) (.ow none .l (NL c)) s7 s8 s9) (fun kk hkk => ?_) ?_
        · refine ⟨trivial, _, NL_ints c, fun ms h1 h2 => ?_⟩
          obtain ⟨d, rfl, hd⟩ := perm_nats h1
          refine ⟨(by simp; omega), hkk _ ⟨d, s7, s8, s9, hd, ?_⟩⟩
          show [Slot.rd (LL ls), _, _, _, _, .ow none .l (.list (cs.map NL ++ [.list ((d.map fun n : Nat => (n : Int)).map PyData.int)])), _, _, _, _] = _
          rw [List.map_map, List.map_append]
          rfl
        rintro ρ ⟨d, s7, s8, s9, hd, rfl⟩
        let L2 : List Nat := L.filter fun y => !decide (y ∈ c)
        have mL2 : ∀ y, y ∈ L2 ↔ y ∈ L ∧ y ∉ c := fun y => by
          show y ∈ L.filter _ ↔ _
          simp [List.mem_filter]
        refine ⟨fun p hp => ?_, ?_⟩
        · rw [List.mem_singleton.mp hp]
          show (4 : Nat) ∉ [8]
          decide
        refine comp_map (fun y => !decide (y ∈ c)) (fun n : Nat => .int (n : Int)) (by omega) ⟨rfl, trivial⟩ (fun y hy kk kn hyes hno => ?_) ?_
        · refine ⟨_, NL_ints c, ifnd (fun h => ?_) fun h => ?_⟩
          · rw [mem_casts] at h
            exact hyes (by rw [decide_eq_false h]; rfl)
          · rw [mem_casts] at h
            exact hno (by rw [decide_eq_true h]; rfl)
        · have hlt : L2.length < L.length := by
            have hc0 : ∃ x, x ∈ c := by
              cases c with
              | nil => exact absurd rfl c3
              | cons x _ => exact ⟨x, by simp⟩
            obtain ⟨x, hx⟩ := hc0
            refine Nat.lt_of_le_of_ne (List.length_filter_le _ _) fun e => ?_
            have := List.length_filter_eq_length_iff.mp e x (c2 hx)
            simp [hx] at this
          refine next _ L2.length (by omega) ⟨L2, cs ++ [d], _, _, _, _, rfl, ⟨fun c' hc' => ?_, ?_, j3.filter _, fun x hx => ?_, fun x => ?_, ?_⟩, rfl⟩
          · rcases List.mem_append.mp hc' with z | z
            · exact j1 c' z
            · rw [List.mem_singleton.mp z]; exact chain.perm hd
          · rw [List.flatten_append, List.flatten_singleton]
            exact List.nodup_append.mpr ⟨j2, hd.nodup_iff.mpr c1, fun x hx y hy e => j4 y (c2 (hd.mem_iff.mp hy)) (e ▸ hx)⟩
          · rw [List.flatten_append, List.flatten_singleton, List.mem_append]
            rintro (z | z)
            · exact j4 x ((mL2 x).mp hx).1 z
            · exact ((mL2 x).mp hx).2 (hd.mem_iff.mp z)
          · rw [List.flatten_append, List.flatten_singleton, List.mem_append, mL2, j5 x, hd.mem_iff]
            by_cases hc : x ∈ c
            · simp [hc, c2 hc]
            · simp [hc]
          · simp only [List.length_append, List.length_cons, List.length_nil]
            omega
      · rw [le'] at h
        have e : L = [] := List.length_eq_zero_iff.mp (by omega)
        subst e
        exact hkk _ ⟨cs, _, _, _, _, _, ⟨j1, j2, fun x hx => ((j5 x).mp hx).resolve_left List.not_mem_nil⟩, rfl⟩
  rintro ρ ⟨cs, s4, s6, s7, s8, s9, hcs, rfl⟩
  exact hk cs hcs
end TL.k49

-- part Pk49c
/-! Pk49c: evened. -/
namespace TL.k49
open PySem PySem.Spec L2 TL.cm
variable [Lay]
theorem first_ix {α : Type} [DecidableEq α] : ∀ {ns : List α} {x : α}, x ∈ ns → ∃ j : Nat, ns[j]? = some x ∧ ∀ m : Nat, m < j → ns[m]? ≠ some x
  | y :: ns, x, h => by
    by_cases e : y = x
    · exact ⟨0, by rw [e]; rfl, fun m hm => by omega⟩
    · obtain ⟨j, h1, h2⟩ := first_ix (ns := ns) (x := x) ((List.mem_cons.mp h).resolve_left fun z => e z.symm)
      refine ⟨j + 1, by simpa using h1, fun m hm => ?_⟩
      cases m with
      | zero => simpa using e
      | succ m => simpa using h2 m (by omega)
def flip1 (m l : Int) (r : List Int) (x : Nat) : List Int := r.set x (if r[x]? = some m then l else m)
def flips (m l : Int) (c : List Nat) (r : List Int) : List Int := c.foldl (flip1 m l) r
theorem flips_len (m l : Int) : ∀ (c : List Nat) (r : List Int), (flips m l c r).length = r.length
  | [], r => rfl
  | x :: c, r => by
    show (flips m l c (flip1 m l r x)).length = _
    rw [flips_len m l c]
    simp [flip1]
theorem flip1_ne {m l : Int} {r : List Int} {x y : Nat} (h : x ≠ y) : (flip1 m l r x)[y]? = r[y]? := by
  unfold flip1
  rw [List.getElem?_set_ne h]
theorem flips_out {m l : Int} : ∀ {c : List Nat} {r : List Int} {y : Nat}, y ∉ c → (flips m l c r)[y]? = r[y]?
  | [], r, y, _ => rfl
  | x :: c, r, y, h => by
    show (flips m l c (flip1 m l r x))[y]? = _
    rw [flips_out fun z => h (List.mem_cons_of_mem _ z), flip1_ne fun z => h (by simp [z])]
theorem flips_in {m l : Int} : ∀ {c : List Nat} {r : List Int} {y : Nat}, c.Nodup → y ∈ c → y < r.length → (flips m l c r)[y]? = some (if r[y]? = some m then l else m)
  | x :: c, r, y, hn, h, hl => by
    rw [List.nodup_cons] at hn
    show (flips m l c (flip1 m l r x))[y]? = _
    by_cases e : x = y
    · subst e
      rw [flips_out hn.1]
      unfold flip1
      rw [List.getElem?_set_self hl]
    · rw [flips_in hn.2 ((List.mem_cons.mp h).resolve_left fun z => e z.symm) (by simp [flip1]; exact hl), flip1_ne e]
theorem count_set' {r : List Int} {x : Nat} {a b v : Int} (h : r[x]? = some a) : ((r.set x b).count v : Int) = r.count v - (if a = v then 1 else 0) + (if b = v then 1 else 0) := by
  obtain ⟨hx, he⟩ := List.getElem?_eq_some_iff.mp h
  rw [List.count_set hx, he]
  have hp : a = v → 0 < r.count v := fun e => List.count_pos_iff.mpr (e ▸ List.mem_of_getElem? h)
  by_cases h1 : a = v
  · have := hp h1
    by_cases h2 : b = v
    · simp [h1, h2]; omega
    · simp [h1, h2]; omega
  · by_cases h2 : b = v
    · simp [h1, h2]
    · simp [h1, h2]
/-- what a flip does to the counts -/
theorem flips_count {m l : Int} (hne : m ≠ l) : ∀ {c : List Nat} {r : List Int}, c.Nodup → (∀ x ∈ c, r[x]? = some m ∨ r[x]? = some l) →
    ((flips m l c r).count m : Int) = r.count m + c.length - 2 * ((c.filter fun x : Nat => decide (r[x]? = some m)).length : Nat) ∧ ((flips m l c r).count l : Int) = r.count l - c.length + 2 * ((c.filter fun x : Nat => decide (r[x]? = some m)).length : Nat) ∧
      ∀ v, v ≠ m → v ≠ l → (flips m l c r).count v = r.count v
  | [], r, _, _ => by simp [flips]
  | x :: c, r, hn, h => by
    rw [List.nodup_cons] at hn
    have same : ∀ y ∈ c, (flip1 m l r x)[y]? = r[y]? := fun y hy => flip1_ne fun z => hn.1 (z ▸ hy)
    obtain ⟨i1, i2, i3⟩ := flips_count hne (c := c) (r := flip1 m l r x) hn.2 fun y hy => by rw [same y hy]; exact h y (List.mem_cons_of_mem _ hy)
    have e : (c.filter fun y : Nat => decide ((flip1 m l r x)[y]? = some m)) = c.filter fun y : Nat => decide (r[y]? = some m) := List.filter_congr fun y hy => by rw [same y hy]
    rw [e] at i1 i2
    have hl : l ≠ m := Ne.symm hne
    rcases h x List.mem_cons_self with hx | hx
    · have ef : flip1 m l r x = r.set x l := by unfold flip1; rw [if_pos hx]
      have c1 := count_set' (b := l) (v := m) hx
      have c2 := count_set' (b := l) (v := l) hx
      simp [hne, hl] at c1 c2
      rw [ef] at i1 i2 i3
      refine ⟨?_, ?_, fun v h1 h2 => ?_⟩
      · show ((flips m l c (flip1 m l r x)).count m : Int) = _
        rw [ef, i1, c1]; simp [hx]; omega
      · show ((flips m l c (flip1 m l r x)).count l : Int) = _
        rw [ef, i2, c2]; simp [hx]; omega
      · show (flips m l c (flip1 m l r x)).count v = _
        have c3 := count_set' (b := l) (v := v) hx
        simp [Ne.symm h1, Ne.symm h2] at c3
        rw [ef, i3 v h1 h2]; omega
    · have hxm : r[x]? ≠ some m := by rw [hx]; simpa using hl
      have ef : flip1 m l r x = r.set x m := by unfold flip1; rw [if_neg hxm]
      have c1 := count_set' (b := m) (v := m) hx
      have c2 := count_set' (b := m) (v := l) hx
      simp [hne, hl] at c1 c2
      rw [ef] at i1 i2 i3
      refine ⟨?_, ?_, fun v h1 h2 => ?_⟩
      · show ((flips m l c (flip1 m l r x)).count m : Int) = _
        rw [ef, i1, c1]; simp [hx, hl]; omega
      · show ((flips m l c (flip1 m l r x)).count l : Int) = _
        rw [ef, i2, c2]; simp [hx, hl]; omega
      · show (flips m l c (flip1 m l r x)).count v = _
        have c3 := count_set' (b := m) (v := v) hx
        simp [Ne.symm h1, Ne.symm h2] at c3
        rw [ef, i3 v h1 h2]; omega
theorem flips_proper {ls : List (Int × Int)} {row : List Int} {m l : Int} {c : List Nat} (hne : m ≠ l) (h : Proper ls row) (hc : Chain ls row m l c) (hlen : row.length = ls.length) : Proper ls (flips m l c row) := by
  intro i j a b hij ha hb he
  have li : i < row.length := by rw [hlen]; exact (List.getElem?_eq_some_iff.mp ha).1
  have lj : j < row.length := by rw [hlen]; exact (List.getElem?_eq_some_iff.mp hb).1
  have mixed : ∀ {i j : Nat} {a b : Int × Int}, i < row.length → ls[i]? = some a → ls[j]? = some b → (flips m l c row)[i]? = (flips m l c row)[j]? → i ∈ c → j ∉ c → shr a b = false := by
    intro i j a b li ha hb he hi hj
    rw [flips_in hc.nd hi li, flips_out hj] at he
    cases hs : shr a b with
    | false => rfl
    | true =>
      refine absurd (hc.closed i hi j a b ha hb ?_ hs) hj
      by_cases z : row[i]? = some m
      · rw [if_pos z] at he; exact .inr he.symm
      · rw [if_neg z] at he; exact .inl he.symm
  by_cases hi : i ∈ c
  · by_cases hj : j ∈ c
    · rw [flips_in hc.nd hi li, flips_in hc.nd hj lj] at he
      have he := Option.some.inj he
      refine h i j a b hij ha hb ?_
      rcases hc.inn i hi with zi | zi <;> rcases hc.inn j hj with zj | zj
      · rw [zi, zj]
      · rw [if_pos zi, if_neg (by rw [zj]; simpa using Ne.symm hne)] at he; exact absurd he.symm hne
      · rw [if_neg (by rw [zi]; simpa using Ne.symm hne), if_pos zj] at he; exact absurd he hne
      · rw [zi, zj]
    · exact mixed li ha hb he hi hj
  · by_cases hj : j ∈ c
    · rw [shr_symm]; exact mixed lj hb ha he.symm hj hi
    · rw [flips_out hi, flips_out hj] at he
      exact h i j a b hij ha hb he
theorem flips_tt {ls : List (Int × Int)} {row : List Int} {m l : Int} {c : List Nat} {p : Nat} (hne : m ≠ l) (hm : 0 ≤ m ∧ m < p) (hl : 0 ≤ l ∧ l < p) (h : Tt ls row p) (hc : Chain ls row m l c) : Tt ls (flips m l c row) p := by
  refine ⟨by rw [flips_len]; exact h.len, h.ten, fun x hx => ?_, flips_proper hne h.pr hc h.len, h.small⟩
  obtain ⟨i, hi⟩ := List.mem_iff_getElem?.mp hx
  have li : i < row.length := by rw [← flips_len m l c]; exact (List.getElem?_eq_some_iff.mp hi).1
  by_cases hic : i ∈ c
  · rw [flips_in hc.nd hic li] at hi
    have := Option.some.inj hi
    by_cases z : row[i]? = some m
    · rw [if_pos z] at this; rw [← this]; exact hl
    · rw [if_neg z] at this; rw [← this]; exact hm
  · rw [flips_out hic] at hi
    exact h.rng x (List.mem_of_getElem? hi)
theorem count_places (row : List Int) (m : Int) : row.count m = ((List.range row.length).filter fun x : Nat => decide (row[x]? = some m)).length := by
  induction row with
  | nil => rfl
  | cons y row ih =>
    rw [List.length_cons, List.range_succ_eq_map, List.filter_cons, List.count_cons, ih, List.filter_map, ]
    have e : (List.filter ((fun x : Nat => decide ((y :: row)[x]? = some m)) ∘ Nat.succ) (List.range row.length)) = (List.range row.length).filter fun x : Nat => decide (row[x]? = some m) := List.filter_congr fun x _ => by simp
    rw [e]
    by_cases h : y = m
    · simp [h]
    · simp [h]
/-- some chain has more of the fuller period -/
theorem some_chain {ls : List (Int × Int)} {row : List Int} {m l : Int} {cs : List (List Nat)} (hne : m ≠ l) (h : Chains ls row m l cs) (hall : ∀ c ∈ cs, 2 * (c.filter fun x : Nat => decide (row[x]? = some m)).length ≤ c.length) : row.count m ≤ row.count l := by
  have key : ∀ v, (v = m ∨ v = l) → row.count v = (cs.flatten.filter fun x : Nat => decide (row[x]? = some v)).length := fun v hv => by
    rw [count_places]
    refine List.Perm.length_eq ((List.perm_ext_iff_of_nodup (List.nodup_range.filter _) (h.nd.filter _)).mpr fun x => ?_)
    rw [List.mem_filter, List.mem_filter, decide_eq_true_eq, List.mem_range]
    refine ⟨fun z => ⟨h.has x (hv.elim (fun e => .inl (e ▸ z.2)) fun e => .inr (e ▸ z.2)), z.2⟩, fun z => ⟨(List.getElem?_eq_some_iff.mp z.2).1, z.2⟩⟩
  rw [key m (.inl rfl), key l (.inr rfl)]
  have gen : ∀ ds : List (List Nat), (∀ c ∈ ds, Chain ls row m l c) → (∀ c ∈ ds, 2 * (c.filter fun x : Nat => decide (row[x]? = some m)).length ≤ c.length) → (ds.flatten.filter fun x : Nat => decide (row[x]? = some m)).length ≤ (ds.flatten.filter fun x : Nat => decide (row[x]? = some l)).length := fun ds => by
    induction ds with
    | nil => intro _ _; simp
    | cons c ds ih =>
      intro h1 h2
      have i := ih (fun c hc => h1 c (List.mem_cons_of_mem _ hc)) fun c hc => h2 c (List.mem_cons_of_mem _ hc)
      have j := h2 c List.mem_cons_self
      rw [List.flatten_cons, List.filter_append, List.filter_append, List.length_append, List.length_append]
      have e : (c.filter fun x : Nat => decide (row[x]? = some m)).length + (c.filter fun x : Nat => decide (row[x]? = some l)).length = c.length := by
        have e1 : (c.filter fun x : Nat => decide (row[x]? = some l)) = c.filter fun x : Nat => !decide (row[x]? = some m) := List.filter_congr fun x hx => by
          rcases (h1 c List.mem_cons_self).inn x hx with z | z
          · rw [z]; simp [hne]
          · rw [z]; simp [Ne.symm hne]
        rw [e1]
        have := List.filter_append_perm (fun x : Nat => decide (row[x]? = some m)) c
        have := this.length_eq
        rw [List.length_append] at this
        exact this
      omega
  exact gen cs h.all hall
theorem sum_upd {f g : Nat → Nat} {a : Nat} (h : ∀ x, x ≠ a → g x = f x) : ∀ {l : List Nat}, l.Nodup → a ∈ l → (l.map g).sum + f a = (l.map f).sum + g a
  | x :: l, hn, hm => by
    rw [List.nodup_cons] at hn
    simp only [List.map_cons, List.sum_cons]
    by_cases e : x = a
    · subst e
      have : l.map g = l.map f := List.map_congr_left fun y hy => h y fun z => hn.1 (z ▸ hy)
      rw [this]
      omega
    · have := sum_upd h hn.2 ((List.mem_cons.mp hm).resolve_left fun z => e z.symm)
      rw [h x e]
      omega
def sqs (r : List Int) (p : Nat) : Nat := ((List.range p).map fun i : Nat => r.count (i : Int) * r.count (i : Int)).sum
theorem sqs_lt {r r' : List Int} {p a b : Nat} (ha : a < p) (hb : b < p) (hab : a ≠ b) (h1 : r'.count (a : Int) + 1 = r.count (a : Int)) (h2 : r'.count (b : Int) = r.count (b : Int) + 1) (h3 : ∀ v : Int, v ≠ a → v ≠ b → r'.count v = r.count v) (h4 : r.count (b : Int) + 2 ≤ r.count (a : Int)) : sqs r' p < sqs r p := by
  let f : Nat → Nat := fun i => r.count (i : Int) * r.count (i : Int)
  let g : Nat → Nat := fun i => r'.count (i : Int) * r'.count (i : Int)
  let u : Nat → Nat := fun i => if i = a then g a else f i
  have e1 := sum_upd (f := f) (g := u) (a := a) (fun x hx => if_neg hx) (List.nodup_range (n := p)) (List.mem_range.mpr ha)
  have e2 := sum_upd (f := u) (g := g) (a := b) (fun x hx => by
    show g x = if x = a then g a else f x
    by_cases z : x = a
    · rw [if_pos z, z]
    · rw [if_neg z]
      show r'.count _ * _ = r.count _ * _
      rw [h3 x (by omega) (by omega)]) (List.nodup_range (n := p)) (List.mem_range.mpr hb)
  have ua : u a = g a := if_pos rfl
  have ub : u b = f b := if_neg (Ne.symm hab)
  rw [ua] at e1
  rw [ub] at e2
  have k1 : g a + 2 * r'.count (a : Int) + 1 = f a := by
    show r'.count (a : Int) * r'.count (a : Int) + _ + _ = r.count (a : Int) * r.count (a : Int)
    rw [← h1]
    generalize r'.count (a : Int) = n
    rw [Nat.add_mul, Nat.mul_add]; omega
  have k2 : g b = f b + 2 * r.count (b : Int) + 1 := by
    show r'.count (b : Int) * r'.count (b : Int) = r.count (b : Int) * r.count (b : Int) + _ + _
    rw [h2]
    generalize r.count (b : Int) = n
    rw [Nat.add_mul, Nat.mul_add]; omega
  show ((List.range p).map g).sum < ((List.range p).map f).sum
  omega
def sz (r : List Int) (p : Nat) : List Int := (List.range p).map fun i : Nat => (r.count (i : Int) : Int)
theorem sz_at {r : List Int} {p i : Nat} (h : i < p) : (sz r p)[i]? = some (r.count (i : Int) : Int) := by
  unfold sz
  rw [List.getElem?_map, List.getElem?_range h]
  rfl
theorem sz_ix {r : List Int} {p : Nat} {v : Int} (h : v ∈ sz r p) : ∃ j : Nat, j < p ∧ v = r.count (j : Int) ∧ (sz r p)[j]? = some v ∧ ∀ m : Nat, m < j → (sz r p)[m]? ≠ some v := by
  obtain ⟨j, h1, h2⟩ := first_ix h
  have hj : j < p := by
    have := (List.getElem?_eq_some_iff.mp h1).1
    unfold sz at this
    simpa using this
  exact ⟨j, hj, by rw [sz_at hj] at h1; exact (Option.some.inj h1).symm, h1, h2⟩
theorem p_evened : Ok_evened := by
  rintro ds k as ⟨ls, row, p, rfl, ht, hp, hk⟩ - ha
  obtain rfl := as0 ha
  have q := sl
  let F : Slot → Slot → Slot → Slot → Slot → Slot → Slot → Slot → List Slot := fun found sizes most least chain full place period => [.rd (LL ls), .rd (IL row), .fz (.int p), found, sizes, most, least, chain, full, place, period]
  refine seq_to (F (.ow none .l (IL row)) .un .un .un .un .un .un .un) (fun kk hkk => hkk) ?_
  refine seq_join (fun ρ => 0 < p ∧ ρ = F (.ow none .l (IL row)) .un .un .un .un .un .un .un) (fun kk hkk => ?_) ?_
  · refine ⟨sh_int, sh_int, ifb (fun h => ?_) fun h => ?_⟩
    · rw [eqv_int, decide_eq_true_eq] at h
      have h0 : p = 0 := by omega
      exact hk row ht fun a b h1 => by omega
    · rw [eqv_int, decide_eq_false_iff_not] at h
      exact hkk _ ⟨by omega, rfl⟩
  rintro ρ ⟨hp0, rfl⟩
  refine wtrue_ind (fun m ρ => ∃ r s4 s5 s6 s7 s8 s9 s10, m = sqs r p ∧ Tt ls r p ∧ ρ = F (.ow none .l (IL r)) s4 s5 s6 s7 s8 s9 s10) ⟨_, row, _, _, _, _, _, _, _, rfl, ht, rfl⟩ ?_
  rintro m ρ kk ⟨r, s4, s5, s6, s7, s8, s9, s10, hm, htr, rfl⟩ next
  refine seq_join (fun ρ => ∃ s10, ρ = F (.ow none .l (IL r)) (.ow none .l (IL (sz r p))) s5 s6 s7 s8 s9 s10) (fun kk hkk => ?_) ?_
  · refine ⟨⟨by omega, by omega⟩, fun p hp => absurd hp List.not_mem_nil, ?_⟩
    refine comp_rgA (fun i => .int (r.count (i : Int))) (by omega) trivial (fun i hi kk hk => ⟨rfl, r, intsOf_map _, hk⟩) (hkk _ ⟨keepS (some s10), ?_⟩)
    show [Slot.rd (LL ls), _, _, _, .ow none .l (.list ((List.range (p : Int).toNat).map fun i : Nat => PyData.int (r.count (i : Int)))), _, _, _, _, _, _] = _
    rw [Int.toNat_natCast]
    show _ = [Slot.rd (LL ls), _, _, _, .ow none .l (.list ((sz r p).map .int)), _, _, _, _, _, _]
    unfold sz
    rw [List.map_map]
    rfl
  rintro ρ ⟨s10, rfl⟩
  have szp : 0 < (sz r p).length := by unfold sz; simpa using hp0
  refine seq_join (fun ρ => ∃ a b : Nat, a < p ∧ b < p ∧ (∀ i, i < p → r.count (i : Int) ≤ r.count (a : Int)) ∧ (∀ i, i < p → r.count (b : Int) ≤ r.count (i : Int)) ∧ ρ = F (.ow none .l (IL r)) (.ow none .l (IL (sz r p))) (.fz (.int a)) (.fz (.int b)) s7 s8 s9 s10) (fun kk hkk => ?_) ?_
  · refine ⟨rfl, _, intsOf_map _, szp, fun M hM1 hM2 => ?_⟩
    obtain ⟨a, a1, a2, a3, a4⟩ := sz_ix hM1
    refine ⟨_, intsOf_map _, a, a3, a4, rfl, _, intsOf_map _, szp, fun N hN1 hN2 => ?_⟩
    obtain ⟨b, b1, b2, b3, b4⟩ := sz_ix hN1
    refine ⟨_, intsOf_map _, b, b3, b4, (by show 2 ≤ sizeLine; decide), rfl, hkk _ ⟨a, b, a1, b1, fun i hi => ?_, fun i hi => ?_, rfl⟩⟩
    · have := hM2 _ (List.mem_of_getElem? (sz_at (r := r) hi)); omega
    · have := hN2 _ (List.mem_of_getElem? (sz_at (r := r) hi)); omega
  rintro ρ ⟨a, b, ha, hb, hmost, hleast, rfl⟩
  refine seq_join (fun ρ => r.count (b : Int) + 2 ≤ r.count (a : Int) ∧ ρ = F (.ow none .l (IL r)) (.ow none .l (IL (sz r p))) (.fz (.int a)) (.fz (.int b)) s7 s8 s9 s10) (fun kk hkk => ?_) ?_
  · refine ⟨_, at_map (sz_at ha), _, at_map (sz_at hb), ifd (fun h => ?_) fun h => hkk _ ⟨by omega, rfl⟩⟩
    refine hk r htr fun i j hi hj => ?_
    have := hmost i hi
    have := hleast j hj
    omega
  rintro ρ ⟨hab, rfl⟩
  have hne : (a : Int) ≠ b := fun e => by rw [e] at hab; omega
  refine ⟨okio0 rfl, ls, r, p, a, b, rfl, htr, hne, fun cs hcs => ⟨trivial, ?_⟩⟩
  refine loop_map (fun done rest ρ => (∀ c ∈ done, 2 * (c.filter fun x : Nat => decide (r[x]? = some (a : Int))).length ≤ c.length) ∧ ∃ s7 s8 s9, ρ = F (.ow none .l (IL r)) (.ow none .l (IL (sz r p))) (.fz (.int a)) (.fz (.int b)) s7 s8 s9 s10) ⟨by simp, _, _, _, rfl⟩ ?_ ?_
  · rintro ρ ⟨hall, _⟩
    have := some_chain hne hcs hall
    omega
  · rintro done c rest ρ kk' he ⟨hall, s7, s8, s9, rfl⟩ next'
    have hc := hcs.all c (by rw [he]; simp)
    have lr : ∀ x ∈ c, x < r.length := fun x hx => by rcases hc.inn x hx with h | h <;> exact (List.getElem?_eq_some_iff.mp h).1
    have lc : c.length ≤ 10 := by
      have h1 := hc.nd.length_le_of_subset (l₂ := List.range r.length) fun x hx => List.mem_range.mpr (lr x hx)
      rw [List.length_range] at h1
      have := htr.len
      have := htr.ten
      omega
    have l1 : (c.map fun n : Nat => PyData.int (n : Int)).length = c.length := List.length_map _
    let full := (c.filter fun x : Nat => decide (r[x]? = some (a : Int))).length
    refine seq_join (fun ρ => ∃ s9, ρ = F (.ow none .l (IL r)) (.ow none .l (IL (sz r p))) (.fz (.int a)) (.fz (.int b)) (.fz (NL c)) (.fz (.int full)) s9 s10) (fun kk hkk => ?_) ?_
    · refine ⟨fun p hp => absurd hp List.not_mem_nil, ?_⟩
      refine comp_map (fun x => decide (r[x]? = some (a : Int))) (fun _ => .int 1) (by omega) trivial (fun x hx kk kn hy hn => ?_) (hkk _ ⟨keepS (some s9), ?_⟩)
      · have hx' : r[x]? = some (r[x]'(lr x hx)) := List.getElem?_eq_getElem (lr x hx)
        refine ⟨_, at_map hx', sh_int, sh_int, ifb (fun h => hy ?_) fun h => hn ?_⟩
        · rw [eqv_int, decide_eq_true_eq] at h
          rw [hx', h]; simp
        · rw [eqv_int, decide_eq_false_iff_not] at h
          rw [hx']; simpa using h
      · show [Slot.rd (LL ls), _, _, _, _, _, _, _, .fz (.int (((c.filter fun x : Nat => decide (r[x]? = some (a : Int))).map fun _ => PyData.int 1).length : Nat)), _, _] = _
        rw [List.length_map]
        rfl
    rintro ρ ⟨s9, rfl⟩
    refine ⟨mulSmall' (by decide), ifd (fun h => ?_) fun h => ?_⟩
    · rw [l1] at h
      refine ⟨trivial, ?_⟩
      refine loop_map (fun d _ ρ => ∃ s9, ρ = F (.ow none .l (IL (flips a b d r))) (.ow none .l (IL (sz r p))) (.fz (.int a)) (.fz (.int b)) (.fz (NL c)) (.fz (.int full)) s9 s10) ⟨_, rfl⟩ ?_ ?_
      · rintro ρ ⟨s9, rfl⟩
        obtain ⟨f1, f2, f3⟩ := flips_count hne hc.nd hc.inn
        have := hc.most
        refine next _ (sqs (flips a b c r) p) ?_ ⟨_, _, _, _, _, _, _, _, rfl, flips_tt hne ⟨by omega, by omega⟩ ⟨by omega, by omega⟩ htr hc, rfl⟩
        rw [hm]
        exact sqs_lt ha hb (by omega) (by omega) (by omega) f3 hab
      · rintro d x rest' ρ kk'' he' ⟨s9, rfl⟩ next''
        have hnd := hc.nd
        rw [he'] at hnd
        have hxd : x ∉ d := fun z => by
          rw [List.nodup_append] at hnd
          exact hnd.2.2 x z x (by simp) rfl
        have hxc : x ∈ c := by rw [he']; simp
        have hx' : r[x]? = some (r[x]'(lr x hxc)) := List.getElem?_eq_getElem (lr x hxc)
        have hfx : (flips a b d r)[x]? = some (r[x]'(lr x hxc)) := by rw [flips_out hxd]; exact hx'
        have lx : x < (flips a b d r).length := by rw [flips_len]; exact lr x hxc
        have fin : ∀ v, v = (if r[x]? = some (a : Int) then (b : Int) else a) → kk'' ([Slot.rd (LL ls), .rd (IL row), .fz (.int p), .ow none .l (.list (((flips a b d r).map PyData.int).set x (.int v))), .ow none .l (IL (sz r p)), .fz (.int a), .fz (.int b), .fz (NL c), .fz (.int full), .fz (.int x), s10]) := fun v hv => next'' _ ⟨.fz (.int x), by
          have e : flips a b (d ++ [x]) r = (flips a b d r).set x v := by
            unfold flips
            rw [List.foldl_append]
            show flip1 a b (flips a b d r) x = (flips a b d r).set x v
            unfold flip1
            rw [flips_out hxd, hv]
          rw [e]
          show _ = [Slot.rd (LL ls), _, _, .ow none .l (.list (((flips a b d r).set x v).map .int)), _, _, _, _, _, _, _]
          rw [List.map_set]⟩
        refine ⟨_, at_map hfx, sh_int, sh_int, ifb (fun h => ?_) fun h => ?_⟩
        · rw [eqv_int, decide_eq_true_eq] at h
          refine ⟨trivial, x, by rw [List.length_map, ixN_of (by omega) (by omega)]; rfl, fin _ ?_⟩
          rw [if_pos (by rw [hx', h])]
        · rw [eqv_int, decide_eq_false_iff_not] at h
          refine ⟨trivial, x, by rw [List.length_map, ixN_of (by omega) (by omega)]; rfl, fin _ ?_⟩
          rw [if_neg (by rw [hx']; simpa using h)]
    · rw [l1] at h
      refine next' _ ⟨fun c' hc' => ?_, _, _, _, rfl⟩
      rcases List.mem_append.mp hc' with z | z
      · exact hall c' z
      · rw [List.mem_singleton.mp z]; omega
end TL.k49

-- part TL24
/-! TL24: plain words: lists, first places, greatest ones, dicts by their keys. -/
namespace TL
open PySem PySem.Spec L2
variable [Lay]
theorem snoc_ind {α : Type} {P : List α → Prop} (h0 : P []) (h1 : ∀ l x, P l → P (l ++ [x])) (l : List α) : P l := by
  have key : ∀ m : List α, P m.reverse := fun m => by
    induction m with
    | nil => exact h0
    | cons x m ih => rw [List.reverse_cons]; exact h1 _ x ih
  simpa using key l.reverse
theorem first_ix {α : Type} [DecidableEq α] : ∀ {ns : List α} {x : α}, x ∈ ns → ∃ j : Nat, ns[j]? = some x ∧ ∀ m : Nat, m < j → ns[m]? ≠ some x
  | y :: ns, x, h => by
    by_cases e : y = x
    · exact ⟨0, by rw [e]; rfl, fun m hm => by omega⟩
    · obtain ⟨j, h1, h2⟩ := first_ix (ns := ns) (x := x) ((List.mem_cons.mp h).resolve_left fun z => e z.symm)
      refine ⟨j + 1, by simpa using h1, fun m hm => ?_⟩
      cases m with
      | zero => simpa using e
      | succ m => simpa using h2 m (by omega)
theorem has_max : ∀ {ns : List Int}, ns ≠ [] → ∃ M, M ∈ ns ∧ ∀ y, y ∈ ns → y ≤ M
  | [x], _ => ⟨x, by simp, fun y hy => by simp at hy; omega⟩
  | x :: z :: ns, _ => by
    obtain ⟨M, h1, h2⟩ := has_max (ns := z :: ns) (by simp)
    by_cases h : x ≤ M
    · refine ⟨M, List.mem_cons_of_mem _ h1, fun y hy => ?_⟩
      rcases List.mem_cons.mp hy with rfl | hy
      · exact h
      · exact h2 y hy
    · refine ⟨x, by simp, fun y hy => ?_⟩
      rcases List.mem_cons.mp hy with rfl | hy
      · omega
      · have := h2 y hy; omega
theorem has_min : ∀ {ns : List Int}, ns ≠ [] → ∃ M, M ∈ ns ∧ ∀ y, y ∈ ns → M ≤ y
  | [x], _ => ⟨x, by simp, fun y hy => by simp at hy; omega⟩
  | x :: z :: ns, _ => by
    obtain ⟨M, h1, h2⟩ := has_min (ns := z :: ns) (by simp)
    by_cases h : M ≤ x
    · refine ⟨M, List.mem_cons_of_mem _ h1, fun y hy => ?_⟩
      rcases List.mem_cons.mp hy with rfl | hy
      · exact h
      · exact h2 y hy
    · refine ⟨x, by simp, fun y hy => ?_⟩
      rcases List.mem_cons.mp hy with rfl | hy
      · omega
      · have := h2 y hy; omega
theorem eqv_inj {α : Type} [DecidableEq α] {c : α → D} (nb : ∀ a, Nb (c a) = true) (inj : ∀ a b, c a = c b → a = b) (a b : α) : PyData.eqv (c a) (c b) = decide (a = b) := by
  by_cases h : a = b
  · subst h
    rw [decide_eq_true rfl]
    exact eqv_self (nb a)
  · rw [decide_eq_false h]
    exact Bool.eq_false_iff.mpr fun z => h (inj a b ((eqv_iff (nb a) (nb b)).mp z))
section
variable {α : Type} [DecidableEq α] {c : α → D} (hc : ∀ a b, PyData.eqv (c a) (c b) = decide (a = b))
/-- a dict by its keys -/
def dcD (c : α → D) (m : List (α × D)) : List (D × D) := m.map fun p => (c p.1, p.2)
def dget (m : List (α × D)) (a : α) : Option D := (m.find? fun p => decide (p.1 = a)).map (·.2)
def dput (m : List (α × D)) (a : α) (v : D) : List (α × D) := if (m.any fun p => decide (p.1 = a)) = true then m.map (fun p => if p.1 = a then (p.1, v) else p) else m ++ [(a, v)]
include hc in
theorem look_dc (m : List (α × D)) (a : α) : lookD (dcD c m) (c a) = dget m a := by
  unfold lookD dcD dget
  rw [List.find?_map]
  have : ((fun p : D × D => PyData.eqv p.1 (c a)) ∘ fun p : α × D => (c p.1, p.2)) = fun p => decide (p.1 = a) := by
    funext p
    exact hc p.1 a
  rw [this]
  cases m.find? fun p => decide (p.1 = a) <;> rfl
include hc in
theorem put_dc (m : List (α × D)) (a : α) (v : D) : putD (dcD c m) (c a) v = dcD c (dput m a v) := by
  unfold putD dcD dput
  rw [List.any_map]
  have : ((fun p : D × D => PyData.eqv p.1 (c a)) ∘ fun p : α × D => (c p.1, p.2)) = fun p => decide (p.1 = a) := by
    funext p
    exact hc p.1 a
  rw [this]
  by_cases h : (m.any fun p => decide (p.1 = a)) = true
  · rw [if_pos h, if_pos h, List.map_map, List.map_map]
    refine List.map_congr_left fun p _ => ?_
    show (if PyData.eqv (c p.1) (c a) = true then (c p.1, v) else (c p.1, p.2)) = _
    rw [hc]
    by_cases e : p.1 = a
    · simp [e]
    · simp [e]
  · rw [if_neg h, if_neg h]
    simp
theorem dget_none {m : List (α × D)} {a : α} : dget m a = none ↔ a ∉ m.map (·.1) := by
  unfold dget
  rw [Option.map_eq_none_iff, List.find?_eq_none]
  constructor
  · intro h z
    obtain ⟨p, hp, rfl⟩ := List.mem_map.mp z
    exact h p hp (by simp)
  · intro h p hp z
    exact h (List.mem_map.mpr ⟨p, hp, by simpa using z⟩)
theorem dput_new {m : List (α × D)} {a : α} {v : D} (h : a ∉ m.map (·.1)) : dput m a v = m ++ [(a, v)] := by
  unfold dput
  rw [if_neg]
  intro z
  obtain ⟨p, hp, e⟩ := List.any_eq_true.mp z
  exact h (List.mem_map.mpr ⟨p, hp, by simpa using e⟩)
theorem dput_keys (m : List (α × D)) (a : α) (v : D) : (dput m a v).map (·.1) = if a ∈ m.map (·.1) then m.map (·.1) else m.map (·.1) ++ [a] := by
  by_cases h : a ∈ m.map (·.1)
  · rw [if_pos h]
    unfold dput
    rw [if_pos (by
      obtain ⟨p, hp, e⟩ := List.mem_map.mp h
      exact List.any_eq_true.mpr ⟨p, hp, by simpa using e⟩), List.map_map]
    refine List.map_congr_left fun p _ => ?_
    show (if p.1 = a then (p.1, v) else p).1 = p.1
    split <;> rfl
  · rw [if_neg h, dput_new h]
    simp
theorem dget_put (m : List (α × D)) (a b : α) (v : D) : dget (dput m a v) b = if a = b then some v else dget m b := by
  by_cases h : a ∈ m.map (·.1)
  · have ha : (m.any fun p => decide (p.1 = a)) = true := by
      obtain ⟨p, hp, e⟩ := List.mem_map.mp h
      exact List.any_eq_true.mpr ⟨p, hp, by simpa using e⟩
    unfold dput
    rw [if_pos ha]
    clear h
    induction m with
    | nil => simp at ha
    | cons p m ih =>
      unfold dget at ih ⊢
      simp only [List.map_cons, List.find?_cons]
      by_cases e : p.1 = a
      · by_cases e2 : p.1 = b
        · have : a = b := e.symm.trans e2
          simp [e, this]
        · have : a ≠ b := fun z => e2 (e.trans z)
          simp only [if_pos e, if_neg this, decide_eq_false e2]
          by_cases hm : (m.any fun p => decide (p.1 = a)) = true
          · rw [ih hm, if_neg this]
          · congr 1
            have : m.map (fun p => if p.1 = a then (p.1, v) else p) = m := by
              rw [List.map_congr_left (g := id), List.map_id]
              intro q hq
              rw [if_neg]
              · rfl
              · intro z
                exact hm (List.any_eq_true.mpr ⟨q, hq, by simpa using z⟩)
            rw [this]
      · have hm : (m.any fun p => decide (p.1 = a)) = true := by
          rw [List.any_cons, decide_eq_false e, Bool.false_or] at ha
          exact ha
        simp only [if_neg e]
        by_cases e2 : p.1 = b
        · have : a ≠ b := fun z => e (e2.trans z.symm)
          simp [e2, this]
        · simp only [decide_eq_false e2]
          exact ih hm
  · rw [dput_new h]
    unfold dget
    rw [List.find?_append]
    by_cases e : a = b
    · subst e
      rw [if_pos rfl]
      have := (dget_none (m := m) (a := a)).mpr h
      unfold dget at this
      rw [Option.map_eq_none_iff] at this
      rw [this]
      simp
    · rw [if_neg e]
      cases hf : m.find? fun p => decide (p.1 = b) with
      | none => simp [e]
      | some p => simp
end
end TL

-- part Pcm2
/-! Pcm2: draws in comprehensions; the specs as rules. -/
namespace TL.cm
open PySem PySem.Spec L2
variable [Lay]
/-- [.. draws .. for .. in ..]: St: the state by its box -/
theorem comp_dr {β : Type} {g : DTG} {te : DTE} {src : List (Nat × D)} {vs : List Nat} {k : List D → List Slot → Prop} {items : List D} (e : β → D) (St : D → List Slot) (P : β → Prop) (hl : items.length ≤ sizeLine) (hs : ∀ b, stl src (St b))
    (step : ∀ d, d ∈ items → ∀ b, BoxD b → ∀ kk : D → List Slot → Prop, (∀ y b', P y → BoxD b' → kk (e y) (St b')) → g d (St b) fun ρ1 => te ρ1 fun r ρ3 => fzR r ρ3 fun v ρ4 => kk v (wipeR ρ4 vs))
    (fin : ∀ (ys : List β) b', ys.length = items.length → (∀ y ∈ ys, P y) → BoxD b' → k (ys.map e) (St b')) {b : D} (hb : BoxD b) : dCompL g dYes te src vs k items [] (St b) := by
  refine comp_ind (fun acc done rest ρ => ∃ (ys : List β) (b' : D), acc = ys.map e ∧ ys.length = done.length ∧ (∀ y ∈ ys, P y) ∧ BoxD b' ∧ ρ = St b') ⟨[], b, rfl, rfl, fun _ h => absurd h List.not_mem_nil, hb, rfl⟩ ?_ ?_
  · rintro acc ρ ⟨ys, b', rfl, h1, h2, h3, rfl⟩
    exact ⟨hs _, fin ys b' h1 h2 h3⟩
  · rintro acc done d rest ρ he ⟨ys, b', rfl, h1, h2, h3, rfl⟩ next
    refine ⟨hs _, step d (by rw [he]; simp) b' h3 (fun v ρ4 => (ys.map e).length < sizeLine ∧ dCompL g dYes te src vs k rest (ys.map e ++ [v]) ρ4) fun x b'' hx hb'' => ⟨?_, next _ _ ⟨ys ++ [x], b'', by simp, by simp [h1], fun y hy => ?_, hb'', rfl⟩⟩⟩
    · rw [List.length_map, h1]
      have := congrArg List.length he
      simp at this
      omega
    · rcases List.mem_append.mp hy with z | z
      · exact h2 y z
      · rw [List.mem_singleton.mp z]; exact hx
/-- a draw -/
theorem draw_ok {b : D} {n : Int} {k : Res → List D → Prop} (hb : BoxD b) (hn : 0 < n) (h : ∀ (x : Nat) b', (x : Int) < n → BoxD b' → k (.fz (.int (x : Int))) [b']) : t__law_draw [b, .int n] k :=
  ⟨b, n, rfl, hb, hn, fun x b' h1 h2 hb' => by
    obtain ⟨y, rfl⟩ := Int.eq_ofNat_of_zero_le h1
    exact h y b' h2 hb'⟩
theorem pick_ok {b : D} {row : List D} {k : Res → List D → Prop} (hb : BoxD b) (hn : row ≠ []) (h : ∀ x b', x ∈ row → BoxD b' → k (.fz x) [b']) : t__law_pick [b, .list row] k := ⟨b, row, .inl rfl, hb, hn, h⟩
theorem same_ok {d : D} {k : Res → List D → Prop} (hs : Sm 9 d) (h : k (.fz (.bool true)) []) : t__law_same [d, d] k := ⟨d, rfl, hs, h⟩
theorem eqv_ne {d : D} (h : Nb d = true) : (!PyData.eqv d d) = false := by rw [eqv_self h]; rfl
end TL.cm

-- part Pk49d
/-! Pk49d: plans, gaps, the judge. -/
namespace TL.k49
open PySem PySem.Spec L2 TL.cm
variable [Lay]
theorem p_plan_of : Ok_plan_of := by
  rintro ds k as ⟨ls, row, p, side, who, rfl, hlen, h10, hp, hr, hk⟩ - ha
  obtain rfl := as0 ha
  have q := sl
  let F : Slot → Slot → Slot → Slot → List Slot := fun found place lesson period => [.rd (LL ls), .rd (IL row), .fz (.int (if side then 1 else 0)), .fz (.int who), .fz (.int p), found, place, lesson, period]
  refine seq_join (fun ρ => ∃ s8, ρ = F (.ow none .l (PL (List.replicate p none))) .un .un s8) (fun kk hkk => ?_) ?_
  · refine ⟨⟨by omega, by omega⟩, fun p hp => absurd hp List.not_mem_nil, ?_⟩
    refine comp_rgA (fun _ => .none) (by omega) trivial (fun i hi kk hk => hk) (hkk _ ⟨.un, ?_⟩)
    · show [Slot.rd (LL ls), _, _, _, _, .ow none .l (.list ((List.range (p : Int).toNat).map fun _ => PyData.none)), _, _, _] = _
      rw [Int.toNat_natCast]
      have e : (List.range p).map (fun _ => PyData.none) = (List.replicate p (none : Option Int)).map oD := by
        rw [List.map_replicate, List.map_const', List.length_range]
        rfl
      rw [e]
      rfl
  rintro ρ ⟨s8, rfl⟩
  let step : List (Option Int) → (Int × Int) × Int → List (Option Int) := fun acc x => if (if side then x.1.2 else x.1.1) = who then acc.set x.2.toNat (some (if side then x.1.1 else x.1.2)) else acc
  let acc : Nat → List (Option Int) := fun i => ((ls.zip row).take i).foldl step (List.replicate p none)
  have acc_len : ∀ i, (acc i).length = p := fun i => by
    show (((ls.zip row).take i).foldl step (List.replicate p none)).length = p
    generalize (ls.zip row).take i = l
    have key : ∀ (l : List ((Int × Int) × Int)) a, (l.foldl step a).length = a.length := fun l => by
      induction l with
      | nil => intro a; rfl
      | cons x l ih =>
        intro a
        rw [List.foldl_cons, ih]
        show (if (if side then x.1.2 else x.1.1) = who then a.set x.2.toNat _ else a : List (Option Int)).length = _
        by_cases h : (if side then x.1.2 else x.1.1) = who
        · rw [if_pos h, List.length_set]
        · rw [if_neg h]
    rw [key, List.length_replicate]
  refine seq_join (fun ρ => ∃ s6 s7, ρ = F (.ow none .l (PL (planL ls row side who p))) s6 s7 s8) (fun kk hkk => ?_) ?_
  · refine ⟨trivial, ?_⟩
    refine loop_en (fun i ρ => ∃ s6 s7, ρ = F (.ow none .l (PL (acc i))) s6 s7 s8) ⟨_, _, rfl⟩ ?_ ?_
    · rintro ρ ⟨s6, s7, rfl⟩
      refine hkk _ ⟨s6, s7, ?_⟩
      show F (.ow none .l (PL (((ls.zip row).take ls.length).foldl step (List.replicate p none)))) s6 s7 s8 = _
      rw [List.take_of_length_le (by rw [List.length_zip]; omega)]
      rfl
    · rintro i a ρ kk hx ⟨s6, s7, rfl⟩ next
      have hi : i < ls.length := (List.getElem?_eq_some_iff.mp hx).1
      have hrow : row[i]? = some (row[i]'(by omega)) := List.getElem?_eq_getElem (by omega)
      have hrr := hr _ (List.mem_of_getElem? hrow)
      generalize row[i]'(by omega) = per at hrow hrr
      have hz : (ls.zip row)[i]? = some (a, per) := by rw [List.getElem?_zip_eq_some]; exact ⟨hx, hrow⟩
      have ea : acc (i + 1) = step (acc i) (a, per) := by
        show ((ls.zip row).take (i + 1)).foldl step _ = _
        rw [List.take_add_one, hz, List.foldl_append]
        rfl
      have al := acc_len i
      have fin : ∀ l : List (Option Int), l = acc (i + 1) → kk (F (.ow none .l (.list (l.map oD))) (.fz (.int i)) (.fz (le a)) s8) := fun l e => by
        rw [e]
        exact next _ ⟨_, _, rfl⟩
      have ixl : ixN ((acc i).map oD).length per = some per.toNat := by rw [List.length_map, al]; exact ixN_of hrr.1 hrr.2
      refine ⟨rfl, ?_⟩
      cases side with
      | false =>
        have ea : acc (i + 1) = if a.1 = who then (acc i).set per.toNat (some a.2) else acc i := ea
        refine ⟨_, rfl, sh_int, sh_int, ifb (fun h => ?_) fun h => ?_⟩
        · rw [eqv_int, decide_eq_true_eq] at h
          rw [if_pos h] at ea
          refine ⟨_, rfl, trivial, _, at_map hrow, per.toNat, ixl, ?_⟩
          have e : ((acc i).map oD).set per.toNat (.int a.2) = ((acc i).set per.toNat (some a.2)).map oD := by rw [List.map_set]; rfl
          have := fin _ ea.symm
          rw [← e] at this
          exact this
        · rw [eqv_int, decide_eq_false_iff_not] at h
          rw [if_neg h] at ea
          exact fin _ ea.symm
      | true =>
        have ea : acc (i + 1) = if a.2 = who then (acc i).set per.toNat (some a.1) else acc i := ea
        refine ⟨_, rfl, sh_int, sh_int, ifb (fun h => ?_) fun h => ?_⟩
        · rw [eqv_int, decide_eq_true_eq] at h
          rw [if_pos h] at ea
          refine ⟨_, rfl, trivial, _, at_map hrow, per.toNat, ixl, ?_⟩
          have e : ((acc i).map oD).set per.toNat (.int a.1) = ((acc i).set per.toNat (some a.1)).map oD := by rw [List.map_set]; rfl
          have := fin _ ea.symm
          rw [← e] at this
          exact this
        · rw [eqv_int, decide_eq_false_iff_not] at h
          rw [if_neg h] at ea
          exact fin _ ea.symm
  rintro ρ ⟨s6, s7, rfl⟩
  exact hk
theorem isN_oD (o : Option Int) : isN (oD o) = o.isNone := by cases o <;> rfl
/-- the taken periods -/
def tk (ps : List (Option Int)) : List Nat := ((ps.zipIdx 0).filter fun x => x.1.isSome).map (·.2)
theorem tk_snoc (ps : List (Option Int)) (o : Option Int) : tk (ps ++ [o]) = tk ps ++ if o.isSome then [ps.length] else [] := by
  unfold tk
  rw [List.zipIdx_append, List.filter_append, List.map_append]
  cases o <;> simp
theorem gaps_tk (ps : List (Option Int)) : (ps.foldl gstep (0, 0, false)).2.2 = decide (tk ps ≠ []) ∧ (ps.foldl gstep (0, 0, false)).1 = (if tk ps = [] then 0 else ((tk ps).getLast?.getD 0 : Int) - ((tk ps).head?.getD 0 : Nat) + 1 - (tk ps).length) ∧
    (tk ps ≠ [] → (ps.foldl gstep (0, 0, false)).2.1 = (ps.length : Int) - 1 - ((tk ps).getLast?.getD 0 : Nat)) := by
  refine snoc_ind (P := fun ps => (ps.foldl gstep (0, 0, false)).2.2 = decide (tk ps ≠ []) ∧ (ps.foldl gstep (0, 0, false)).1 = (if tk ps = [] then 0 else ((tk ps).getLast?.getD 0 : Int) - ((tk ps).head?.getD 0 : Nat) + 1 - (tk ps).length) ∧
    (tk ps ≠ [] → (ps.foldl gstep (0, 0, false)).2.1 = (ps.length : Int) - 1 - ((tk ps).getLast?.getD 0 : Nat))) ⟨rfl, rfl, fun h => absurd rfl h⟩ (fun ps o ⟨h1, h2, h3⟩ => ?_) ps
  rw [tk_snoc, List.foldl_append]
  cases o with
  | none =>
    simp only [Option.isSome_none, Bool.false_eq_true, if_false, List.append_nil, List.foldl_cons, List.foldl_nil, gstep]
    refine ⟨h1, h2, fun h => ?_⟩
    rw [h3 h, List.length_append]
    simp
    omega
  | some v =>
    simp only [Option.isSome_some, if_true, List.foldl_cons, List.foldl_nil, gstep]
    rw [h1, h2]
    by_cases h : tk ps = []
    · rw [h]
      simp
    · simp only [decide_eq_true h, if_true, if_neg h, h3 h]
      have hd : (tk ps ++ [ps.length]).head?.getD 0 = (tk ps).head?.getD 0 := by
        cases e : tk ps with
        | nil => exact absurd e h
        | cons => rfl
      rw [hd]
      simp
      omega
theorem tk_lt {ps : List (Option Int)} {x : Nat} (h : x ∈ tk ps) : x < ps.length := by
  unfold tk at h
  obtain ⟨p, hp, rfl⟩ := List.mem_map.mp h
  have := List.snd_lt_of_mem_zipIdx (List.mem_filter.mp hp).1
  omega
theorem tk_len (ps : List (Option Int)) : (tk ps).length ≤ ps.length := by
  unfold tk
  rw [List.length_map]
  have := List.length_filter_le (fun x : Option Int × Nat => x.1.isSome) (ps.zipIdx 0)
  rw [List.length_zipIdx] at this
  exact this
theorem atI_last {α : Type} {l : List α} {x : α} (h : l.getLast? = some x) : atI l (-1) = some x := by
  rw [List.getLast?_eq_getElem?] at h
  have hl := (List.getElem?_eq_some_iff.mp h).1
  unfold atI ixN
  rw [if_neg (by omega), if_pos (by omega)]
  show l[((l.length : Int) + -1).toNat]? = some x
  rw [show ((l.length : Int) + -1).toNat = l.length - 1 by omega]
  exact h
theorem p_gaps_of : Ok_gaps_of := by
  rintro ds k as ⟨ps, rfl, hl, hk⟩ - ha
  obtain rfl := as0 ha
  have q := sl
  refine seq_join (fun ρ => ∃ s2 s3, ρ = [.rd (PL ps), .ow none .l (NL (tk ps)), s2, s3]) (fun kk hkk => ?_) ?_
  · refine ⟨fun p hp => absurd hp List.not_mem_nil, ?_⟩
    refine comp_en (fun x => x.1.isSome) (fun x => .int (x.2 : Int)) (by omega) trivial (fun i o ho kk kn hy hn => ⟨rfl, ?_⟩) (hkk _ ⟨.un, .un, ?_⟩)
    · show if (!isN (oD o)) = true then _ else _
      rw [isN_oD]
      cases o with
      | none => exact hn rfl
      | some v => exact hy rfl
    · show [Slot.rd (PL ps), .ow none .l (.list (((ps.zipIdx 0).filter fun x => x.1.isSome).map fun x => PyData.int (x.2 : Int))), _, _] = _
      unfold NL tk
      rw [List.map_map]
      rfl
  rintro ρ ⟨s2, s3, rfl⟩
  have g := (gaps_tk ps).2.1
  have l1 : ((tk ps).map fun n : Nat => PyData.int (n : Int)).length = (tk ps).length := List.length_map _
  refine ifd (fun h => ?_) fun h => ?_
  · rw [l1] at h
    have hne : tk ps ≠ [] := fun e => by rw [e] at h; simp at h
    rw [if_neg hne] at g
    obtain ⟨a, l, e⟩ : ∃ a l, tk ps = a :: l := by
      cases e : tk ps with
      | nil => exact absurd e hne
      | cons a l => exact ⟨a, l, rfl⟩
    have h0 : (tk ps)[0]? = some a := by rw [e]; rfl
    have hla : (tk ps).getLast? = some ((tk ps).getLast hne) := List.getLast?_eq_some_getLast hne
    have hlm : ((tk ps).map fun n : Nat => PyData.int (n : Int)).getLast? = some (.int ((tk ps).getLast hne : Nat)) := by rw [List.getLast?_map, hla]; rfl
    have lt := tk_lt (List.getLast_mem hne)
    refine ⟨_, atI_last hlm, _, at_map h0, ?_⟩
    have hd : (tk ps).head?.getD 0 = a := by rw [e]; rfl
    rw [hla, hd] at g
    have := hk
    unfold gaps at this
    rw [g] at this
    rw [← l1] at this
    exact this
  · rw [l1] at h
    have hne : tk ps = [] := List.length_eq_zero_iff.mp (by omega)
    rw [if_pos hne] at g
    have := hk
    unfold gaps at this
    rw [g] at this
    exact this
theorem p__law_gaps : Ok__law_gaps := by
  rintro ds k as ⟨ps, rfl, hl, hk⟩ - ha
  obtain rfl := as0 ha
  refine seq_to [.rd (PL ps), .fz (.int 0), .fz (.int 0), .fz (.bool false), .un] (fun kk hkk => ⟨(by show 3 ≤ sizeLine; decide), rfl, hkk⟩) ?_
  refine seq_join (fun ρ => ∃ s2 s3 s4, ρ = [.rd (PL ps), .fz (.int (gaps ps)), s2, s3, s4]) (fun kk hkk => ⟨trivial, ?_⟩) ?_
  · refine loop_map (fun done _ ρ => ∃ s4, ρ = [.rd (PL ps), .fz (.int (done.foldl gstep (0, 0, false)).1), .fz (.int (done.foldl gstep (0, 0, false)).2.1), .fz (.bool (done.foldl gstep (0, 0, false)).2.2), s4]) ⟨_, rfl⟩ ?_ ?_
    · rintro ρ ⟨s4, rfl⟩
      exact hkk _ ⟨_, _, _, rfl⟩
    · rintro done o rest ρ kk' he ⟨s4, rfl⟩ next
      have e : (done ++ [o]).foldl gstep (0, 0, false) = gstep (done.foldl gstep (0, 0, false)) o := by rw [List.foldl_append]; rfl
      rw [e] at next
      generalize done.foldl gstep (0, 0, false) = s at next ⊢
      obtain ⟨f, w, b⟩ := s
      cases o with
      | none => exact next _ ⟨_, rfl⟩
      | some v =>
        cases b with
        | true => exact ⟨(by show 2 ≤ sizeLine; decide), rfl, next _ ⟨_, rfl⟩⟩
        | false => exact ⟨(by show 2 ≤ sizeLine; decide), rfl, next _ ⟨_, rfl⟩⟩
  rintro ρ ⟨s2, s3, s4, rfl⟩
  exact hk
/-- what stands in busy: side, who, period -/
def bk (x : Bool × Int × Int) : D := .tuple [.int (if x.1 then 1 else 0), .int x.2.1, .int x.2.2]
theorem bk_hc : ∀ a b, PyData.eqv (bk a) (bk b) = decide (a = b) := eqv_inj (fun a => nb_tuple fun d hd => by
    simp only [List.mem_cons, List.not_mem_nil, or_false] at hd
    rcases hd with rfl | rfl | rfl <;> exact nb_int) fun a b h => by
  obtain ⟨a1, a2, a3⟩ := a
  obtain ⟨b1, b2, b3⟩ := b
  unfold bk at h
  simp at h
  obtain ⟨h1, h2, h3⟩ := h
  subst h2 h3
  cases a1 <;> cases b1 <;> simp at h1 ⊢
theorem bk_ok (x : Bool × Int × Int) : okKey .t (bk x) := rfl
def sd (s : Bool) (a : Int × Int) : Int := if s then a.2 else a.1
theorem sz_snoc {r : List Int} {p a : Nat} (h : a < p) : (sz r p).set a ((r.count (a : Int) : Int) + 1) = sz (r ++ [(a : Int)]) p := by
  refine List.ext_getElem? fun i => ?_
  by_cases hi : i < p
  · rw [sz_at hi]
    by_cases e : a = i
    · subst e
      rw [List.getElem?_set_self (by unfold sz; simpa using h)]
      simp
    · rw [List.getElem?_set_ne e, sz_at hi, List.count_append, List.count_eq_zero.mpr (show (i : Int) ∉ [(a : Int)] by simp; omega)]
      simp
  · rw [List.getElem?_eq_none (by rw [List.length_set]; unfold sz; simp; omega), List.getElem?_eq_none (by unfold sz; simp; omega)]
theorem p__law_even : Ok__law_even := by
  rintro ds k as ⟨ls, row, p, m, rfl, ht, hp, hm, hc, hk⟩ - ha
  obtain rfl := as0 ha
  have q := sl
  have hlen := ht.len
  have h10 := ht.ten
  let F : Slot → Slot → Slot → Slot → Slot → List Slot := fun busy sizes place period side => [.rd (LL ls), .rd (IL row), .fz (.int p), .fz (.int m), busy, sizes, place, period, side]
  refine seq_to (F .un .un .un .un .un) (fun kk hkk => ?_) ?_
  · conv => whnf
    rw [show isT "list" (IL row) = some true from isT_list_list]
    refine ⟨sh_int, sh_int, ?_⟩
    have l1 : (row.map PyData.int).length = (ls.map le).length := by rw [List.length_map, List.length_map, hlen]
    show if (!PyData.eqv (.int ((row.map PyData.int).length : Int)) (.int ((ls.map le).length : Int))) = true then _ else _
    rw [l1, eqv_ne nb_int]
    exact hkk
  refine seq_join (fun ρ => ∃ s7, ρ = F (.ow none .t (.dict [])) (.ow none .l (IL (sz [] p))) .un s7 .un) (fun kk hkk => ?_) ?_
  · refine ⟨⟨by omega, by omega⟩, fun p hp => absurd hp List.not_mem_nil, ?_⟩
    refine comp_rgA (fun _ => .int 0) (by omega) trivial (fun i hi kk hk => hk) (hkk _ ⟨.un, ?_⟩)
    show [Slot.rd (LL ls), _, _, _, _, .ow none .l (.list ((List.range (p : Int).toNat).map fun _ => PyData.int 0)), _, _, _] = _
    rw [Int.toNat_natCast]
    have e : (List.range p).map (fun _ => PyData.int 0) = (sz [] p).map .int := by
      unfold sz
      rw [List.map_map]
      rfl
    rw [e]
    rfl
  rintro ρ ⟨s7, rfl⟩
  -- all keys of the places below i, and of i the sides that S names
  let Ks : List (Bool × Int × Int) → Nat → (Bool → Prop) → Prop := fun kl i S => kl.length ≤ 100 ∧ ∀ x ∈ kl, ∃ (j : Nat) (a : Int × Int) (s : Bool), ls[j]? = some a ∧ row[j]? = some x.2.2 ∧ x.1 = s ∧ x.2.1 = sd s a ∧ (j < i ∨ (j = i ∧ S s))
  refine seq_join (fun ρ => ∃ s4 s6 s7 s8, ρ = F s4 (.ow none .l (IL (sz row p))) s6 s7 s8) (fun kk hkk => ⟨trivial, ?_⟩) ?_
  · refine loop_en (fun i ρ => ∃ (kl : List (Bool × Int × Int)) (s6 s7 s8 : Slot), kl.length ≤ 2 * i ∧ Ks kl i (fun _ => False) ∧ ρ = F (.ow none .t (.dict (dcD bk (kl.map fun x => (x, .int 1))))) (.ow none .l (IL (sz (row.take i) p))) s6 s7 s8) ⟨[], _, _, _, by simp, ⟨by simp, by simp⟩, rfl⟩ ?_ ?_
    · rintro ρ ⟨kl, s6, s7, s8, _, _, rfl⟩
      rw [List.take_length]
      exact hkk _ ⟨_, _, _, _, rfl⟩
    · rintro i per ρ kk' hx ⟨kl, s6, s7, s8, hkl, hK, rfl⟩ next
      have hi : i < row.length := (List.getElem?_eq_some_iff.mp hx).1
      have hper := ht.rng per (List.mem_of_getElem? hx)
      obtain ⟨n, rfl⟩ := Int.eq_ofNat_of_zero_le hper.1
      have hn : n < p := by omega
      have hls : ls[i]? = some (ls[i]'(by omega)) := List.getElem?_eq_getElem (by omega)
      generalize ls[i]'(by omega) = a at hls
      refine ⟨rfl, ?_⟩
      show b__law_even_2 { nx := kk', rt := finR m__law_even [] k, bk := kk, ct := kk' } (F (.ow none .t (.dict (dcD bk (kl.map fun x => (x, .int 1))))) (.ow none .l (IL (sz (row.take i) p))) (.fz (.int i)) (.fz (.int n)) s8)
      refine seq_to (F (.ow none .t (.dict (dcD bk (kl.map fun x => (x, .int 1))))) (.ow none .l (IL (sz (row.take i) p))) (.fz (.int i)) (.fz (.int n)) s8) (fun kk hkk => ?_) ?_
      · conv => whnf
        rw [isT_int_int]
        conv => whnf
        rw [isT_bool_int]
        have d1 : ¬ ((n : Int) < 0) := by omega
        have d2 : ¬ ((p : Int) ≤ (n : Int)) := by omega
        refine ifd (c := (n : Int) < 0) (fun h => absurd h d1) fun _ => ?_
        refine ifd (c := (p : Int) ≤ (n : Int)) (fun h => absurd h d2) fun _ => ?_
        exact hkk
      refine seq_join (fun ρ => ∃ (kl : List (Bool × Int × Int)) (s8 : Slot), kl.length ≤ 2 * (i + 1) ∧ Ks kl (i + 1) (fun _ => False) ∧ ρ = F (.ow none .t (.dict (dcD bk (kl.map fun x => (x, .int 1))))) (.ow none .l (IL (sz (row.take i) p))) (.fz (.int i)) (.fz (.int n)) s8) (fun kk hkk => ⟨(by show 2 ≤ sizeLine; decide), trivial, ?_⟩) ?_
      · show dLoop _ _ _ ([false, true].map fun s : Bool => PyData.int (if s then 1 else 0)) _
        refine loop_map (fun done rest ρ => ∃ (kl : List (Bool × Int × Int)) (s8 : Slot), kl.length ≤ 2 * i + done.length ∧ Ks kl i (fun s => s ∈ done) ∧ ρ = F (.ow none .t (.dict (dcD bk (kl.map fun x => (x, .int 1))))) (.ow none .l (IL (sz (row.take i) p))) (.fz (.int i)) (.fz (.int n)) s8)
          ⟨kl, s8, by simp; omega, ⟨hK.1, fun x hx => by
            obtain ⟨j, a, s, h1, h2, h3, h4, h5⟩ := hK.2 x hx
            exact ⟨j, a, s, h1, h2, h3, h4, .inl (h5.resolve_right fun z => z.2)⟩⟩, rfl⟩ ?_ ?_
        · rintro ρ ⟨kl, s8, h1, h2, rfl⟩
          refine hkk _ ⟨kl, s8, by simp at h1; omega, ⟨h2.1, fun x hx => ?_⟩, rfl⟩
          obtain ⟨j, a, s, h1, h2, h3, h4, h5⟩ := h2.2 x hx
          exact ⟨j, a, s, h1, h2, h3, h4, .inl (by omega)⟩
        · rintro done s rest ρ kk'' he ⟨kl, s8, h1, h2, rfl⟩ next'
          have dl : done.length < 2 := by
            have := congrArg List.length he
            simp at this
            omega
          have hsd : s ∉ done := by
            have : ([false, true] : List Bool).Nodup := by decide
            rw [he] at this
            exact fun z => (List.nodup_append.mp this).2.2 s z s (by simp) rfl
          let key : Bool × Int × Int := (s, sd s a, (n : Int))
          have hnew : key ∉ kl := fun z => by
            obtain ⟨j, b, s', e1, e2, e3, e4, e5⟩ := h2.2 key z
            subst e3
            rcases e5 with e5 | ⟨rfl, e5⟩
            · have hp := ht.pr i j a b (by omega) hls e1 (hx.trans e2.symm)
              have : shr a b = true := by
                have e4 : sd s a = sd s b := e4
                unfold shr
                cases s <;> (simp only [sd, Bool.false_eq_true, if_false, if_true] at e4; simp [e4])
              rw [this] at hp
              cases hp
            · exact hsd e5
          have hm1 : (kl.map fun x => (x, PyData.int 1)).map (·.1) = kl := by rw [List.map_map]; exact List.map_id' _
          have lk : lookD (dcD bk (kl.map fun x => (x, PyData.int 1))) (bk key) = none := by
            rw [look_dc bk_hc, dget_none, hm1]
            exact hnew
          have pk : putD (dcD bk (kl.map fun x => (x, PyData.int 1))) (bk key) (.int 1) = dcD bk ((kl ++ [key]).map fun x => (x, PyData.int 1)) := by
            rw [put_dc bk_hc, dput_new (by rw [hm1]; exact hnew), List.map_append]
            rfl
          have pl2 : (dcD bk (kl.map fun x => (x, PyData.int 1))).length < sizeLine := by
            unfold dcD
            rw [List.length_map, List.length_map]
            omega
          have fin : kk'' (F (.ow none .t (.dict (putD (dcD bk (kl.map fun x => (x, PyData.int 1))) (bk key) (.int 1)))) (.ow none .l (IL (sz (row.take i) p))) (.fz (.int i)) (.fz (.int n)) (.fz (.int (if s then 1 else 0)))) := by
            rw [pk]
            refine next' _ ⟨kl ++ [key], _, by simp; omega, ⟨by simp; omega, fun x hx' => ?_⟩, rfl⟩
            rcases List.mem_append.mp hx' with z | z
            · obtain ⟨j, b, s', e1, e2, e3, e4, e5⟩ := h2.2 x z
              exact ⟨j, b, s', e1, e2, e3, e4, e5.imp id fun z => ⟨z.1, List.mem_append_left _ z.2⟩⟩
            · rw [List.mem_singleton.mp z]
              exact ⟨i, a, s, hls, hx, rfl, rfl, .inr ⟨rfl, by simp⟩⟩
          have lk' : ∀ b : Bool, s = b → lookD (dcD bk (kl.map fun x => (x, PyData.int 1))) (.tuple [.int (if b then 1 else 0), .int (sd b a), .int (n : Int)]) = none := fun b e => by subst e; exact lk
          cases s with
          | false =>
            refine ⟨_, at_map hls, _, rfl, (by show 3 ≤ sizeLine; decide), rfl, rfl, ?_⟩
            have e := lk' false rfl
            show if (lookD (dcD bk (kl.map fun x => (x, PyData.int 1))) (.tuple [.int 0, .int a.1, .int (n : Int)])).isSome = true then _ else _
            rw [show lookD (dcD bk (kl.map fun x => (x, PyData.int 1))) (.tuple [.int 0, .int a.1, .int (n : Int)]) = none from e]
            exact ⟨trivial, _, at_map hls, _, rfl, (by show 3 ≤ sizeLine; decide), rfl, pl2, fin⟩
          | true =>
            refine ⟨_, at_map hls, _, rfl, (by show 3 ≤ sizeLine; decide), rfl, rfl, ?_⟩
            have e := lk' true rfl
            show if (lookD (dcD bk (kl.map fun x => (x, PyData.int 1))) (.tuple [.int 1, .int a.2, .int (n : Int)])).isSome = true then _ else _
            rw [show lookD (dcD bk (kl.map fun x => (x, PyData.int 1))) (.tuple [.int 1, .int a.2, .int (n : Int)]) = none from e]
            exact ⟨trivial, _, at_map hls, _, rfl, (by show 3 ≤ sizeLine; decide), rfl, pl2, fin⟩
      rintro ρ ⟨kl, s8, h1, h2, rfl⟩
      refine ⟨_, at_map (sz_at hn), trivial, n, ?_, ?_⟩
      · rw [List.length_map]
        exact ixN_of (by omega) (by unfold sz; simpa using hn)
      · refine next _ ⟨kl, .fz (.int i), .fz (.int n), s8, h1, h2, ?_⟩
        rw [List.take_add_one, hx]
        show F _ (.ow none .l (.list (((sz (row.take i) p).map PyData.int).set n (.int ((List.count (n : Int) (row.take i) : Int) + 1))))) _ _ _ = F _ (.ow none .l (IL (sz (row.take i ++ [(n : Int)]) p))) _ _ _
        rw [← sz_snoc hn]
        show _ = F _ (.ow none .l (.list (List.map PyData.int ((sz (row.take i) p).set n _)))) _ _ _
        rw [List.map_set]
  rintro ρ ⟨s4, s6, s7, s8, rfl⟩
  refine ⟨(by show 1 ≤ sizeLine; decide), ?_, sz row p ++ [0], ?_, by simp, fun M h1 h2 => ?_⟩
  · show ((sz row p).map PyData.int).length + 1 ≤ sizeLine
    rw [List.length_map]
    unfold sz
    rw [List.length_map, List.length_range]
    omega
  · show intsOf ((sz row p).map PyData.int ++ [0].map PyData.int) = _
    rw [← List.map_append, intsOf_map]
  · have hM : M ≤ m := by
      rcases List.mem_append.mp h1 with z | z
      · unfold sz at z
        obtain ⟨i, hi, rfl⟩ := List.mem_map.mp z
        exact hc i (List.mem_range.mp hi)
      · rw [List.mem_singleton.mp z]; exact hm
    show finR _ _ _ (.fz (.bool (decide (M ≤ m)))) _
    rw [decide_eq_true hM]
    exact hk
end TL.k49

-- part Pk49
/-! Pk49: the law. -/
namespace TL.k49
open PySem PySem.Spec L2 TL.cm
variable [Lay]
theorem up_spec {n p : Nat} (hp : 0 < p) : (p : Int) * (up n p - 1) < n ∧ (n : Int) ≤ p * up n p := by
  unfold up
  have h1 := Int.mul_ediv_self_le (x := -(n : Int)) (k := (p : Int)) (by omega)
  have h2 := Int.lt_mul_ediv_self_add (x := -(n : Int)) (k := (p : Int)) (by omega)
  generalize -(n : Int) / (p : Int) = t at *
  rw [Int.mul_sub, Int.mul_neg]
  omega
theorem up_uniq {n p : Nat} {m : Int} (hp : 0 < p) (h1 : (p : Int) * (m - 1) < n) (h2 : (n : Int) ≤ p * m) : m = up n p := by
  obtain ⟨h3, h4⟩ := up_spec (n := n) hp
  generalize up n p = u at *
  have a1 : ¬ m ≤ u - 1 := fun h => by have := Int.mul_le_mul_of_nonneg_left h (show (0 : Int) ≤ p by omega); omega
  have a2 : ¬ u ≤ m - 1 := fun h => by have := Int.mul_le_mul_of_nonneg_left h (show (0 : Int) ≤ p by omega); omega
  omega
theorem up_nonneg {n p : Nat} (hp : 0 < p) : 0 ≤ up n p := by
  obtain ⟨h3, h4⟩ := up_spec (n := n) hp
  generalize up n p = u at *
  refine Int.not_lt.mp fun h => ?_
  have := Int.mul_le_mul_of_nonneg_left (show u ≤ -1 by omega) (show (0 : Int) ≤ p by omega)
  omega
theorem up_le {n p : Nat} (hp : 0 < p) : up n p ≤ n := by
  obtain ⟨h3, h4⟩ := up_spec (n := n) hp
  generalize up n p = u at *
  refine Int.not_lt.mp fun h => ?_
  have := Int.mul_le_mul_of_nonneg_left (show (n : Int) ≤ u - 1 by omega) (show (0 : Int) ≤ p by omega)
  have := Int.mul_le_mul_of_nonneg_right (show (1 : Int) ≤ p by omega) (show (0 : Int) ≤ n by omega)
  omega
theorem cnt_up {p : Nat} (hp : 0 < p) (n : Nat) : ((((List.range n).filter fun i : Nat => decide ((i : Int) % (p : Int) = 0)).length : Nat) : Int) = up n p := by
  have key : ∀ n : Nat, (p : Int) * (((((List.range n).filter fun i : Nat => decide ((i : Int) % (p : Int) = 0)).length : Nat) : Int) - 1) < n ∧ (n : Int) ≤ p * ((((List.range n).filter fun i : Nat => decide ((i : Int) % (p : Int) = 0)).length : Nat) : Int) := fun n => by
    induction n with
    | zero => simp; omega
    | succ n ih =>
      rw [List.range_succ, List.filter_append, List.length_append]
      generalize ((List.range n).filter fun i : Nat => decide ((i : Int) % (p : Int) = 0)).length = c at ih
      obtain ⟨h1, h2⟩ := ih
      rw [Int.mul_sub] at h1
      by_cases h : (n : Int) % (p : Int) = 0
      · have e : ([n].filter fun i : Nat => decide ((i : Int) % (p : Int) = 0)).length = 1 := by simp [h]
        rw [e]
        have hk := Int.mul_ediv_add_emod (n : Int) (p : Int)
        rw [h] at hk
        generalize (n : Int) / (p : Int) = k at hk
        have a1 : ¬ (k ≤ (c : Int) - 1) := fun z => by
          have := Int.mul_le_mul_of_nonneg_left z (show (0 : Int) ≤ p by omega)
          rw [Int.mul_sub] at this
          omega
        have a2 : ¬ ((c : Int) ≤ k - 1) := fun z => by
          have := Int.mul_le_mul_of_nonneg_left z (show (0 : Int) ≤ p by omega)
          rw [Int.mul_sub] at this
          omega
        have a3 : k = c := by omega
        rw [a3] at hk
        have e2 : (((c + 1 : Nat) : Nat) : Int) = (c : Int) + 1 := by omega
        rw [e2, Int.mul_sub, Int.mul_add]
        omega
      · have e : ([n].filter fun i : Nat => decide ((i : Int) % (p : Int) = 0)).length = 0 := by simp [h]
        rw [e, Nat.add_zero, Int.mul_sub]
        have a1 : (n : Int) ≠ p * c := fun z => h (by rw [z]; exact Int.mul_emod_right ..)
        omega
  exact up_uniq hp (key n).1 (key n).2
theorem sum_lo {f : Nat → Nat} {m : Nat} : ∀ {l : List Nat}, (∀ x ∈ l, m ≤ f x) → m * l.length ≤ (l.map f).sum
  | [], _ => by simp
  | x :: l, h => by
    have i := sum_lo (l := l) fun y hy => h y (List.mem_cons_of_mem _ hy)
    have j := h x List.mem_cons_self
    rw [List.length_cons, List.map_cons, List.sum_cons, Nat.mul_succ]
    omega
theorem sum_hi {f : Nat → Nat} {m : Nat} : ∀ {l : List Nat}, (∀ x ∈ l, f x ≤ m) → (l.map f).sum ≤ m * l.length
  | [], _ => by simp
  | x :: l, h => by
    have i := sum_hi (l := l) fun y hy => h y (List.mem_cons_of_mem _ hy)
    have j := h x List.mem_cons_self
    rw [List.length_cons, List.map_cons, List.sum_cons, Nat.mul_succ]
    omega
theorem sum_lt {f : Nat → Nat} {m : Nat} : ∀ {l : List Nat}, (∀ x ∈ l, m ≤ f x) → (∃ x, x ∈ l ∧ m < f x) → m * l.length < (l.map f).sum
  | x :: l, h, ⟨y, hy, hm⟩ => by
    have j := h x List.mem_cons_self
    rw [List.length_cons, List.map_cons, List.sum_cons, Nat.mul_succ]
    rcases List.mem_cons.mp hy with rfl | hy
    · have i := sum_lo (l := l) fun y hy => h y (List.mem_cons_of_mem _ hy)
      omega
    · have i := sum_lt (l := l) (fun y hy => h y (List.mem_cons_of_mem _ hy)) ⟨y, hy, hm⟩
      omega
theorem sum_counts {r : List Int} {p : Nat} (h : ∀ x ∈ r, 0 ≤ x ∧ x < p) : ((List.range p).map fun i : Nat => r.count (i : Int)).sum = r.length := by
  induction r with
  | nil =>
    have := sum_hi (f := fun i : Nat => ([] : List Int).count (i : Int)) (m := 0) (l := List.range p) fun x _ => by simp
    simp at this
    simp
    omega
  | cons x r ih =>
    have i := ih fun y hy => h y (List.mem_cons_of_mem _ hy)
    have hx := h x List.mem_cons_self
    obtain ⟨a, rfl⟩ := Int.eq_ofNat_of_zero_le hx.1
    have e := sum_upd (f := fun i : Nat => r.count (i : Int)) (g := fun i : Nat => ((a : Int) :: r).count (i : Int)) (a := a) (fun y hy => by
      show List.count (y : Int) ((a : Int) :: r) = List.count (y : Int) r
      rw [List.count_cons_of_ne]
      omega) (List.nodup_range (n := p)) (List.mem_range.mpr (by omega))
    have e2 : List.count (a : Int) ((a : Int) :: r) = List.count (a : Int) r + 1 := List.count_cons_self
    rw [i] at e
    simp only [e2] at e
    rw [List.length_cons]
    omega
/-- in an even timetable no period has more than so many -/
theorem bal_le {r : List Int} {p : Nat} (hp : 0 < p) (h : ∀ x ∈ r, 0 ≤ x ∧ x < p) (hb : ∀ a b : Nat, a < p → b < p → r.count (a : Int) ≤ r.count (b : Int) + 1) {a : Nat} (ha : a < p) : (r.count (a : Int) : Int) ≤ up r.length p := by
  obtain ⟨h1, h2⟩ := up_spec (n := r.length) hp
  have h0 := up_nonneg (n := r.length) hp
  generalize up r.length p = u at *
  obtain ⟨u, rfl⟩ := Int.eq_ofNat_of_zero_le h0
  refine Int.not_lt.mp fun hlt => ?_
  have s := sum_lt (f := fun i : Nat => r.count (i : Int)) (m := u) (l := List.range p) (fun x hx => by
    have := hb a x ha (List.mem_range.mp hx)
    show u ≤ r.count (x : Int)
    omega) ⟨a, List.mem_range.mpr ha, by show u < r.count (a : Int); omega⟩
  rw [sum_counts h, List.length_range, Nat.mul_comm] at s
  have : ((p * u : Nat) : Int) = (p : Int) * (u : Int) := by simp
  omega
theorem bal_has {r : List Int} {p : Nat} (hp : 0 < p) (h : ∀ x ∈ r, 0 ≤ x ∧ x < p) (hb : ∀ a b : Nat, a < p → b < p → r.count (a : Int) ≤ r.count (b : Int) + 1) : up r.length p = 0 ∨ ∃ x, x ∈ r ∧ up r.length p = r.count x := by
  obtain ⟨h1, h2⟩ := up_spec (n := r.length) hp
  have h0 := up_nonneg (n := r.length) hp
  have hle := fun (a : Nat) (ha : a < p) => bal_le hp h hb ha
  by_cases hz : up r.length p = 0
  · exact .inl hz
  refine .inr ?_
  generalize up r.length p = u at *
  obtain ⟨u, rfl⟩ := Int.eq_ofNat_of_zero_le h0
  by_cases hx : ∃ a : Nat, a < p ∧ r.count (a : Int) = u
  · obtain ⟨a, ha, e⟩ := hx
    exact ⟨(a : Int), List.count_pos_iff.mp (by omega), by omega⟩
  · have s := sum_hi (f := fun i : Nat => r.count (i : Int)) (m := u - 1) (l := List.range p) fun x hx' => by
      have h3 := hle x (List.mem_range.mp hx')
      have h4 : r.count (x : Int) ≠ u := fun e => hx ⟨x, List.mem_range.mp hx', e⟩
      show r.count (x : Int) ≤ u - 1
      omega
    rw [sum_counts h, List.length_range, Nat.mul_comm] at s
    have : ((p * (u - 1) : Nat) : Int) = (p : Int) * ((u : Int) - 1) := by
      rw [Int.natCast_mul]
      congr 1
      omega
    omega

theorem Tt.mono {ls : List (Int × Int)} {row : List Int} {p q : Nat} (h : Tt ls row p) (hpq : p ≤ q) : Tt ls row q := ⟨h.len, h.ten, fun x hx => by have := h.rng x hx; omega, h.pr, h.small⟩
theorem nb_LL (ls : List (Int × Int)) : Nb (LL ls) = true := nb_list fun d hd => by
  obtain ⟨a, _, rfl⟩ := List.mem_map.mp hd
  exact nb_tuple fun d hd => by
    simp only [List.mem_cons, List.not_mem_nil, or_false] at hd
    rcases hd with rfl | rfl <;> exact nb_int
theorem sh_LL (ls : List (Int × Int)) : Sh (LL ls) := (shn_list (n := 2) fun d hd => by
  obtain ⟨a, _, rfl⟩ := List.mem_map.mp hd
  exact shn_tuple fun d hd => by
    simp only [List.mem_cons, List.not_mem_nil, or_false] at hd
    rcases hd with rfl | rfl <;> exact shn_int).sh
theorem nb_PL (ps : List (Option Int)) : Nb (PL ps) = true := nb_list fun d hd => by
  obtain ⟨o, _, rfl⟩ := List.mem_map.mp hd
  cases o
  · exact nb_none
  · exact nb_int
theorem sh_PL (ps : List (Option Int)) : Sh (PL ps) := (shn_list (n := 1) fun d hd => by
  obtain ⟨o, _, rfl⟩ := List.mem_map.mp hd
  cases o
  · exact shn_none
  · exact shn_int).sh
/-- what stands in a plan -/
def Smo (ps : List (Option Int)) : Prop := ∀ o ∈ ps, ∀ v, o = some v → 0 ≤ v ∧ v ≤ 1000
theorem sm_PL {ps : List (Option Int)} (hl : ps.length ≤ 1000) (h : Smo ps) : Sm 9 (PL ps) := sm_list (by rw [List.length_map, sl]; omega) fun d hd => by
  obtain ⟨o, ho, rfl⟩ := List.mem_map.mp hd
  cases o with
  | none => exact sm_none
  | some v => have := h _ ho v rfl; exact sm_int (by omega)
theorem gaps_small {ps : List (Option Int)} (hl : ps.length ≤ 1000) : -2000 ≤ gaps ps ∧ gaps ps ≤ 2000 := by
  have g := (gaps_tk ps).2.1
  have l := tk_len ps
  show -2000 ≤ (ps.foldl gstep (0, 0, false)).1 ∧ (ps.foldl gstep (0, 0, false)).1 ≤ 2000
  rw [g]
  by_cases h : tk ps = []
  · rw [if_pos h]; omega
  · rw [if_neg h]
    have h1 := tk_lt (List.getLast_mem h)
    have h2 : ∃ a l, tk ps = a :: l := by
      cases e : tk ps with
      | nil => exact absurd e h
      | cons a l => exact ⟨a, l, rfl⟩
    obtain ⟨a, l', e⟩ := h2
    have h3 := tk_lt (ps := ps) (x := a) (by rw [e]; simp)
    rw [List.getLast?_eq_some_getLast h]
    have hd : (tk ps).head?.getD 0 = a := by rw [e]; rfl
    rw [hd]
    simp only [Option.getD_some]
    omega
theorem planL_ok {ls : List (Int × Int)} {row : List Int} {side : Bool} {who : Int} {p : Nat} (h : ∀ a ∈ ls, (0 ≤ a.1 ∧ a.1 ≤ 1000) ∧ 0 ≤ a.2 ∧ a.2 ≤ 1000) : (planL ls row side who p).length = p ∧ Smo (planL ls row side who p) := by
  unfold planL
  have key : ∀ (l : List ((Int × Int) × Int)) (acc : List (Option Int)), (∀ x ∈ l, x.1 ∈ ls) → acc.length = p → Smo acc →
      (l.foldl (fun acc x => if (if side then x.1.2 else x.1.1) = who then acc.set x.2.toNat (some (if side then x.1.1 else x.1.2)) else acc) acc).length = p ∧ Smo (l.foldl (fun acc x => if (if side then x.1.2 else x.1.1) = who then acc.set x.2.toNat (some (if side then x.1.1 else x.1.2)) else acc) acc) := fun l => by
    induction l with
    | nil => intro acc _ h1 h2; exact ⟨h1, h2⟩
    | cons x l ih =>
      intro acc hl h1 h2
      rw [List.foldl_cons]
      refine ih _ (fun y hy => hl y (List.mem_cons_of_mem _ hy)) ?_ ?_
      · by_cases e : (if side then x.1.2 else x.1.1) = who
        · rw [if_pos e, List.length_set]; exact h1
        · rw [if_neg e]; exact h1
      · by_cases e : (if side then x.1.2 else x.1.1) = who
        · rw [if_pos e]
          intro o ho v hv
          rcases List.mem_or_eq_of_mem_set ho with z | z
          · exact h2 o z v hv
          · have hs := h _ (hl x List.mem_cons_self)
            rw [z] at hv
            cases side with
            | true => cases hv; exact hs.1
            | false => cases hv; exact hs.2
        · rw [if_neg e]; exact h2
  refine key _ _ (fun x hx => ?_) (by simp) fun o ho v hv => ?_
  · obtain ⟨a, b⟩ := x
    exact (List.of_mem_zip hx).1
  · rw [(List.mem_replicate.mp ho).2] at hv
    cases hv
/-- the frame when the lessons stand -/
def bs (f : Fr_law) (ls : List (Int × Int)) (row : List Int) : Fr_law := { f with lessons := .ow none .l (LL ls), row := .ow none .l (IL row), handed := .fz (LL ls), told_row := .fz (IL row), many := .fz (.int ls.length) }
/-- the count of every p-th place -/
theorem cnt_D {p n : Nat} (hp : 0 < p) : ((((List.range n).filter fun i : Nat => decide ((i : Int) % (p : Int) = 0)).map fun _ => PyData.int 1).length : Int) = up n p := by
  rw [List.length_map]
  exact cnt_up hp n
theorem ne_F {d : D} {A B : Prop} (h : Nb d = true) (hb : B) : if (!PyData.eqv d d) = true then A else B := by
  rw [eqv_ne h]
  exact hb
theorem body1 {ls : List (Int × Int)} {row : List Int} {pp : Nat} (ht : Tt ls row pp) (h1 : 1 ≤ pp) (h8 : pp ≤ 8) {f : Fr_law} {E : DEnds}
    (hk : ∀ s11 s14 s18, E.nx ({ bs f ls row with places := .fz (.int pp), most := s11, told := s14, place := s18 } : Fr_law).st) : b_law_1 E ({ bs f ls row with places := .fz (.int pp) } : Fr_law).st := by
  have q := sl
  have h10 := ht.ten
  have hlen := ht.len
  have u0 := up_nonneg (n := ls.length) (p := pp) (by omega)
  have u1 := up_le (n := ls.length) (p := pp) (by omega)
  let Z : Slot → Slot → Slot → List Slot := fun s11 s14 s18 => ({ bs f ls row with places := .fz (.int pp), most := s11, told := s14, place := s18 } : Fr_law).st
  refine seq_join (fun ρ => ∃ s18, ρ = Z (.fz (.int (up ls.length pp))) f.told s18) (fun kk hkk => ?_) ?_
  · refine ⟨⟨by omega, by omega⟩, fun p hp => absurd hp List.not_mem_nil, ?_⟩
    refine comp_rg (fun i => decide ((i : Int) % (pp : Int) = 0)) (fun _ => .int 1) (by omega) trivial (fun i hi kk kn hy hn => ?_) (hkk _ ⟨keepS (some f.place), ?_⟩)
    · refine ⟨by omega, sh_int, sh_int, ifb (fun h => hy ?_) fun h => hn ?_⟩
      · rw [eqv_int] at h; exact h
      · rw [eqv_int] at h; exact h
    · show Z (.fz (.int ((((List.range (ls.length : Int).toNat).filter fun i : Nat => decide ((i : Int) % (pp : Int) = 0)).map fun _ => PyData.int 1).length : Nat))) f.told (keepS (some f.place)) = _
      rw [Int.toNat_natCast, cnt_D (by omega)]
  rintro ρ ⟨s18, rfl⟩
  refine seq_join (fun ρ => ∃ r, Tt ls r pp ∧ Bal r pp ∧ ρ = Z (.fz (.int (up ls.length pp))) (.ow none .l (IL r)) s18) (fun kk hkk => ⟨okio0 rfl, ls, row, pp, rfl, ht, by omega, fun r hr hb => hkk _ ⟨r, hr, hb, rfl⟩⟩) ?_
  rintro ρ ⟨r, hr, hb, rfl⟩
  have hrl := hr.len
  have bl := fun (a : Nat) (ha : a < pp) => bal_le (by omega) hr.rng hb ha
  have bh := bal_has (by omega) hr.rng hb
  rw [hrl] at bl bh
  refine seq_to (Z (.fz (.int (up ls.length pp))) (.ow none .l (IL r)) s18) (fun kk hkk => ?_) ?_
  · refine ⟨okio0 rfl, ls, r, pp, up ls.length pp, rfl, hr, by omega, u0, bl, ?_⟩
    refine ⟨sh_LL _, sh_LL _, ne_F (nb_LL _) ⟨sh_ints, sh_ints, ne_F nb_ints hkk⟩⟩
  refine seq_to (Z (.fz (.int (up ls.length pp))) (.ow none .l (IL r)) s18) (fun kk hkk => ?_) ?_
  · refine ⟨okio0 rfl, ls.map le, r, up ls.length pp, rfl, by omega, bh, ⟨u0, fun x hx => ?_⟩, okio0 rfl, _, rfl, sm_int (by omega), okio0 rfl, ls, pp, rfl, by omega, by omega, fun _ => by omega, okio0 rfl, ?_⟩
    · have := hr.rng x hx
      obtain ⟨n, rfl⟩ := Int.eq_ofNat_of_zero_le this.1
      exact bl n (by omega)
    · have e : (if ls = [] then (0 : Int) else up ls.length pp) = up ls.length pp := by
        by_cases z : ls = []
        · rw [if_pos z, z]
          rw [z] at u0 u1
          simp at u1 u0 ⊢
          omega
        · rw [if_neg z]
      rw [e]
      exact ⟨_, rfl, sm_int (by omega), hkk⟩
  refine seq_to (Z (.fz (.int (up ls.length pp))) (.ow none .l (.list (r.map PyData.int ++ [PyData.int 0]))) s18) (fun kk hkk => ⟨trivial, by rw [List.length_map]; omega, hkk⟩) ?_
  exact ⟨sh_ints, sh_ints, ne_F nb_ints (hk _ _ _)⟩
theorem body3 {ls : List (Int × Int)} {row : List Int} {p q : Nat} (ht : Tt ls row p) (hpq : p ≤ q) (h8 : q ≤ 8) {side : Bool} {who : Int} {f : Fr_law} {E : DEnds}
    (hk : ∀ s17 s14 s18 s19, E.nx ({ bs f ls row with row := .fz (IL row), more := .fz (.int q), side := .fz (.int (if side then 1 else 0)), who := .fz (.int who), plan := s17, told := s14, place := s18, period := s19 } : Fr_law).st) (s6 : Slot) (hs6 : s6 = .fz (IL row) ∨ s6 = .ow none .l (IL row)) :
    b_law_3 E ({ bs f ls row with row := s6, more := .fz (.int q), side := .fz (.int (if side then 1 else 0)), who := .fz (.int who) } : Fr_law).st := by
  have q' := sl
  have h10 := ht.ten
  have hlen := ht.len
  let Z : Slot → Slot → Slot → Slot → Slot → List Slot := fun s6 s17 s14 s18 s19 => ({ bs f ls row with row := s6, more := .fz (.int q), side := .fz (.int (if side then 1 else 0)), who := .fz (.int who), plan := s17, told := s14, place := s18, period := s19 } : Fr_law).st
  refine seq_join (fun ρ => ∃ s19, ρ = Z s6 (.ow none .l (PL (List.replicate q none))) f.told f.place s19) (fun kk hkk => ?_) ?_
  · refine ⟨⟨by omega, by omega⟩, fun p hp => absurd hp List.not_mem_nil, ?_⟩
    refine comp_rgA (fun _ => .none) (by omega) trivial (fun i hi kk hk => hk) (hkk _ ⟨keepS (some f.period), ?_⟩)
    show Z s6 (.ow none .l (.list ((List.range (q : Int).toNat).map fun _ => PyData.none))) f.told f.place (keepS (some f.period)) = _
    rw [Int.toNat_natCast]
    have e : (List.range q).map (fun _ => PyData.none) = (List.replicate q (none : Option Int)).map oD := by
      rw [List.map_replicate, List.map_const', List.length_range]
      rfl
    rw [e]
    rfl
  rintro ρ ⟨s19, rfl⟩
  let step : List (Option Int) → (Int × Int) × Int → List (Option Int) := fun acc x => if (if side then x.1.2 else x.1.1) = who then acc.set x.2.toNat (some (if side then x.1.1 else x.1.2)) else acc
  let acc : Nat → List (Option Int) := fun i => ((ls.zip row).take i).foldl step (List.replicate q none)
  have acc_len : ∀ i, (acc i).length = q := fun i => by
    show (((ls.zip row).take i).foldl step (List.replicate q none)).length = q
    generalize (ls.zip row).take i = l
    have key : ∀ (l : List ((Int × Int) × Int)) a, (l.foldl step a).length = a.length := fun l => by
      induction l with
      | nil => intro a; rfl
      | cons x l ih =>
        intro a
        rw [List.foldl_cons, ih]
        show (if (if side then x.1.2 else x.1.1) = who then a.set x.2.toNat _ else a : List (Option Int)).length = _
        by_cases h : (if side then x.1.2 else x.1.1) = who
        · rw [if_pos h, List.length_set]
        · rw [if_neg h]
    rw [key, List.length_replicate]
  refine seq_join (fun ρ => ∃ s18 s19, ρ = Z (.fz (IL row)) (.ow none .l (PL (planL ls row side who q))) f.told s18 s19) (fun kk hkk => ?_) ?_
  · have go : dLoop (gT 2 (gsC (gN 18) (gsC (gN 19) gsN))) b_law_2 { E with nx := kk } (enumD 0 (row.map .int)) (Z (.fz (IL row)) (.ow none .l (PL (List.replicate q none))) f.told f.place s19) := by
      refine loop_en (fun i ρ => ∃ s18 s19, ρ = Z (.fz (IL row)) (.ow none .l (PL (acc i))) f.told s18 s19) ⟨_, _, rfl⟩ ?_ ?_
      · rintro ρ ⟨s18, s19, rfl⟩
        refine hkk _ ⟨s18, s19, ?_⟩
        show Z _ (.ow none .l (PL (((ls.zip row).take row.length).foldl step (List.replicate q none)))) f.told s18 s19 = _
        rw [List.take_of_length_le (by rw [List.length_zip]; omega)]
        rfl
      · rintro i per ρ kk hrow ⟨s18, s19, rfl⟩ next
        have hi : i < row.length := (List.getElem?_eq_some_iff.mp hrow).1
        have hx : ls[i]? = some (ls[i]'(by omega)) := List.getElem?_eq_getElem (by omega)
        have hrr := ht.rng _ (List.mem_of_getElem? hrow)
        generalize ls[i]'(by omega) = a at hx
        have hz : (ls.zip row)[i]? = some (a, per) := by rw [List.getElem?_zip_eq_some]; exact ⟨hx, hrow⟩
        have ea : acc (i + 1) = step (acc i) (a, per) := by
          show ((ls.zip row).take (i + 1)).foldl step _ = _
          rw [List.take_add_one, hz, List.foldl_append]
          rfl
        have al := acc_len i
        have fin : ∀ l : List (Option Int), l = acc (i + 1) → kk (Z (.fz (IL row)) (.ow none .l (.list (l.map oD))) f.told (.fz (.int i)) (.fz (.int per))) := fun l e => by
          rw [e]
          exact next _ ⟨_, _, rfl⟩
        have ixl : ixN ((acc i).map oD).length per = some per.toNat := by rw [List.length_map, al]; exact ixN_of hrr.1 (by omega)
        refine ⟨rfl, ?_⟩
        cases side with
        | false =>
          have ea : acc (i + 1) = if a.1 = who then (acc i).set per.toNat (some a.2) else acc i := ea
          refine ⟨_, at_map hx, _, rfl, sh_int, sh_int, ifb (fun h => ?_) fun h => ?_⟩
          · rw [eqv_int, decide_eq_true_eq] at h
            rw [if_pos h] at ea
            refine ⟨_, at_map hx, _, rfl, trivial, per.toNat, ixl, ?_⟩
            have e : ((acc i).map oD).set per.toNat (.int a.2) = ((acc i).set per.toNat (some a.2)).map oD := by rw [List.map_set]; rfl
            have := fin _ ea.symm
            rw [← e] at this
            exact this
          · rw [eqv_int, decide_eq_false_iff_not] at h
            rw [if_neg h] at ea
            exact fin _ ea.symm
        | true =>
          have ea : acc (i + 1) = if a.2 = who then (acc i).set per.toNat (some a.1) else acc i := ea
          refine ⟨_, at_map hx, _, rfl, sh_int, sh_int, ifb (fun h => ?_) fun h => ?_⟩
          · rw [eqv_int, decide_eq_true_eq] at h
            rw [if_pos h] at ea
            refine ⟨_, at_map hx, _, rfl, trivial, per.toNat, ixl, ?_⟩
            have e : ((acc i).map oD).set per.toNat (.int a.1) = ((acc i).set per.toNat (some a.1)).map oD := by rw [List.map_set]; rfl
            have := fin _ ea.symm
            rw [← e] at this
            exact this
          · rw [eqv_int, decide_eq_false_iff_not] at h
            rw [if_neg h] at ea
            exact fin _ ea.symm
    rcases hs6 with rfl | rfl
    · exact ⟨trivial, go⟩
    · exact ⟨trivial, go⟩
  rintro ρ ⟨s18, s19, rfl⟩
  obtain ⟨pl1, pl2⟩ := planL_ok (row := row) (side := side) (who := who) (p := q) ht.small
  have gs := gaps_small (ps := planL ls row side who q) (by omega)
  refine seq_to (Z (.fz (IL row)) (.ow none .l (PL (planL ls row side who q))) (.ow none .l (PL (planL ls row side who q))) s18 s19) (fun kk hkk => ⟨okio0 rfl, ls, row, q, side, who, rfl, hlen, h10, by omega, fun x hx => by have := ht.rng x hx; omega, hkk⟩) ?_
  exact ⟨okio0 rfl, _, rfl, sm_PL (by omega) pl2, okio0 rfl, _, rfl, by omega, okio0 rfl, _, rfl, by omega, okio0 rfl, _, rfl, sm_int (by omega), hk _ _ _ _⟩
theorem keepS_idem (s : Option Slot) : keepS (some (keepS s)) = keepS s := by
  match s with
  | none => rfl
  | some .un => rfl
  | some (.fz d) => rfl
  | some (.rd d) => rfl
  | some (.ow _ _ _) => rfl
theorem body5 {b : D} (hb : BoxD b) {f_ : Fr_law} {E : DEnds} (hk : ∀ (f' : Fr_law) b', BoxD b' → E.nx ({ f' with box := .ow none .l b' } : Fr_law).st) : b_law_5 E ({ f_ with box := .ow none .l b } : Fr_law).st := by
  have q' := sl
  refine seq_join (fun ρ => ∃ (p : Nat) (b : D), BoxD b ∧ (1 ≤ p ∧ p ≤ 6) ∧ ρ = ({ f_ with box := .ow none .l b, periods := .fz (.int p) } : Fr_law).st) (fun kk hkk => ⟨okio1 rfl (by show (1 : Nat) ∉ []; simp) trivial, rfl, _, _, rfl, hb, by decide, fun x b' h1 hx hb' => by
    obtain ⟨x, rfl⟩ := Int.eq_ofNat_of_zero_le h1
    exact ⟨rfl, hkk _ ⟨1 + x, b', hb', by omega, rfl⟩⟩⟩) ?_
  rintro ρ ⟨p, b, hb, hp, rfl⟩
  refine seq_join (fun ρ => ∃ (ps : List ((Int × Int) × Int)) (b : D), BoxD b ∧ Tt (ps.map (·.1)) (ps.map (·.2)) p ∧ ρ = ({ f_ with box := .ow none .l b, periods := .fz (.int p), placed := .ow none .l (.list (ps.map pl)) } : Fr_law).st) (fun kk hkk => ⟨okio1 rfl (by show (1 : Nat) ∉ []; simp) trivial, rfl, b, p, rfl, hb, by omega, fun ps b' ht hb' => ⟨rfl, hkk _ ⟨ps, b', hb', ht, rfl⟩⟩⟩) ?_
  rintro ρ ⟨ps, b, hb, ht, rfl⟩
  have psl : ps.length ≤ 10 := by have := ht.ten; simpa using this
  refine seq_join (fun ρ => ∃ f : Fr_law, ρ = ({ f with box := .ow none .l b, periods := .fz (.int p), placed := .ow none .l (.list (ps.map pl)), lessons := .ow none .l (LL (ps.map (·.1))) } : Fr_law).st ∧ keepS (some f.far) = f.far) (fun kk hkk => ?_) ?_
  · refine ⟨fun p hp => ?_, ?_⟩
    · rw [List.mem_singleton.mp hp]
      show (4 : Nat) ∉ [20, 21, 19]
      decide
    refine comp_mapA (fun x => le x.1) (by omega) ⟨rfl, trivial⟩ (fun x hx kk hk => ⟨rfl, (by show 2 ≤ sizeLine; decide), hk⟩) ?_
    rw [show ps.map (fun x => le x.1) = (ps.map (·.1)).map le by rw [List.map_map]; rfl]
    exact hkk _ ⟨{ f_ with teacher := _, far := _, period := _ }, rfl, keepS_idem _⟩
  rintro ρ ⟨f, rfl, hf⟩
  refine seq_join (fun ρ => ∃ f : Fr_law, ρ = ({ f with box := .ow none .l b, periods := .fz (.int p), lessons := .ow none .l (LL (ps.map (·.1))), row := .ow none .l (IL (ps.map (·.2))) } : Fr_law).st ∧ keepS (some f.far) = f.far) (fun kk hkk => ?_) ?_
  · refine ⟨fun p hp => ?_, ?_⟩
    · rw [List.mem_singleton.mp hp]
      show (4 : Nat) ∉ [20, 21, 19]
      decide
    refine comp_mapA (fun x => .int x.2) (by omega) ⟨rfl, trivial⟩ (fun x hx kk hk => ⟨rfl, hk⟩) ?_
    rw [show ps.map (fun x => PyData.int x.2) = (ps.map (·.2)).map .int by rw [List.map_map]; rfl]
    exact hkk _ ⟨{ f with placed := _, teacher := _, far := _, period := _ }, rfl, keepS_idem _⟩
  rintro ρ ⟨f, rfl, hf⟩
  generalize ps.map (·.1) = ls at ht
  generalize ps.map (·.2) = row at ht
  have h10 := ht.ten
  have hlen := ht.len
  refine seq_join (fun ρ => ∃ f : Fr_law, ρ = ({ f with box := .ow none .l b, periods := .fz (.int p), lessons := .ow none .l (LL ls), row := .ow none .l (IL row), handed := .fz (LL ls), told_row := .fz (IL row) } : Fr_law).st ∧ keepS (some f.far) = f.far) (fun kk hkk => hkk _ ⟨f, rfl, hf⟩) ?_
  rintro ρ ⟨f, rfl, hf⟩
  refine seq_join (fun ρ => ∃ f : Fr_law, ρ = ({ bs f ls row with box := .ow none .l b, periods := .fz (.int p) } : Fr_law).st ∧ keepS (some f.far) = f.far) (fun kk hkk => ?_) ?_
  · have e : (ls.map le).length = ls.length := List.length_map _
    refine hkk _ ⟨{ f with many := .fz (.int (ls.map le).length) }, ?_, hf⟩
    show _ = ({ bs f ls row with box := _, periods := _ } : Fr_law).st
    unfold bs
    rw [← e]
    rfl
  rintro ρ ⟨f, rfl, hf⟩
  refine seq_join (fun ρ => ∃ f : Fr_law, ρ = ({ bs f ls row with box := .ow none .l b, periods := .fz (.int p), sizes := .ow none .l (IL (sz row p)) } : Fr_law).st) (fun kk hkk => ?_) ?_
  · refine ⟨⟨by omega, by omega⟩, fun p hp => absurd hp List.not_mem_nil, ?_⟩
    refine comp_rgA (fun i => .int (row.count (i : Int))) (by omega) trivial (fun i hi kk hk => ⟨fun p hp => ?_, ?_⟩) ?_
    · rw [List.mem_singleton.mp hp]
      show (6 : Nat) ∉ [21]
      decide
    · refine comp_map (fun x => decide (x = (i : Int))) (fun _ => .int 1) (by omega) ⟨rfl, trivial⟩ (fun x hx kk kn hy hn => ⟨sh_int, sh_int, ifb (fun h => hy ?_) fun h => hn ?_⟩) ?_
      · rw [eqv_int] at h; exact h
      · rw [eqv_int] at h; exact h
      · have e : ((row.filter fun x => decide (x = (i : Int))).map fun _ => PyData.int 1).length = row.count (i : Int) := by
          rw [List.length_map, List.count_eq_length_filter]
          congr 1
        show kk (.int (((row.filter fun x => decide (x = (i : Int))).map fun _ => PyData.int 1).length : Nat)) _
        rw [e]
        have hk2 : ∀ s, s = f.far → kk (.int (row.count (i : Int))) ({ bs f ls row with box := .ow none .l b, periods := .fz (.int p), period := .un, far := s } : Fr_law).st := fun s e => by subst e; exact hk
        exact hk2 _ hf
    · refine hkk _ ⟨{ f with period := keepS (some f.period) }, ?_⟩
      show ({ bs f ls row with box := .ow none .l b, periods := .fz (.int p), period := keepS (some f.period), sizes := .ow none .l (.list ((List.range (p : Int).toNat).map fun i : Nat => PyData.int (row.count (i : Int)))) } : Fr_law).st = _
      rw [Int.toNat_natCast]
      have e : (List.range p).map (fun i : Nat => PyData.int (row.count (i : Int))) = (sz row p).map .int := by
        unfold sz
        rw [List.map_map]
        rfl
      rw [e]
      rfl
  rintro ρ ⟨f, rfl⟩
  have szne : sz row p ≠ [] := fun e => by
    have := congrArg List.length e
    unfold sz at this
    simp at this
    omega
  obtain ⟨M, hM1, hM2⟩ := has_max szne
  have hMn : 0 ≤ M ∧ M ≤ 10 ∧ (M = 0 ∨ ∃ x, x ∈ row ∧ M = row.count x) ∧ ∀ x, x ∈ row → (row.count x : Int) ≤ M := by
    have hm := hM1
    unfold sz at hm
    obtain ⟨i, hi, hiM⟩ := List.mem_map.mp hm
    have := List.count_le_length (a := (i : Int)) (l := row)
    refine ⟨by omega, by omega, ?_, fun x hx => ?_⟩
    · by_cases z : M = 0
      · exact .inl z
      · exact .inr ⟨(i : Int), List.count_pos_iff.mp (by omega), hiM.symm⟩
    · have := ht.rng x hx
      obtain ⟨n, rfl⟩ := Int.eq_ofNat_of_zero_le this.1
      exact hM2 _ (List.mem_map.mpr ⟨n, List.mem_range.mpr (by omega), rfl⟩)
  obtain ⟨m1, m2, m3, m4⟩ := hMn
  refine seq_to ({ bs f ls row with box := .ow none .l b, periods := .fz (.int p), sizes := .ow none .l (IL (sz row p)) } : Fr_law).st (fun kk hkk => ?_) ?_
  · refine ⟨okio0 rfl, ls.map le, row, M, rfl, by omega, m3, ⟨m1, m4⟩, _, intsOf_map _, List.length_pos_iff.mpr szne, fun M' a1 a2 => ?_⟩
    have e : M' = M := by have := hM2 _ a1; have := a2 _ hM1; omega
    rw [e]
    exact ⟨okio0 rfl, _, rfl, sm_int (by omega), hkk⟩
  have u0 := up_nonneg (n := ls.length) (p := p) (by omega)
  have u1 := up_le (n := ls.length) (p := p) (by omega)
  refine seq_join (fun ρ => ∃ f : Fr_law, ρ = ({ bs f ls row with box := .ow none .l b, periods := .fz (.int p), most := .fz (.int (up ls.length p)) } : Fr_law).st) (fun kk hkk => ?_) ?_
  · refine ⟨⟨by omega, by omega⟩, fun p hp => absurd hp List.not_mem_nil, ?_⟩
    refine comp_rg (fun i => decide ((i : Int) % (p : Int) = 0)) (fun _ => .int 1) (by omega) trivial (fun i hi kk kn hy hn => ?_) (hkk _ ⟨{ f with place := keepS (some f.place), sizes := .ow none .l (IL (sz row p)) }, ?_⟩)
    · refine ⟨by omega, sh_int, sh_int, ifb (fun h => hy ?_) fun h => hn ?_⟩
      · rw [eqv_int] at h; exact h
      · rw [eqv_int] at h; exact h
    · show ({ bs f ls row with box := .ow none .l b, periods := .fz (.int p), sizes := .ow none .l (IL (sz row p)), place := keepS (some f.place), most := .fz (.int ((((List.range (ls.length : Int).toNat).filter fun i : Nat => decide ((i : Int) % (p : Int) = 0)).map fun _ => PyData.int 1).length : Nat)) } : Fr_law).st = _
      rw [Int.toNat_natCast, cnt_D (by omega)]
      rfl
  rintro ρ ⟨f, rfl⟩
  refine seq_to ({ bs f ls row with box := .ow none .l b, periods := .fz (.int p), most := .fz (.int (up ls.length p)) } : Fr_law).st (fun kk hkk => ?_) ?_
  · refine ⟨okio0 rfl, ls, p, rfl, by omega, by omega, fun _ => by omega, okio0 rfl, ?_⟩
    have e : (if ls = [] then (0 : Int) else up ls.length p) = up ls.length p := by
      by_cases z : ls = []
      · rw [if_pos z, z]
        rw [z] at u0 u1
        simp at u1 u0 ⊢
        omega
      · rw [if_neg z]
    rw [e]
    exact ⟨_, rfl, sm_int (by omega), hkk⟩
  refine seq_join (fun ρ => ∃ (q : Nat) (b : D) (f : Fr_law), (p ≤ q ∧ q ≤ 8) ∧ BoxD b ∧ ρ = ({ bs f ls row with box := .ow none .l b, periods := .fz (.int p), more := .fz (.int q) } : Fr_law).st) (fun kk hkk => ⟨okio1 rfl (by show (1 : Nat) ∉ []; simp) trivial, rfl, _, _, rfl, hb, by decide, fun x b' h1 hx hb' => by
    obtain ⟨x, rfl⟩ := Int.eq_ofNat_of_zero_le h1
    exact ⟨rfl, hkk _ ⟨p + x, b', { f with most := .fz (.int (up ls.length p)) }, by omega, hb', rfl⟩⟩⟩) ?_
  rintro ρ ⟨q, b, f, hpq, hb, rfl⟩
  refine seq_join (fun ρ => ∃ (f : Fr_law), ρ = ({ bs f ls row with box := .ow none .l b, more := .fz (.int q) } : Fr_law).st) (fun kk hkk => ⟨(by show 2 ≤ sizeLine; decide), trivial, ?_⟩) ?_
  · show dLoop _ _ _ ([p, q].map fun n : Nat => PyData.int (n : Int)) _
    refine loop_mem (fun ρ => ∃ (f : Fr_law), ρ = ({ bs f ls row with box := .ow none .l b, more := .fz (.int q) } : Fr_law).st) ⟨{ f with periods := .fz (.int p) }, rfl⟩ (fun ρ h => hkk ρ h) ?_
    rintro n ρ kk' hn ⟨f, rfl⟩ next
    have hn' : p ≤ n ∧ n ≤ 8 := by
      simp only [List.mem_cons, List.not_mem_nil, or_false] at hn
      omega
    exact body1 (f := { f with box := .ow none .l b, more := .fz (.int q) }) (E := { nx := _, rt := _, bk := _, ct := _ }) (ht.mono hn'.1) (by omega) (by omega) fun s11 s14 s18 => next _ ⟨{ f with places := _, most := s11, told := s14, place := s18 }, rfl⟩
  rintro ρ ⟨f, rfl⟩
  refine seq_join (fun ρ => ∃ (f : Fr_law) (b : D), BoxD b ∧ ρ = ({ f with box := .ow none .l b } : Fr_law).st) (fun kk hkk => ⟨(by show 2 ≤ sizeLine; decide), trivial, ?_⟩) ?_
  · show dLoop _ _ _ ([false, true].map fun s : Bool => PyData.int (if s then 1 else 0)) _
    refine loop_mem (fun ρ => ∃ (f : Fr_law) (b : D) (s6 : Slot), BoxD b ∧ (s6 = .fz (IL row) ∨ s6 = .ow none .l (IL row)) ∧ ρ = ({ bs f ls row with row := s6, box := .ow none .l b, more := .fz (.int q) } : Fr_law).st) ⟨f, b, _, hb, .inr rfl, rfl⟩ (fun ρ ⟨f, b, s6, hb, h6, h⟩ => hkk ρ ⟨{ bs f ls row with row := s6, more := .fz (.int q) }, b, hb, h⟩) ?_
    rintro s ρ kk' hs ⟨f, b, s6, hb, h6, rfl⟩ next
    refine ⟨okio1 rfl (by show (1 : Nat) ∉ []; simp) trivial, rfl, _, _, rfl, hb, by decide, fun x b' h1 hx hb' => ⟨rfl, okio1 rfl (by show (1 : Nat) ∉ []; simp) trivial, rfl, _, _, rfl, hb', by decide, fun y b2 h2 hy hb2 => ⟨rfl, (by show 2 ≤ sizeLine; decide), trivial, ?_⟩⟩⟩
    obtain ⟨x, rfl⟩ := Int.eq_ofNat_of_zero_le h1
    obtain ⟨y, rfl⟩ := Int.eq_ofNat_of_zero_le h2
    show dLoop _ _ _ ([x, y].map fun n : Nat => PyData.int (n : Int)) _
    refine loop_mem (fun ρ => ∃ (f : Fr_law) (s6 : Slot), (s6 = .fz (IL row) ∨ s6 = .ow none .l (IL row)) ∧ ρ = ({ bs f ls row with row := s6, side := .fz (.int (if s then 1 else 0)), box := .ow none .l b2, more := .fz (.int q) } : Fr_law).st) ⟨f, s6, h6, rfl⟩ (fun ρ ⟨f, s6, h6, h⟩ => next ρ ⟨{ f with side := .fz (.int (if s then 1 else 0)) }, b2, s6, hb2, h6, h⟩) ?_
    rintro w ρ kk2 hw ⟨f, s6, h6, rfl⟩ next'
    exact body3 (f := { f with box := .ow none .l b2 }) (E := { nx := _, rt := _, bk := _, ct := _ }) ht hpq.1 hpq.2 (fun s17 s14 s18 s19 => next' _ ⟨{ f with who := _, plan := s17, told := s14, place := s18, period := s19 }, .fz (IL row), .inl rfl, rfl⟩) s6 h6
  rintro ρ ⟨f, b, hb, rfl⟩
  refine seq_join (fun ρ => ∃ (f : Fr_law) (b : D) (ps : List (Option Int)), BoxD b ∧ Smo ps ∧ ps.length ≤ 10 ∧ ρ = ({ f with box := .ow none .l b, plan := .ow none .l (PL ps) } : Fr_law).st) (fun kk hkk => ?_) ?_
  · refine ⟨okio1 rfl (by show (1 : Nat) ∉ []; simp) trivial, rfl, _, _, rfl, hb, by decide, fun x b' h1 hx hb' => ⟨rfl, ⟨by omega, by omega⟩, fun p hp => absurd hp List.not_mem_nil, ?_⟩⟩
    obtain ⟨x, rfl⟩ := Int.eq_ofNat_of_zero_le h1
    have rl : (rangeD 0 1 (x : Int).toNat).length = x := by rw [rangeD_len]; omega
    refine comp_dr (src := []) oD (fun b => ({ f with box := .ow none .l b, period := .un } : Fr_law).st) (fun o => o ∈ [none, none, some 0, some 3, none]) (by omega) (fun _ => trivial) (fun d hd b hb kk hk => ?_) (fun ys b2 h1 h2 hb2 => hkk _ ⟨{ f with period := keepS (some f.period) }, b2, ys, hb2, fun o ho v hv => ?_, by omega, rfl⟩) hb'
    · refine ⟨(by show 5 ≤ sizeLine; decide), okio1 rfl (by show (1 : Nat) ∉ []; simp) trivial, rfl, _, _, .inl rfl, hb, by simp, fun y b2 hy hb2 => ⟨rfl, ?_⟩⟩
      have hy' : y ∈ ([none, none, some 0, some 3, none] : List (Option Int)).map oD := hy
      obtain ⟨o, ho, rfl⟩ := List.mem_map.mp hy'
      exact hk o b2 ho hb2
    · have := h2 o ho
      rw [hv] at this
      simp at this
      omega
  rintro ρ ⟨f, b, ps, hb, hps, hpl, rfl⟩
  have gs := gaps_small (ps := ps) (by omega)
  refine seq_to ({ f with box := .ow none .l b, plan := .ow none .l (PL ps), told := .ow none .l (PL ps) } : Fr_law).st (fun kk hkk => hkk) ?_
  exact ⟨okio0 rfl, _, rfl, by omega, okio0 rfl, _, rfl, by omega, okio0 rfl, _, rfl, sm_int (by omega), sh_PL _, sh_PL _, ne_F (nb_PL _) (hk { f with plan := .ow none .l (PL ps), told := .ow none .l (PL ps) } b hb)⟩
theorem p_law : Ok_law := by
  rintro ds k as ⟨ns, rfl, hk⟩ - ha
  obtain rfl := as0 ha
  have q := sl
  let f0 : Fr_law := ⟨.fz (scrD ns), .un, .un, .un, .un, .un, .un, .un, .un, .un, .un, .un, .un, .un, .un, .un, .un, .un, .un, .un, .un, .un⟩
  refine seq_join (fun ρ => ∃ b, BoxD b ∧ ρ = ({ f0 with box := .ow none .l b } : Fr_law).st) (fun kk hkk => ?_) ?_
  · exact ⟨okio0 rfl, ns, 0, 20, rfl, by decide, by decide, by decide, fun r h1 h2 => ⟨(by show 2 ≤ sizeLine; decide), hkk _ ⟨_, ⟨r, 0, rfl, h2, by decide⟩, rfl⟩⟩⟩
  rintro ρ ⟨b, hb, rfl⟩
  refine seq_join (fun ρ => ∃ f : Fr_law, ρ = f.st) (fun kk hkk => ?_) ?_
  · refine ⟨⟨by decide, by decide⟩, trivial, ?_⟩
    show dLoop _ _ _ (rangeD 0 1 3) _
    refine loop_rg (fun i ρ => ∃ (f : Fr_law) (b : D), BoxD b ∧ ρ = ({ f with box := .ow none .l b } : Fr_law).st) ⟨f0, b, hb, rfl⟩ (fun ρ ⟨f, b, hb, h⟩ => hkk ρ ⟨{ f with box := .ow none .l b }, h⟩) ?_
    rintro i ρ kk' hi ⟨f, b, hb, rfl⟩ next
    exact body5 (f_ := { f with lap := .fz (.int i) }) (E := { nx := _, rt := _, bk := _, ct := _ }) hb fun f' b' hb' => next _ ⟨f', b', hb', rfl⟩
  rintro ρ ⟨f, rfl⟩
  have t0 : Tt [] [] 0 := ⟨rfl, by simp, by simp, fun i j a b _ h => by simp at h, by simp⟩
  have u3 : up 3 2 = 2 := by decide
  refine seq_to f.st (fun kk hkk => ?_) ?_
  · refine ⟨(by show 0 ≤ sizeLine; decide), (by show 0 ≤ sizeLine; decide), okio0 rfl, [], [], 0, rfl, t0, by decide, fun r hr _ => ?_⟩
    have e : r = [] := List.length_eq_zero_iff.mp hr.len
    subst e
    refine ⟨(by show 0 ≤ sizeLine; decide), okio0 rfl, .list [], rfl, ⟨by decide, by simp⟩, ?_⟩
    refine ⟨(by show 0 ≤ sizeLine; decide), okio0 rfl, [], 0, rfl, by decide, by decide, fun h => absurd rfl h, okio0 rfl, _, rfl, sm_int (by decide), ?_⟩
    exact ⟨(by show 0 ≤ sizeLine; decide), (by show 0 ≤ sizeLine; decide), okio0 rfl, [], [], 0, rfl, by decide, .inl rfl, ⟨by decide, by simp⟩, okio0 rfl, _, rfl, sm_int (by decide), hkk⟩
  refine seq_to f.st (fun kk hkk => ?_) ?_
  · refine ⟨(by show 6 ≤ sizeLine; decide), okio0 rfl, [none, some 0, none, none, some 1, none], rfl, by decide, okio0 rfl, .int 2, rfl, sm_int (by decide), ?_⟩
    exact ⟨(by show 0 ≤ sizeLine; decide), okio0 rfl, [], rfl, by decide, okio0 rfl, .int 0, rfl, sm_int (by decide), hkk⟩
  refine ⟨(by show 2 ≤ sizeLine; decide), (by show 2 ≤ sizeLine; decide), (by show 2 ≤ sizeLine; decide), (by show 3 ≤ sizeLine; decide), okio0 rfl, [(0, 0), (1, 1), (2, 2)], 2, rfl, by decide, by decide, fun _ => by decide, okio0 rfl, .int 2, rfl, sm_int (by decide), ?_⟩
  refine ⟨(by show 2 ≤ sizeLine; decide), (by show 1 ≤ sizeLine; decide), (by show 1 ≤ sizeLine; decide), okio0 rfl, [(0, 2)], [1], 3, true, 2, rfl, rfl, by decide, by decide, by simp, (by show 3 ≤ sizeLine; decide), okio0 rfl, PL [none, some 0, none], rfl, sm_PL (by decide) (fun o ho v hv => by
    rw [hv] at ho
    simp at ho
    omega), hk⟩
end TL.k49

-- part Wk49
/-! Wk49: the walks. Printed by gen.py. -/
namespace TL.k49
open PySem PySem.Spec L2 TL.cm

def top (i : Nat) : Stmt := PySem.Challenge.pw_schoollands_k49_whole_rooms_and_plans.main.body.getD i (.Pass ⟨0, 0, 0, 0⟩)
abbrev s__law_cell : Stmt := top 9
abbrev s__law_digits : Stmt := top 10
abbrev s__law_draw : Stmt := top 11
abbrev s__law_mixed : Stmt := top 14
abbrev s__law_pick : Stmt := top 12
abbrev s__law_placed : Stmt := top 15
abbrev s__law_same : Stmt := top 13
abbrev s_shares : Stmt := top 5
abbrev s_chains_of : Stmt := top 4
abbrev s_evened : Stmt := top 3
abbrev s_even_rooms : Stmt := top 2
abbrev s_plan_of : Stmt := top 6
abbrev s_rooms_needed : Stmt := top 1
abbrev s_gaps_of : Stmt := top 7
abbrev s__law_even : Stmt := top 16
abbrev s__law_gaps : Stmt := top 17
abbrev s_law : Stmt := top 18
abbrev N__law_cell : List Str := ["script", "k"]
theorem sc__law_cell : FnScope N__law_cell ["script", "k"] (defScope s__law_cell) := ⟨rfl, rfl, rfl, by decide +kernel, rfl, by decide +kernel, by decide +kernel⟩
abbrev N__law_digits : List Str := ["script", "first", "last", "digits", "k", "cell", "lap", "seed"]
theorem sc__law_digits : FnScope N__law_digits ["script", "first", "last"] (defScope s__law_digits) := ⟨rfl, rfl, rfl, by decide +kernel, rfl, by decide +kernel, by decide +kernel⟩
abbrev N__law_draw : List Str := ["box", "many"]
theorem sc__law_draw : FnScope N__law_draw ["box", "many"] (defScope s__law_draw) := ⟨rfl, rfl, rfl, by decide +kernel, rfl, by decide +kernel, by decide +kernel⟩
abbrev N__law_mixed : List Str := ["box", "row", "left", "found", "lap"]
theorem sc__law_mixed : FnScope N__law_mixed ["box", "row"] (defScope s__law_mixed) := ⟨rfl, rfl, rfl, by decide +kernel, rfl, by decide +kernel, by decide +kernel⟩
abbrev N__law_pick : List Str := ["box", "row"]
theorem sc__law_pick : FnScope N__law_pick ["box", "row"] (defScope s__law_pick) := ⟨rfl, rfl, rfl, by decide +kernel, rfl, by decide +kernel, by decide +kernel⟩
abbrev N__law_placed : List Str := ["box", "periods", "kind", "placed", "period", "teachers", "far", "many", "k"]
theorem sc__law_placed : FnScope N__law_placed ["box", "periods"] (defScope s__law_placed) := ⟨rfl, rfl, rfl, by decide +kernel, rfl, by decide +kernel, by decide +kernel⟩
abbrev N__law_same : List Str := ["told", "due", "k"]
theorem sc__law_same : FnScope N__law_same ["told", "due"] (defScope s__law_same) := ⟨rfl, rfl, rfl, by decide +kernel, rfl, by decide +kernel, by decide +kernel⟩
abbrev N_shares : List Str := ["lessons", "one", "other"]
theorem sc_shares : FnScope N_shares ["lessons", "one", "other"] (defScope s_shares) := ⟨rfl, rfl, rfl, by decide +kernel, rfl, by decide +kernel, by decide +kernel⟩
abbrev N_chains_of : List Str := ["lessons", "row", "one", "other", "left", "found", "chain", "at", "place", "far"]
theorem sc_chains_of : FnScope N_chains_of ["lessons", "row", "one", "other"] (defScope s_chains_of) := ⟨rfl, rfl, rfl, by decide +kernel, rfl, by decide +kernel, by decide +kernel⟩
abbrev N_evened : List Str := ["lessons", "row", "periods", "found", "sizes", "most", "least", "chain", "full", "place", "period"]
theorem sc_evened : FnScope N_evened ["lessons", "row", "periods"] (defScope s_evened) := ⟨rfl, rfl, rfl, by decide +kernel, rfl, by decide +kernel, by decide +kernel⟩
abbrev N_even_rooms : List Str := ["lessons", "periods"]
theorem sc_even_rooms : FnScope N_even_rooms ["lessons", "periods"] (defScope s_even_rooms) := ⟨rfl, rfl, rfl, by decide +kernel, rfl, by decide +kernel, by decide +kernel⟩
abbrev N_plan_of : List Str := ["lessons", "row", "side", "who", "periods", "found", "place", "lesson", "period"]
theorem sc_plan_of : FnScope N_plan_of ["lessons", "row", "side", "who", "periods"] (defScope s_plan_of) := ⟨rfl, rfl, rfl, by decide +kernel, rfl, by decide +kernel, by decide +kernel⟩
abbrev N_rooms_needed : List Str := ["lessons", "row", "period"]
theorem sc_rooms_needed : FnScope N_rooms_needed ["lessons", "row"] (defScope s_rooms_needed) := ⟨rfl, rfl, rfl, by decide +kernel, rfl, by decide +kernel, by decide +kernel⟩
abbrev N_gaps_of : List Str := ["plan", "taken", "period", "far"]
theorem sc_gaps_of : FnScope N_gaps_of ["plan"] (defScope s_gaps_of) := ⟨rfl, rfl, rfl, by decide +kernel, rfl, by decide +kernel, by decide +kernel⟩
abbrev N__law_even : List Str := ["lessons", "row", "periods", "most", "busy", "sizes", "place", "period", "side"]
theorem sc__law_even : FnScope N__law_even ["lessons", "row", "periods", "most"] (defScope s__law_even) := ⟨rfl, rfl, rfl, by decide +kernel, rfl, by decide +kernel, by decide +kernel⟩
abbrev N__law_gaps : List Str := ["plan", "found", "waiting", "begun", "far"]
theorem sc__law_gaps : FnScope N__law_gaps ["plan"] (defScope s__law_gaps) := ⟨rfl, rfl, rfl, by decide +kernel, rfl, by decide +kernel, by decide +kernel⟩
abbrev N_law : List Str := ["script", "box", "lap", "periods", "placed", "lessons", "row", "handed", "told_row", "many", "sizes", "most", "more", "places", "told", "side", "who", "plan", "place", "period", "teacher", "far"]
theorem sc_law : FnScope N_law ["script"] (defScope s_law) := ⟨rfl, rfl, rfl, by decide +kernel, rfl, by decide +kernel, by decide +kernel⟩
section
variable [Lay]
variable {P : Program} {w : World} {K : PySem.W.Frag} {mg : Str → Option Value} {base : Heap}
theorem w__law_cell {f : Addr} {fd : FuncData} (F : Fun K "_law_cell" "_law_cell" s__law_cell f fd) (hm : mg "_law_cell" = some (.ref f)) (hb : Binds K fd ["script", "k"] []) (z_len : mg "len" = none) : Cal P w K mg base 1 "_law_cell" m__law_cell t__law_cell :=
  cal_mk F hm hb sc__law_cell rfl d__law_cell (fun cdv A outer s H E hr =>
  (ds_cons (ds_if (dt_cmp op_gLt (de_name (pv 1)) (de_fnB cr_gLenS (by rfl) z_len PySem.boot_len (da_cons (de_name (pv 0)) da_nil)))
    (ds_one (ds_ret (de_ixS (de_name (pv 0)) (de_name (pv 1)))))
    ds_nil)
  (ds_one (ds_ret de_int)))) p__law_cell
theorem w__law_digits {f : Addr} {fd : FuncData} (F : Fun K "_law_digits" "_law_digits" s__law_digits f fd) (hm : mg "_law_digits" = some (.ref f)) (hb : Binds K fd ["script", "first", "last"] []) (z_range : mg "range" = none) (C__law_cell : Cal P w K mg base 1 "_law_cell" m__law_cell t__law_cell) (z_int : mg "int" = none) : Cal P w K mg base 2 "_law_digits" m__law_digits t__law_digits :=
  cal_mk F hm hb sc__law_digits rfl d__law_digits (fun cdv A outer s H E hr =>
  (ds_cons (ds_set (i := 3) sc__law_digits.nd rfl (by first | exact Or.inl rfl | exact Or.inr rfl) (de_lst da_nil))
  (ds_cons (ds_for PassesOwn.never rfl (di_range2 (by rfl) z_range (da_cons (de_name (pv 1)) (da_cons (de_name (pv 2)) da_nil))) (dg_name (i := 4) sc__law_digits.nd rfl (by first | exact Or.inl rfl | exact Or.inr rfl))
    (ds_cons (ds_set (i := 5) sc__law_digits.nd rfl (by first | exact Or.inl rfl | exact Or.inr rfl) (de_own C__law_cell (hr.mono (by decide)) (by rfl) (da_cons (de_name (pv 0)) (da_cons (de_name (pv 4)) da_nil))))
    (ds_cons (ds_if (dt_cmp op_gLt (de_name (pv 5)) de_int)
      (ds_one (ds_set (i := 5) sc__law_digits.nd rfl (by first | exact Or.inl rfl | exact Or.inr rfl) (de_op op_gSub de_int (de_op op_gMul de_int (de_name (pv 5))))))
      ds_nil)
    (ds_one (ds_if (dt_cmp op_gGe (de_name (pv 5)) (de_op op_gPow de_int de_int))
      (ds_one (ds_for PassesOwn.never rfl (di_range1 (by rfl) z_range (da_cons de_int da_nil)) (dg_name (i := 6) sc__law_digits.nd rfl (by first | exact Or.inl rfl | exact Or.inr rfl))
        (ds_one (ds_if (dt_cmp op_gGt (de_name (pv 5)) de_int)
          (ds_cons (ds_expr (de_mu PySem.F.slot_list_append PySem.F.type_list_append mt_gAppend (de_name (pv 3)) (da_cons (de_op op_gMod (de_fnT cr_gInt (by rfl) z_int rfl (da_cons (de_name (pv 5)) da_nil)) de_int) da_nil)))
          (ds_one (ds_set (i := 5) sc__law_digits.nd rfl (by first | exact Or.inl rfl | exact Or.inr rfl) (de_op op_gFdiv (de_name (pv 5)) de_int))))
          ds_nil))))
      (ds_cons (ds_set (i := 7) sc__law_digits.nd rfl (by first | exact Or.inl rfl | exact Or.inr rfl) (de_op op_gMod (de_fnT cr_gInt (by rfl) z_int rfl (da_cons (de_op op_gAdd (de_op op_gAdd (de_op op_gMul (de_name (pv 5)) de_int) (de_op op_gMul (de_name (pv 4)) de_int)) de_int) da_nil)) de_int))
      (ds_one (ds_for PassesOwn.never rfl (di_range1 (by rfl) z_range (da_cons de_int da_nil)) (dg_name (i := 6) sc__law_digits.nd rfl (by first | exact Or.inl rfl | exact Or.inr rfl))
        (ds_cons (ds_set (i := 7) sc__law_digits.nd rfl (by first | exact Or.inl rfl | exact Or.inr rfl) (de_op op_gMod (de_fnT cr_gInt (by rfl) z_int rfl (da_cons (de_op op_gAdd (de_op op_gAdd (de_op op_gMul (de_name (pv 7)) de_int) (de_op op_gMul de_int (de_name (pv 6)))) de_int) da_nil)) de_int))
        (ds_one (ds_expr (de_mu PySem.F.slot_list_append PySem.F.type_list_append mt_gAppend (de_name (pv 3)) (da_cons (de_op op_gMod (de_fnT cr_gInt (by rfl) z_int rfl (da_cons (de_op op_gFdiv (de_name (pv 7)) de_int) da_nil)) de_int) da_nil)))))))))))))
  (ds_one (ds_ret (de_name (pv 3))))))) p__law_digits
theorem w__law_draw {f : Addr} {fd : FuncData} (F : Fun K "_law_draw" "_law_draw" s__law_draw f fd) (hm : mg "_law_draw" = some (.ref f)) (hb : Binds K fd ["box", "many"] []) (z_len : mg "len" = none) (z_int : mg "int" = none) : Cal P w K mg base 1 "_law_draw" m__law_draw t__law_draw :=
  cal_mk F hm hb sc__law_draw rfl d__law_draw (fun cdv A outer s H E hr =>
  (ds_cons (ds_stI (de_op op_gAdd (de_ix (de_name (pv 0)) de_int) de_int) (de_name (pv 0)) de_int set_gSetL)
  (ds_cons (ds_if (dt_cmp op_gGt (de_ix (de_name (pv 0)) de_int) (de_fnB cr_gLen (by rfl) z_len PySem.boot_len (da_cons (de_ix (de_name (pv 0)) de_int) da_nil)))
    (ds_one (ds_ret (de_op op_gMod (de_fnT cr_gInt (by rfl) z_int rfl (da_cons (de_op op_gAdd (de_op op_gAdd (de_ix (de_ix (de_name (pv 0)) de_int) (de_op op_gMod (de_fnT cr_gInt (by rfl) z_int rfl (da_cons (de_op op_gMul (de_ix (de_name (pv 0)) de_int) de_int) da_nil)) (de_fnB cr_gLen (by rfl) z_len PySem.boot_len (da_cons (de_ix (de_name (pv 0)) de_int) da_nil)))) (de_op op_gMul (de_ix (de_name (pv 0)) de_int) de_int)) de_int) da_nil)) (de_name (pv 1)))))
    ds_nil)
  (ds_one (ds_ret (de_op op_gMod (de_fnT cr_gInt (by rfl) z_int rfl (da_cons (de_ix (de_ix (de_name (pv 0)) de_int) (de_op op_gSub (de_ix (de_name (pv 0)) de_int) de_int)) da_nil)) (de_name (pv 1)))))))) p__law_draw
theorem w__law_mixed {f : Addr} {fd : FuncData} (F : Fun K "_law_mixed" "_law_mixed" s__law_mixed f fd) (hm : mg "_law_mixed" = some (.ref f)) (hb : Binds K fd ["box", "row"] []) (z_list : mg "list" = none) (z_len : mg "len" = none) (z_range : mg "range" = none) (C__law_draw : Cal P w K mg base 1 "_law_draw" m__law_draw t__law_draw) : Cal P w K mg base 2 "_law_mixed" m__law_mixed t__law_mixed :=
  cal_mk F hm hb sc__law_mixed rfl d__law_mixed (fun cdv A outer s H E hr =>
  (ds_cons (ds_parS (i := 2) (j := 3) rfl sc__law_mixed.nd rfl rfl (by decide) rfl rfl (de_fnT cr_gListOf (by rfl) z_list rfl (da_cons (de_name (pv 1)) da_nil)) (de_lst da_nil) (by rfl))
  (ds_cons (ds_for PassesOwn.never rfl (di_range1 (by rfl) z_range (da_cons (de_fnB cr_gLen (by rfl) z_len PySem.boot_len (da_cons (de_name (pv 1)) da_nil)) da_nil)) (dg_name (i := 4) sc__law_mixed.nd rfl (by first | exact Or.inl rfl | exact Or.inr rfl))
    (ds_one (ds_expr (de_mu PySem.F.slot_list_append PySem.F.type_list_append mt_gAppend (de_name (pv 3)) (da_cons (de_mu PySem.F.slot_list_pop PySem.F.type_list_pop mt_gPop (de_name (pv 2)) (da_cons (de_own C__law_draw (hr.mono (by decide)) (by rfl) (da_cons (de_name (pv 0)) (da_cons (de_fnB cr_gLen (by rfl) z_len PySem.boot_len (da_cons (de_name (pv 2)) da_nil)) da_nil))) da_nil)) da_nil)))))
  (ds_one (ds_ret (de_name (pv 3))))))) p__law_mixed
theorem w__law_pick {f : Addr} {fd : FuncData} (F : Fun K "_law_pick" "_law_pick" s__law_pick f fd) (hm : mg "_law_pick" = some (.ref f)) (hb : Binds K fd ["box", "row"] []) (C__law_draw : Cal P w K mg base 1 "_law_draw" m__law_draw t__law_draw) (z_int : mg "int" = none) (z_len : mg "len" = none) : Cal P w K mg base 2 "_law_pick" m__law_pick t__law_pick :=
  cal_mk F hm hb sc__law_pick rfl d__law_pick (fun cdv A outer s H E hr =>
  (ds_one (ds_ret (de_ix (de_name (pv 1)) (de_op op_gMod (de_fnT cr_gInt (by rfl) z_int rfl (da_cons (de_own C__law_draw (hr.mono (by decide)) (by rfl) (da_cons (de_name (pv 0)) (da_cons de_int da_nil))) da_nil)) (de_fnB cr_gLen (by rfl) z_len PySem.boot_len (da_cons (de_name (pv 1)) da_nil))))))) p__law_pick
theorem w__law_placed {f : Addr} {fd : FuncData} (F : Fun K "_law_placed" "_law_placed" s__law_placed f fd) (hm : mg "_law_placed" = some (.ref f)) (hb : Binds K fd ["box", "periods"] []) (C__law_draw : Cal P w K mg base 1 "_law_draw" m__law_draw t__law_draw) (z_range : mg "range" = none) (C__law_mixed : Cal P w K mg base 2 "_law_mixed" m__law_mixed t__law_mixed) (C__law_pick : Cal P w K mg base 2 "_law_pick" m__law_pick t__law_pick) : Cal P w K mg base 3 "_law_placed" m__law_placed t__law_placed :=
  cal_mk F hm hb sc__law_placed rfl d__law_placed (fun cdv A outer s H E hr =>
  (ds_cons (ds_set (i := 2) sc__law_placed.nd rfl (by first | exact Or.inl rfl | exact Or.inr rfl) (de_own C__law_draw (hr.mono (by decide)) (by rfl) (da_cons (de_name (pv 0)) (da_cons de_int da_nil))))
  (ds_cons (ds_set (i := 3) sc__law_placed.nd rfl (by first | exact Or.inl rfl | exact Or.inr rfl) (de_lst da_nil))
  (ds_cons (ds_for PassesOwn.never rfl (di_range1 (by rfl) z_range (da_cons (de_name (pv 1)) da_nil)) (dg_name (i := 4) sc__law_placed.nd rfl (by first | exact Or.inl rfl | exact Or.inr rfl))
    (ds_cons (ds_par (i := 5) (j := 6) rfl sc__law_placed.nd rfl rfl (by decide) rfl rfl (da_cons (de_own C__law_mixed (hr.mono (by decide)) (by rfl) (da_cons (de_name (pv 0)) (da_cons (de_lst (da_cons de_int (da_cons de_int (da_cons de_int (da_cons de_int da_nil))))) da_nil))) (da_cons (de_own C__law_mixed (hr.mono (by decide)) (by rfl) (da_cons (de_name (pv 0)) (da_cons (de_lst (da_cons de_int (da_cons de_int (da_cons de_int (da_cons de_int da_nil))))) da_nil))) da_nil)) (by rfl))
    (ds_cons (ds_set (i := 7) sc__law_placed.nd rfl (by first | exact Or.inl rfl | exact Or.inr rfl) (de_ix (de_lst (da_cons (de_own C__law_draw (hr.mono (by decide)) (by rfl) (da_cons (de_name (pv 0)) (da_cons de_int da_nil))) (da_cons (de_ifExp (dt_cmp op_gLt (de_name (pv 4)) de_int) de_int (de_own C__law_draw (hr.mono (by decide)) (by rfl) (da_cons (de_name (pv 0)) (da_cons de_int da_nil)))) (da_cons (de_own C__law_pick (hr.mono (by decide)) (by rfl) (da_cons (de_name (pv 0)) (da_cons (de_lst (da_cons de_int (da_cons de_int (da_cons de_int da_nil)))) da_nil))) da_nil)))) (de_name (pv 2))))
    (ds_one (ds_for PassesOwn.never rfl (di_range1 (by rfl) z_range (da_cons (de_name (pv 7)) da_nil)) (dg_name (i := 8) sc__law_placed.nd rfl (by first | exact Or.inl rfl | exact Or.inr rfl))
      (ds_one (ds_expr (de_mu PySem.F.slot_list_append PySem.F.type_list_append mt_gAppend (de_name (pv 3)) (da_cons (de_tup (da_cons (de_ix (de_name (pv 5)) (de_name (pv 8))) (da_cons (de_ix (de_name (pv 6)) (de_name (pv 8))) (da_cons (de_name (pv 4)) da_nil)))) da_nil)))))))))
  (ds_one (ds_ret (de_own C__law_mixed (hr.mono (by decide)) (by rfl) (da_cons (de_name (pv 0)) (da_cons (de_slice (de_own C__law_mixed (hr.mono (by decide)) (by rfl) (da_cons (de_name (pv 0)) (da_cons (de_name (pv 3)) da_nil))) do_none (do_some de_int)) da_nil))))))))) p__law_placed
theorem v__law_same {f : Addr} {fd : FuncData} (F : Fun K "_law_same" "_law_same" s__law_same f fd) (hm : mg "_law_same" = some (.ref f)) (hb : Binds K fd ["told", "due"] []) (z_isinstance : mg "isinstance" = none) (z_str : mg "str" = none) (z_repr : mg "repr" = none) (z_int : mg "int" = none) (z_bool : mg "bool" = none) (z_tuple : mg "tuple" = none) (z_list : mg "list" = none) (z_len : mg "len" = none) (z_range : mg "range" = none) {k : Nat} {tr t : TSp} (C__law_same : Cal P w K mg base k "_law_same" m__law_same tr) (p : ∀ ds k as, t ds k → ds.length = m__law_same.length → as.length = nio m__law_same → d__law_same tr { nx := finR m__law_same as k (.fz .none), rt := finR m__law_same as k } (entryR m__law_same ds as ++ List.replicate (3 - m__law_same.length) .un)) : Cal P w K mg base (k + 1) "_law_same" m__law_same t :=
  cal_mk F hm hb sc__law_same rfl (d__law_same tr) (fun cdv A outer s H E hr =>
  (ds_cons (ds_if (dt_isN (de_name (pv 1)))
    (ds_one (ds_ret (de_isN (de_name (pv 0)))))
    ds_nil)
  (ds_cons (ds_if (dt_cmp op_gIs (de_name (pv 1)) de_bl)
    (ds_one (ds_ret (de_cmp op_gIs (de_name (pv 0)) de_bl)))
    ds_nil)
  (ds_cons (ds_if (dt_cmp op_gIs (de_name (pv 1)) de_bl)
    (ds_one (ds_ret (de_cmp op_gIs (de_name (pv 0)) de_bl)))
    ds_nil)
  (ds_cons (ds_if (dt_val (de_isI (by rfl) z_isinstance rfl (by rfl) z_str rfl (de_name (pv 1))))
    (ds_one (ds_ret (de_and (de_isI (by rfl) z_isinstance rfl (by rfl) z_str rfl (de_name (pv 0))) (de_one (de_cmp op_gEqS (de_fnB cr_gRepr (by rfl) z_repr rfl (da_cons (de_name (pv 0)) da_nil)) (de_fnB cr_gRepr (by rfl) z_repr rfl (da_cons (de_name (pv 1)) da_nil)))))))
    ds_nil)
  (ds_cons (ds_if (dt_val (de_isI (by rfl) z_isinstance rfl (by rfl) z_int rfl (de_name (pv 1))))
    (ds_one (ds_ret (de_and (de_isI (by rfl) z_isinstance rfl (by rfl) z_int rfl (de_name (pv 0))) (de_and (de_not (de_isI (by rfl) z_isinstance rfl (by rfl) z_bool rfl (de_name (pv 0)))) (de_one (de_cmp op_gEqS (de_fnB cr_gRepr (by rfl) z_repr rfl (da_cons (de_name (pv 0)) da_nil)) (de_fnB cr_gRepr (by rfl) z_repr rfl (da_cons (de_name (pv 1)) da_nil))))))))
    ds_nil)
  (ds_cons (ds_if (dw_pt (dw_or (dw_pt (dw_and (dt_val (de_isI (by rfl) z_isinstance rfl (by rfl) z_tuple rfl (de_name (pv 1)))) (dw_and1 (dt_not (dt_val (de_isI (by rfl) z_isinstance rfl (by rfl) z_tuple rfl (de_name (pv 0)))))))) (dw_or1 (dw_pt (dw_and (dt_val (de_isI (by rfl) z_isinstance rfl (by rfl) z_list rfl (de_name (pv 1)))) (dw_and1 (dt_not (dt_val (de_isI (by rfl) z_isinstance rfl (by rfl) z_list rfl (de_name (pv 0)))))))))))
    (ds_one (ds_ret de_bl))
    ds_nil)
  (ds_cons (ds_if (dt_cmp (op_gNe hr.units) (de_fnB cr_gLen (by rfl) z_len PySem.boot_len (da_cons (de_name (pv 0)) da_nil)) (de_fnB cr_gLen (by rfl) z_len PySem.boot_len (da_cons (de_name (pv 1)) da_nil)))
    (ds_one (ds_ret de_bl))
    ds_nil)
  (ds_cons (ds_for PassesOwn.never rfl (di_range1 (by rfl) z_range (da_cons (de_fnB cr_gLen (by rfl) z_len PySem.boot_len (da_cons (de_name (pv 1)) da_nil)) da_nil)) (dg_name (i := 2) sc__law_same.nd rfl (by first | exact Or.inl rfl | exact Or.inr rfl))
    (ds_one (ds_if (dt_not (dt_val (de_own C__law_same hr (by rfl) (da_cons (de_ix (de_name (pv 0)) (de_name (pv 2))) (da_cons (de_ix (de_name (pv 1)) (de_name (pv 2))) da_nil)))))
      (ds_one (ds_ret de_bl))
      ds_nil)))
  (ds_one (ds_ret de_bl))))))))))) p
theorem w__law_same {f : Addr} {fd : FuncData} (F : Fun K "_law_same" "_law_same" s__law_same f fd) (hm : mg "_law_same" = some (.ref f)) (hb : Binds K fd ["told", "due"] []) (z_isinstance : mg "isinstance" = none) (z_str : mg "str" = none) (z_repr : mg "repr" = none) (z_int : mg "int" = none) (z_bool : mg "bool" = none) (z_tuple : mg "tuple" = none) (z_list : mg "list" = none) (z_len : mg "len" = none) (z_range : mg "range" = none) : Cal P w K mg base 12 "_law_same" m__law_same t__law_same := rec__law_same (cal_no F hm hb) (fun C p => v__law_same F hm hb z_isinstance z_str z_repr z_int z_bool z_tuple z_list z_len z_range C p)
theorem w_shares {f : Addr} {fd : FuncData} (F : Fun K "shares" "shares" s_shares f fd) (hm : mg "shares" = some (.ref f)) (hb : Binds K fd ["lessons", "one", "other"] [])  : Cal P w K mg base 1 "shares" m_shares t_shares :=
  cal_mk F hm hb sc_shares rfl d_shares (fun cdv A outer s H E hr =>
  (ds_one (ds_ret (de_or (de_cmp (op_gEq hr.units) (de_ix (de_ix (de_name (pv 0)) (de_name (pv 1))) de_int) (de_ix (de_ix (de_name (pv 0)) (de_name (pv 2))) de_int)) (de_one (de_cmp (op_gEq hr.units) (de_ix (de_ix (de_name (pv 0)) (de_name (pv 1))) de_int) (de_ix (de_ix (de_name (pv 0)) (de_name (pv 2))) de_int))))))) p_shares
theorem w_chains_of {f : Addr} {fd : FuncData} (F : Fun K "chains_of" "chains_of" s_chains_of f fd) (hm : mg "chains_of" = some (.ref f)) (hb : Binds K fd ["lessons", "row", "one", "other"] []) (z_len : mg "len" = none) (z_range : mg "range" = none) (C_shares : Cal P w K mg base 1 "shares" m_shares t_shares) (z_sorted : mg "sorted" = none) : Cal P w K mg base 2 "chains_of" m_chains_of t_chains_of :=
  cal_mk F hm hb sc_chains_of rfl d_chains_of (fun cdv A outer s H E hr =>
  (ds_cons (ds_setLc (i := 4) (own := [("place", 8)]) rfl sc_chains_of.nd rfl rfl (sw_true rfl rfl rfl (by decide +kernel)) (di_range1 (by rfl) z_range (da_cons (de_fnB cr_gLen (by rfl) z_len PySem.boot_len (da_cons (de_name (pv 1)) da_nil)) da_nil)) (blkOk_by (N := N_chains_of) (sc := (defScope s_chains_of)) (by decide +kernel)) (fun _ _ _ _ _ => (dg_name (i := 8) sc_chains_of.nd rfl (by first | exact Or.inl rfl | exact Or.inr rfl))) (fun _ _ _ _ _ => (dts_one (dt_cmp op_gIn (de_ix (de_name (pv 1)) (de_name (pv 8))) (de_tup (da_cons (de_name (pv 2)) (da_cons (de_name (pv 3)) da_nil)))))) (fun _ _ _ _ _ => (de_name (pv 8))))
  (ds_cons (ds_set (i := 5) sc_chains_of.nd rfl (by first | exact Or.inl rfl | exact Or.inr rfl) (de_lst da_nil))
  (ds_cons (ds_while PassesOwn.never (dt_cmp op_gGt (de_fnB cr_gLen (by rfl) z_len PySem.boot_len (da_cons (de_name (pv 4)) da_nil)) de_int)
    (ds_cons (ds_set (i := 6) sc_chains_of.nd rfl (by first | exact Or.inl rfl | exact Or.inr rfl) (de_lst (da_cons (de_ix (de_name (pv 4)) de_int) da_nil)))
    (ds_cons (ds_set (i := 7) sc_chains_of.nd rfl (by first | exact Or.inl rfl | exact Or.inr rfl) de_int)
    (ds_cons (ds_while PassesOwn.never (dt_cmp op_gLt (de_name (pv 7)) (de_fnB cr_gLen (by rfl) z_len PySem.boot_len (da_cons (de_name (pv 6)) da_nil)))
      (ds_cons (ds_expr (de_mu PySem.F.slot_list_extend PySem.F.type_list_extend mt_gExtend (de_name (pv 6)) (da_cons (de_comp (own := [("far", 9)]) rfl sc_chains_of.nd (di_list (de_name (pv 4))) (blkOk_by (N := N_chains_of) (sc := (defScope s_chains_of)) (by decide +kernel)) (fun _ _ _ _ _ => (dg_name (i := 9) sc_chains_of.nd rfl (by first | exact Or.inl rfl | exact Or.inr rfl))) (fun _ _ _ _ _ => (dts_one (dw_pt (dw_and (dt_cmp op_gNin (de_name (pv 9)) (de_name (pv 6))) (dw_and1 (dt_val (de_own C_shares (hr.mono (by decide)) (by rfl) (da_cons (de_name (pv 0)) (da_cons (de_ix (de_name (pv 6)) (de_name (pv 7))) (da_cons (de_name (pv 9)) da_nil)))))))))) (fun _ _ _ _ _ => (de_name (pv 9)))) da_nil)))
      (ds_one (ds_aug (i := 7) sc_chains_of.nd rfl (by first | exact Or.inl rfl | exact Or.inr rfl) op_gAddI de_int))))
    (ds_cons (ds_expr (de_mu PySem.F.slot_list_append PySem.F.type_list_append mt_gAppend (de_name (pv 5)) (da_cons (de_fnB cr_gSortI (by rfl) z_sorted rfl (da_cons (de_name (pv 6)) da_nil)) da_nil)))
    (ds_one (ds_setLc (i := 4) (own := [("place", 8)]) rfl sc_chains_of.nd rfl rfl (sw_true rfl rfl rfl (by decide +kernel)) (di_list (de_name (pv 4))) (blkOk_by (N := N_chains_of) (sc := (defScope s_chains_of)) (by decide +kernel)) (fun _ _ _ _ _ => (dg_name (i := 8) sc_chains_of.nd rfl (by first | exact Or.inl rfl | exact Or.inr rfl))) (fun _ _ _ _ _ => (dts_one (dt_cmp op_gNin (de_name (pv 8)) (de_name (pv 6))))) (fun _ _ _ _ _ => (de_name (pv 8))))))))))
  (ds_one (ds_ret (de_name (pv 5)))))))) p_chains_of
theorem w_evened {f : Addr} {fd : FuncData} (F : Fun K "evened" "evened" s_evened f fd) (hm : mg "evened" = some (.ref f)) (hb : Binds K fd ["lessons", "row", "periods"] []) (z_list : mg "list" = none) (z_range : mg "range" = none) (z_min : mg "min" = none) (z_max : mg "max" = none) (C_chains_of : Cal P w K mg base 2 "chains_of" m_chains_of t_chains_of) (z_len : mg "len" = none) : Cal P w K mg base 3 "evened" m_evened t_evened :=
  cal_mk F hm hb sc_evened rfl d_evened (fun cdv A outer s H E hr =>
  (ds_cons (ds_set (i := 3) sc_evened.nd rfl (by first | exact Or.inl rfl | exact Or.inr rfl) (de_fnT cr_gListOf (by rfl) z_list rfl (da_cons (de_name (pv 1)) da_nil)))
  (ds_cons (ds_if (dt_cmp (op_gEq hr.units) (de_name (pv 2)) de_int)
    (ds_one (ds_ret (de_name (pv 3))))
    ds_nil)
  (ds_one (ds_while PassesOwn.never (dt_val de_bl)
    (ds_cons (ds_setLc (i := 4) (own := [("period", 10)]) rfl sc_evened.nd rfl rfl (sw_true rfl rfl rfl (by decide +kernel)) (di_range1 (by rfl) z_range (da_cons (de_name (pv 2)) da_nil)) (blkOk_by (N := N_evened) (sc := (defScope s_evened)) (by decide +kernel)) (fun _ _ _ _ _ => (dg_name (i := 10) sc_evened.nd rfl (by first | exact Or.inl rfl | exact Or.inr rfl))) (fun _ _ _ _ _ => dts_nil) (fun _ _ _ _ _ => (de_mt PySem.F.plainAttrs_list PySem.F.slot_list_count PySem.F.type_list_count mt_gCount (de_name (pv 3)) (da_cons (de_name (pv 10)) da_nil))))
    (ds_cons (ds_asg (de_tup (da_cons (de_mt PySem.F.plainAttrs_list PySem.F.slot_list_index PySem.F.type_list_index mt_gIndexI (de_name (pv 4)) (da_cons (de_fnB (cr_gMax rfl) (by rfl) z_max rfl (da_cons (de_name (pv 4)) da_nil)) da_nil)) (da_cons (de_mt PySem.F.plainAttrs_list PySem.F.slot_list_index PySem.F.type_list_index mt_gIndexI (de_name (pv 4)) (da_cons (de_fnB (cr_gMin rfl) (by rfl) z_min rfl (da_cons (de_name (pv 4)) da_nil)) da_nil)) da_nil))) (dg_tup rfl (dgs_cons (dg_name (i := 5) sc_evened.nd rfl (by first | exact Or.inl rfl | exact Or.inr rfl)) (dgs_cons (dg_name (i := 6) sc_evened.nd rfl (by first | exact Or.inl rfl | exact Or.inr rfl)) dgs_nil))))
    (ds_cons (ds_if (dt_cmp op_gLt (de_op op_gSub (de_ix (de_name (pv 4)) (de_name (pv 5))) (de_ix (de_name (pv 4)) (de_name (pv 6)))) de_int)
      (ds_one (ds_ret (de_name (pv 3))))
      ds_nil)
    (ds_one (ds_for PassesOwn.never rfl (di_list (de_own C_chains_of (hr.mono (by decide)) (by rfl) (da_cons (de_name (pv 0)) (da_cons (de_name (pv 3)) (da_cons (de_name (pv 5)) (da_cons (de_name (pv 6)) da_nil)))))) (dg_name (i := 7) sc_evened.nd rfl (by first | exact Or.inl rfl | exact Or.inr rfl))
      (ds_cons (ds_set (i := 8) sc_evened.nd rfl (by first | exact Or.inl rfl | exact Or.inr rfl) (de_fnB cr_gLen (by rfl) z_len PySem.boot_len (da_cons (de_comp (own := [("place", 9)]) rfl sc_evened.nd (di_list (de_name (pv 7))) (blkOk_by (N := N_evened) (sc := (defScope s_evened)) (by decide +kernel)) (fun _ _ _ _ _ => (dg_name (i := 9) sc_evened.nd rfl (by first | exact Or.inl rfl | exact Or.inr rfl))) (fun _ _ _ _ _ => (dts_one (dt_cmp (op_gEq hr.units) (de_ix (de_name (pv 3)) (de_name (pv 9))) (de_name (pv 5))))) (fun _ _ _ _ _ => de_int)) da_nil)))
      (ds_one (ds_if (dt_cmp op_gGt (de_op op_gMul de_int (de_name (pv 8))) (de_fnB cr_gLen (by rfl) z_len PySem.boot_len (da_cons (de_name (pv 7)) da_nil)))
        (ds_cons (ds_for PassesOwn.never rfl (di_list (de_lend (pv 7))) (dg_name (i := 9) sc_evened.nd rfl (by first | exact Or.inl rfl | exact Or.inr rfl))
          (ds_one (ds_stI (de_ifExp (dt_cmp (op_gEq hr.units) (de_ix (de_name (pv 3)) (de_name (pv 9))) (de_name (pv 5))) (de_name (pv 6)) (de_name (pv 5))) (de_name (pv 3)) (de_name (pv 9)) set_gSetL)))
        (ds_one ds_break))
        ds_nil))))))))))))) p_evened
theorem w_even_rooms {f : Addr} {fd : FuncData} (F : Fun K "even_rooms" "even_rooms" s_even_rooms f fd) (hm : mg "even_rooms" = some (.ref f)) (hb : Binds K fd ["lessons", "periods"] []) (z_len : mg "len" = none) : Cal P w K mg base 1 "even_rooms" m_even_rooms t_even_rooms :=
  cal_mk F hm hb sc_even_rooms rfl d_even_rooms (fun cdv A outer s H E hr =>
  (ds_one (ds_ret (de_ifExp (dt_cmp op_gGt (de_fnB cr_gLen (by rfl) z_len PySem.boot_len (da_cons (de_name (pv 0)) da_nil)) de_int) (de_un un_gNeg (de_op op_gFdiv (de_un un_gNeg (de_fnB cr_gLen (by rfl) z_len PySem.boot_len (da_cons (de_name (pv 0)) da_nil))) (de_name (pv 1)))) de_int)))) p_even_rooms
theorem w_plan_of {f : Addr} {fd : FuncData} (F : Fun K "plan_of" "plan_of" s_plan_of f fd) (hm : mg "plan_of" = some (.ref f)) (hb : Binds K fd ["lessons", "row", "side", "who", "periods"] []) (z_range : mg "range" = none) (z_enumerate : mg "enumerate" = none) : Cal P w K mg base 1 "plan_of" m_plan_of t_plan_of :=
  cal_mk F hm hb sc_plan_of rfl d_plan_of (fun cdv A outer s H E hr =>
  (ds_cons (ds_setLc (i := 5) (own := [("period", 8)]) rfl sc_plan_of.nd rfl rfl (sw_true rfl rfl rfl (by decide +kernel)) (di_range1 (by rfl) z_range (da_cons (de_name (pv 4)) da_nil)) (blkOk_by (N := N_plan_of) (sc := (defScope s_plan_of)) (by decide +kernel)) (fun _ _ _ _ _ => (dg_name (i := 8) sc_plan_of.nd rfl (by first | exact Or.inl rfl | exact Or.inr rfl))) (fun _ _ _ _ _ => dts_nil) (fun _ _ _ _ _ => de_non))
  (ds_cons (ds_for PassesOwn.never rfl (di_enum (by rfl) z_enumerate (da_cons (de_lend (pv 0)) da_nil)) (dg_tup rfl (dgs_cons (dg_name (i := 6) sc_plan_of.nd rfl (by first | exact Or.inl rfl | exact Or.inr rfl)) (dgs_cons (dg_name (i := 7) sc_plan_of.nd rfl (by first | exact Or.inl rfl | exact Or.inr rfl)) dgs_nil)))
    (ds_one (ds_if (dt_cmp (op_gEq hr.units) (de_ix (de_name (pv 7)) (de_name (pv 2))) (de_name (pv 3)))
      (ds_one (ds_stI (de_ix (de_name (pv 7)) (de_op op_gSub de_int (de_name (pv 2)))) (de_name (pv 5)) (de_ix (de_name (pv 1)) (de_name (pv 6))) set_gSetL))
      ds_nil)))
  (ds_one (ds_ret (de_name (pv 5))))))) p_plan_of
theorem w_rooms_needed {f : Addr} {fd : FuncData} (F : Fun K "rooms_needed" "rooms_needed" s_rooms_needed f fd) (hm : mg "rooms_needed" = some (.ref f)) (hb : Binds K fd ["lessons", "row"] []) (z_max : mg "max" = none) : Cal P w K mg base 1 "rooms_needed" m_rooms_needed t_rooms_needed :=
  cal_mk F hm hb sc_rooms_needed rfl d_rooms_needed (fun cdv A outer s H E hr =>
  (ds_one (ds_ret (de_fnB (cr_gMax rfl) (by rfl) z_max rfl (da_cons (de_op op_gAdd (de_comp (own := [("period", 2)]) rfl sc_rooms_needed.nd (di_list (de_name (pv 1))) (blkOk_by (N := N_rooms_needed) (sc := (defScope s_rooms_needed)) (by decide +kernel)) (fun _ _ _ _ _ => (dg_name (i := 2) sc_rooms_needed.nd rfl (by first | exact Or.inl rfl | exact Or.inr rfl))) (fun _ _ _ _ _ => dts_nil) (fun _ _ _ _ _ => (de_mt PySem.F.plainAttrs_list PySem.F.slot_list_count PySem.F.type_list_count mt_gCount (de_name (pv 1)) (da_cons (de_name (pv 2)) da_nil)))) (de_lst (da_cons de_int da_nil))) da_nil))))) p_rooms_needed
theorem w_gaps_of {f : Addr} {fd : FuncData} (F : Fun K "gaps_of" "gaps_of" s_gaps_of f fd) (hm : mg "gaps_of" = some (.ref f)) (hb : Binds K fd ["plan"] []) (z_enumerate : mg "enumerate" = none) (z_len : mg "len" = none) : Cal P w K mg base 1 "gaps_of" m_gaps_of t_gaps_of :=
  cal_mk F hm hb sc_gaps_of rfl d_gaps_of (fun cdv A outer s H E hr =>
  (ds_cons (ds_setLc (i := 1) (own := [("period", 2), ("far", 3)]) rfl sc_gaps_of.nd rfl rfl (sw_true rfl rfl rfl (by decide +kernel)) (di_enum (by rfl) z_enumerate (da_cons (de_name (pv 0)) da_nil)) (blkOk_by (N := N_gaps_of) (sc := (defScope s_gaps_of)) (by decide +kernel)) (fun _ _ _ _ _ => (dg_tup rfl (dgs_cons (dg_name (i := 2) sc_gaps_of.nd rfl (by first | exact Or.inl rfl | exact Or.inr rfl)) (dgs_cons (dg_name (i := 3) sc_gaps_of.nd rfl (by first | exact Or.inl rfl | exact Or.inr rfl)) dgs_nil)))) (fun _ _ _ _ _ => (dts_one (dt_notN (de_name (pv 3))))) (fun _ _ _ _ _ => (de_name (pv 2))))
  (ds_one (ds_ret (de_ifExp (dt_cmp op_gGt (de_fnB cr_gLen (by rfl) z_len PySem.boot_len (da_cons (de_name (pv 1)) da_nil)) de_int) (de_op op_gSub (de_op op_gAdd (de_op op_gSub (de_ix (de_name (pv 1)) (de_un un_gNeg de_int)) (de_ix (de_name (pv 1)) de_int)) de_int) (de_fnB cr_gLen (by rfl) z_len PySem.boot_len (da_cons (de_name (pv 1)) da_nil))) de_int))))) p_gaps_of
theorem w__law_even {f : Addr} {fd : FuncData} (F : Fun K "_law_even" "_law_even" s__law_even f fd) (hm : mg "_law_even" = some (.ref f)) (hb : Binds K fd ["lessons", "row", "periods", "most"] []) (z_isinstance : mg "isinstance" = none) (z_list : mg "list" = none) (z_len : mg "len" = none) (z_range : mg "range" = none) (z_enumerate : mg "enumerate" = none) (z_int : mg "int" = none) (z_bool : mg "bool" = none) (hnorm : Lay.norm) (z_max : mg "max" = none) : Cal P w K mg base 1 "_law_even" m__law_even t__law_even :=
  cal_mk F hm hb sc__law_even rfl d__law_even (fun cdv A outer s H E hr =>
  (ds_cons (ds_if (dw_pt (dw_or (dt_not (dt_val (de_isI (by rfl) z_isinstance rfl (by rfl) z_list rfl (de_name (pv 1))))) (dw_or1 (dt_cmp (op_gNe hr.units) (de_fnB cr_gLen (by rfl) z_len PySem.boot_len (da_cons (de_name (pv 1)) da_nil)) (de_fnB cr_gLen (by rfl) z_len PySem.boot_len (da_cons (de_name (pv 0)) da_nil))))))
    (ds_one (ds_ret de_bl))
    ds_nil)
  (ds_cons (ds_parS (i := 4) (j := 5) rfl sc__law_even.nd rfl rfl (by decide) rfl rfl de_dnewT (de_comp (own := [("period", 7)]) rfl sc__law_even.nd (di_range1 (by rfl) z_range (da_cons (de_name (pv 2)) da_nil)) (blkOk_by (N := N__law_even) (sc := (defScope s__law_even)) (by decide +kernel)) (fun _ _ _ _ _ => (dg_name (i := 7) sc__law_even.nd rfl (by first | exact Or.inl rfl | exact Or.inr rfl))) (fun _ _ _ _ _ => dts_nil) (fun _ _ _ _ _ => de_int)) (by rfl))
  (ds_cons (ds_for PassesOwn.never rfl (di_enum (by rfl) z_enumerate (da_cons (de_lend (pv 1)) da_nil)) (dg_tup rfl (dgs_cons (dg_name (i := 6) sc__law_even.nd rfl (by first | exact Or.inl rfl | exact Or.inr rfl)) (dgs_cons (dg_name (i := 7) sc__law_even.nd rfl (by first | exact Or.inl rfl | exact Or.inr rfl)) dgs_nil)))
    (ds_cons (ds_if (dw_pt (dw_or (dt_not (dt_val (de_isI (by rfl) z_isinstance rfl (by rfl) z_int rfl (de_name (pv 7))))) (dw_or (dt_val (de_isI (by rfl) z_isinstance rfl (by rfl) z_bool rfl (de_name (pv 7)))) (dw_or (dt_cmp op_gLt (de_name (pv 7)) de_int) (dw_or1 (dt_cmp op_gGe (de_name (pv 7)) (de_name (pv 2))))))))
      (ds_one (ds_ret de_bl))
      ds_nil)
    (ds_cons (ds_for PassesOwn.never rfl (di_list (de_lst (da_cons de_int (da_cons de_int da_nil)))) (dg_name (i := 8) sc__law_even.nd rfl (by first | exact Or.inl rfl | exact Or.inr rfl))
      (ds_cons (ds_if (dt_din (fun _ => hnorm) (room1 hr) (de_tup (da_cons (de_name (pv 8)) (da_cons (de_ix (de_ix (de_name (pv 0)) (de_name (pv 6))) (de_name (pv 8))) (da_cons (de_name (pv 7)) da_nil)))) (de_name (pv 4)))
        (ds_one (ds_ret de_bl))
        ds_nil)
      (ds_one (ds_stI de_int (de_name (pv 4)) (de_tup (da_cons (de_name (pv 8)) (da_cons (de_ix (de_ix (de_name (pv 0)) (de_name (pv 6))) (de_name (pv 8))) (da_cons (de_name (pv 7)) da_nil)))) (set_gSetD hnorm (room1 hr))))))
    (ds_one (ds_stI (de_op op_gAdd (de_ix (de_name (pv 5)) (de_name (pv 7))) de_int) (de_name (pv 5)) (de_name (pv 7)) set_gSetL)))))
  (ds_one (ds_ret (de_cmp op_gLe (de_fnB (cr_gMax rfl) (by rfl) z_max rfl (da_cons (de_op op_gAdd (de_name (pv 5)) (de_lst (da_cons de_int da_nil))) da_nil)) (de_name (pv 3))))))))) p__law_even
theorem w__law_gaps {f : Addr} {fd : FuncData} (F : Fun K "_law_gaps" "_law_gaps" s__law_gaps f fd) (hm : mg "_law_gaps" = some (.ref f)) (hb : Binds K fd ["plan"] [])  : Cal P w K mg base 1 "_law_gaps" m__law_gaps t__law_gaps :=
  cal_mk F hm hb sc__law_gaps rfl d__law_gaps (fun cdv A outer s H E hr =>
  (ds_cons (ds_asg (de_tup (da_cons de_int (da_cons de_int (da_cons de_bl da_nil)))) (dg_tup rfl (dgs_cons (dg_name (i := 1) sc__law_gaps.nd rfl (by first | exact Or.inl rfl | exact Or.inr rfl)) (dgs_cons (dg_name (i := 2) sc__law_gaps.nd rfl (by first | exact Or.inl rfl | exact Or.inr rfl)) (dgs_cons (dg_name (i := 3) sc__law_gaps.nd rfl (by first | exact Or.inl rfl | exact Or.inr rfl)) dgs_nil)))))
  (ds_cons (ds_for PassesOwn.never rfl (di_list (de_lend (pv 0))) (dg_name (i := 4) sc__law_gaps.nd rfl (by first | exact Or.inl rfl | exact Or.inr rfl))
    (ds_one (ds_if (dt_isN (de_name (pv 4)))
      (ds_one (ds_set (i := 2) sc__law_gaps.nd rfl (by first | exact Or.inl rfl | exact Or.inr rfl) (de_op op_gAdd (de_name (pv 2)) de_int)))
      (ds_cons (ds_set (i := 1) sc__law_gaps.nd rfl (by first | exact Or.inl rfl | exact Or.inr rfl) (de_op op_gAdd (de_name (pv 1)) (de_ifExp (dt_val (de_name (pv 3))) (de_name (pv 2)) de_int)))
      (ds_one (ds_asg (de_tup (da_cons de_int (da_cons de_bl da_nil))) (dg_tup rfl (dgs_cons (dg_name (i := 2) sc__law_gaps.nd rfl (by first | exact Or.inl rfl | exact Or.inr rfl)) (dgs_cons (dg_name (i := 3) sc__law_gaps.nd rfl (by first | exact Or.inl rfl | exact Or.inr rfl)) dgs_nil)))))))))
  (ds_one (ds_ret (de_name (pv 1))))))) p__law_gaps
theorem w_law {f : Addr} {fd : FuncData} (F : Fun K "law" "law" s_law f fd) (C__law_digits : Cal P w K mg base 2 "_law_digits" m__law_digits t__law_digits) (z_range : mg "range" = none) (C__law_draw : Cal P w K mg base 1 "_law_draw" m__law_draw t__law_draw) (C__law_placed : Cal P w K mg base 3 "_law_placed" m__law_placed t__law_placed) (z_list : mg "list" = none) (z_len : mg "len" = none) (z_max : mg "max" = none) (C_rooms_needed : Cal P w K mg base 1 "rooms_needed" m_rooms_needed t_rooms_needed) (C__law_same : Cal P w K mg base 12 "_law_same" m__law_same t__law_same) (z_int : mg "int" = none) (C_even_rooms : Cal P w K mg base 1 "even_rooms" m_even_rooms t_even_rooms) (C_evened : Cal P w K mg base 3 "evened" m_evened t_evened) (C__law_even : Cal P w K mg base 1 "_law_even" m__law_even t__law_even) (z_enumerate : mg "enumerate" = none) (C_plan_of : Cal P w K mg base 1 "plan_of" m_plan_of t_plan_of) (C__law_gaps : Cal P w K mg base 1 "_law_gaps" m__law_gaps t__law_gaps) (C_gaps_of : Cal P w K mg base 1 "gaps_of" m_gaps_of t_gaps_of) (C__law_pick : Cal P w K mg base 2 "_law_pick" m__law_pick t__law_pick) : FnOk P w K mg base CX0 13 f fd ["script"] (spT K m_law t_law) :=
  fn_ok F sc_law rfl d_law (fun cdv A outer s H E hr =>
  (ds_cons (ds_set (i := 1) sc_law.nd rfl (by first | exact Or.inl rfl | exact Or.inr rfl) (de_lst (da_cons (de_own C__law_digits (hr.mono (by decide)) (by rfl) (da_cons (de_name (pv 0)) (da_cons de_int (da_cons de_int da_nil)))) (da_cons de_int da_nil))))
  (ds_cons (ds_for PassesOwn.never rfl (di_range1 (by rfl) z_range (da_cons de_int da_nil)) (dg_name (i := 2) sc_law.nd rfl (by first | exact Or.inl rfl | exact Or.inr rfl))
    (ds_cons (ds_set (i := 3) sc_law.nd rfl (by first | exact Or.inl rfl | exact Or.inr rfl) (de_op op_gAdd de_int (de_own C__law_draw (hr.mono (by decide)) (by rfl) (da_cons (de_name (pv 1)) (da_cons de_int da_nil)))))
    (ds_cons (ds_set (i := 4) sc_law.nd rfl (by first | exact Or.inl rfl | exact Or.inr rfl) (de_own C__law_placed (hr.mono (by decide)) (by rfl) (da_cons (de_name (pv 1)) (da_cons (de_name (pv 3)) da_nil))))
    (ds_cons (ds_setLc (i := 5) (own := [("teacher", 20), ("far", 21), ("period", 19)]) rfl sc_law.nd rfl rfl (sw_true rfl rfl rfl (by decide +kernel)) (di_list (de_name (pv 4))) (blkOk_by (N := N_law) (sc := (defScope s_law)) (by decide +kernel)) (fun _ _ _ _ _ => (dg_tup rfl (dgs_cons (dg_name (i := 20) sc_law.nd rfl (by first | exact Or.inl rfl | exact Or.inr rfl)) (dgs_cons (dg_name (i := 21) sc_law.nd rfl (by first | exact Or.inl rfl | exact Or.inr rfl)) (dgs_cons (dg_name (i := 19) sc_law.nd rfl (by first | exact Or.inl rfl | exact Or.inr rfl)) dgs_nil))))) (fun _ _ _ _ _ => dts_nil) (fun _ _ _ _ _ => (de_tup (da_cons (de_name (pv 20)) (da_cons (de_name (pv 21)) da_nil)))))
    (ds_cons (ds_set (i := 6) sc_law.nd rfl (by first | exact Or.inl rfl | exact Or.inr rfl) (de_comp (own := [("teacher", 20), ("far", 21), ("period", 19)]) rfl sc_law.nd (di_list (de_name (pv 4))) (blkOk_by (N := N_law) (sc := (defScope s_law)) (by decide +kernel)) (fun _ _ _ _ _ => (dg_tup rfl (dgs_cons (dg_name (i := 20) sc_law.nd rfl (by first | exact Or.inl rfl | exact Or.inr rfl)) (dgs_cons (dg_name (i := 21) sc_law.nd rfl (by first | exact Or.inl rfl | exact Or.inr rfl)) (dgs_cons (dg_name (i := 19) sc_law.nd rfl (by first | exact Or.inl rfl | exact Or.inr rfl)) dgs_nil))))) (fun _ _ _ _ _ => dts_nil) (fun _ _ _ _ _ => (de_name (pv 19)))))
    (ds_cons (ds_par (i := 7) (j := 8) rfl sc_law.nd rfl rfl (by decide) rfl rfl (da_cons (de_fnT cr_gListOf (by rfl) z_list rfl (da_cons (de_name (pv 5)) da_nil)) (da_cons (de_fnT cr_gListOf (by rfl) z_list rfl (da_cons (de_name (pv 6)) da_nil)) da_nil)) (by rfl))
    (ds_cons (ds_set (i := 9) sc_law.nd rfl (by first | exact Or.inl rfl | exact Or.inr rfl) (de_fnB cr_gLen (by rfl) z_len PySem.boot_len (da_cons (de_name (pv 5)) da_nil)))
    (ds_cons (ds_setLc (i := 10) (own := [("period", 19)]) rfl sc_law.nd rfl rfl (sw_true rfl rfl rfl (by decide +kernel)) (di_range1 (by rfl) z_range (da_cons (de_name (pv 3)) da_nil)) (blkOk_by (N := N_law) (sc := (defScope s_law)) (by decide +kernel)) (fun _ _ _ _ _ => (dg_name (i := 19) sc_law.nd rfl (by first | exact Or.inl rfl | exact Or.inr rfl))) (fun _ _ _ _ _ => dts_nil) (fun _ _ _ _ _ => (de_fnB cr_gLen (by rfl) z_len PySem.boot_len (da_cons (de_comp (own := [("far", 21)]) rfl sc_law.nd (di_list (de_name (pv 6))) (blkOk_by (N := N_law) (sc := (relS (scopeAt s_law 2) (defScope s_law))) (by decide +kernel)) (fun _ _ _ _ _ => (dg_name (i := 21) sc_law.nd rfl (by first | exact Or.inl rfl | exact Or.inr rfl))) (fun _ _ _ _ _ => (dts_one (dt_cmp (op_gEq hr.units) (de_name (pv 21)) (de_name (pv 19))))) (fun _ _ _ _ _ => de_int)) da_nil))))
    (ds_cons (ds_if (dt_not (dt_val (de_own C__law_same (hr.mono (by decide)) (by rfl) (da_cons (de_own C_rooms_needed (hr.mono (by decide)) (by rfl) (da_cons (de_name (pv 7)) (da_cons (de_name (pv 8)) da_nil))) (da_cons (de_fnB (cr_gMax rfl) (by rfl) z_max rfl (da_cons (de_name (pv 10)) da_nil)) da_nil)))))
      (ds_one (ds_ret de_bl))
      ds_nil)
    (ds_cons (ds_set (i := 11) sc_law.nd rfl (by first | exact Or.inl rfl | exact Or.inr rfl) (de_fnB cr_gLen (by rfl) z_len PySem.boot_len (da_cons (de_comp (own := [("place", 18)]) rfl sc_law.nd (di_range1 (by rfl) z_range (da_cons (de_name (pv 9)) da_nil)) (blkOk_by (N := N_law) (sc := (defScope s_law)) (by decide +kernel)) (fun _ _ _ _ _ => (dg_name (i := 18) sc_law.nd rfl (by first | exact Or.inl rfl | exact Or.inr rfl))) (fun _ _ _ _ _ => (dts_one (dt_cmp (op_gEq hr.units) (de_op op_gMod (de_fnT cr_gInt (by rfl) z_int rfl (da_cons (de_name (pv 18)) da_nil)) (de_name (pv 3))) de_int))) (fun _ _ _ _ _ => de_int)) da_nil)))
    (ds_cons (ds_if (dt_not (dt_val (de_own C__law_same (hr.mono (by decide)) (by rfl) (da_cons (de_own C_even_rooms (hr.mono (by decide)) (by rfl) (da_cons (de_name (pv 7)) (da_cons (de_name (pv 3)) da_nil))) (da_cons (de_name (pv 11)) da_nil)))))
      (ds_one (ds_ret de_bl))
      ds_nil)
    (ds_cons (ds_set (i := 12) sc_law.nd rfl (by first | exact Or.inl rfl | exact Or.inr rfl) (de_op op_gAdd (de_name (pv 3)) (de_own C__law_draw (hr.mono (by decide)) (by rfl) (da_cons (de_name (pv 1)) (da_cons de_int da_nil)))))
    (ds_cons (ds_for PassesOwn.never rfl (di_list (de_lst (da_cons (de_name (pv 3)) (da_cons (de_name (pv 12)) da_nil)))) (dg_name (i := 13) sc_law.nd rfl (by first | exact Or.inl rfl | exact Or.inr rfl))
      (ds_cons (ds_set (i := 11) sc_law.nd rfl (by first | exact Or.inl rfl | exact Or.inr rfl) (de_fnB cr_gLen (by rfl) z_len PySem.boot_len (da_cons (de_comp (own := [("place", 18)]) rfl sc_law.nd (di_range1 (by rfl) z_range (da_cons (de_name (pv 9)) da_nil)) (blkOk_by (N := N_law) (sc := (defScope s_law)) (by decide +kernel)) (fun _ _ _ _ _ => (dg_name (i := 18) sc_law.nd rfl (by first | exact Or.inl rfl | exact Or.inr rfl))) (fun _ _ _ _ _ => (dts_one (dt_cmp (op_gEq hr.units) (de_op op_gMod (de_fnT cr_gInt (by rfl) z_int rfl (da_cons (de_name (pv 18)) da_nil)) (de_name (pv 13))) de_int))) (fun _ _ _ _ _ => de_int)) da_nil)))
      (ds_cons (ds_set (i := 14) sc_law.nd rfl (by first | exact Or.inl rfl | exact Or.inr rfl) (de_own C_evened (hr.mono (by decide)) (by rfl) (da_cons (de_name (pv 7)) (da_cons (de_name (pv 8)) (da_cons (de_name (pv 13)) da_nil)))))
      (ds_cons (ds_if (dw_pt (dw_or (dt_not (dt_val (de_own C__law_even (hr.mono (by decide)) (by rfl) (da_cons (de_name (pv 5)) (da_cons (de_name (pv 14)) (da_cons (de_name (pv 13)) (da_cons (de_name (pv 11)) da_nil))))))) (dw_or (dt_cmp (op_gNe hr.units) (de_name (pv 7)) (de_name (pv 5))) (dw_or1 (dt_cmp (op_gNe hr.units) (de_name (pv 8)) (de_name (pv 6)))))))
        (ds_one (ds_ret de_bl))
        ds_nil)
      (ds_cons (ds_if (dw_pt (dw_or (dt_not (dt_val (de_own C__law_same (hr.mono (by decide)) (by rfl) (da_cons (de_own C_rooms_needed (hr.mono (by decide)) (by rfl) (da_cons (de_name (pv 7)) (da_cons (de_fnT cr_gListOf (by rfl) z_list rfl (da_cons (de_name (pv 14)) da_nil)) da_nil))) (da_cons (de_name (pv 11)) da_nil))))) (dw_or1 (dt_not (dt_val (de_own C__law_same (hr.mono (by decide)) (by rfl) (da_cons (de_own C_even_rooms (hr.mono (by decide)) (by rfl) (da_cons (de_name (pv 7)) (da_cons (de_name (pv 13)) da_nil))) (da_cons (de_name (pv 11)) da_nil))))))))
        (ds_one (ds_ret de_bl))
        ds_nil)
      (ds_cons (ds_expr (de_mu PySem.F.slot_list_append PySem.F.type_list_append mt_gAppend (de_name (pv 14)) (da_cons de_int da_nil)))
      (ds_one (ds_if (dt_cmp (op_gNe hr.units) (de_name (pv 8)) (de_name (pv 6)))
        (ds_one (ds_ret de_bl))
        ds_nil))))))))
    (ds_cons (ds_for PassesOwn.never rfl (di_list (de_lst (da_cons de_int (da_cons de_int da_nil)))) (dg_name (i := 15) sc_law.nd rfl (by first | exact Or.inl rfl | exact Or.inr rfl))
      (ds_one (ds_for PassesOwn.never rfl (di_list (de_lst (da_cons (de_own C__law_draw (hr.mono (by decide)) (by rfl) (da_cons (de_name (pv 1)) (da_cons de_int da_nil))) (da_cons (de_own C__law_draw (hr.mono (by decide)) (by rfl) (da_cons (de_name (pv 1)) (da_cons de_int da_nil))) da_nil)))) (dg_name (i := 16) sc_law.nd rfl (by first | exact Or.inl rfl | exact Or.inr rfl))
        (ds_cons (ds_setLc (i := 17) (own := [("period", 19)]) rfl sc_law.nd rfl rfl (sw_true rfl rfl rfl (by decide +kernel)) (di_range1 (by rfl) z_range (da_cons (de_name (pv 12)) da_nil)) (blkOk_by (N := N_law) (sc := (defScope s_law)) (by decide +kernel)) (fun _ _ _ _ _ => (dg_name (i := 19) sc_law.nd rfl (by first | exact Or.inl rfl | exact Or.inr rfl))) (fun _ _ _ _ _ => dts_nil) (fun _ _ _ _ _ => de_non))
        (ds_cons (ds_for PassesOwn.never rfl (di_enum (by rfl) z_enumerate (da_cons (de_lend (pv 6)) da_nil)) (dg_tup rfl (dgs_cons (dg_name (i := 18) sc_law.nd rfl (by first | exact Or.inl rfl | exact Or.inr rfl)) (dgs_cons (dg_name (i := 19) sc_law.nd rfl (by first | exact Or.inl rfl | exact Or.inr rfl)) dgs_nil)))
          (ds_one (ds_if (dt_cmp (op_gEq hr.units) (de_ix (de_ix (de_name (pv 5)) (de_name (pv 18))) (de_name (pv 15))) (de_name (pv 16)))
            (ds_one (ds_stI (de_ix (de_ix (de_name (pv 5)) (de_name (pv 18))) (de_op op_gSub de_int (de_name (pv 15)))) (de_name (pv 17)) (de_name (pv 19)) set_gSetL))
            ds_nil)))
        (ds_cons (ds_set (i := 14) sc_law.nd rfl (by first | exact Or.inl rfl | exact Or.inr rfl) (de_own C_plan_of (hr.mono (by decide)) (by rfl) (da_cons (de_name (pv 7)) (da_cons (de_name (pv 8)) (da_cons (de_name (pv 15)) (da_cons (de_name (pv 16)) (da_cons (de_name (pv 12)) da_nil)))))))
        (ds_one (ds_if (dw_pt (dw_or (dt_not (dt_val (de_own C__law_same (hr.mono (by decide)) (by rfl) (da_cons (de_name (pv 14)) (da_cons (de_name (pv 17)) da_nil))))) (dw_or1 (dt_not (dt_val (de_own C__law_same (hr.mono (by decide)) (by rfl) (da_cons (de_own C_gaps_of (hr.mono (by decide)) (by rfl) (da_cons (de_name (pv 14)) da_nil)) (da_cons (de_own C__law_gaps (hr.mono (by decide)) (by rfl) (da_cons (de_name (pv 17)) da_nil)) da_nil))))))))
          (ds_one (ds_ret de_bl))
          ds_nil))))))))
    (ds_cons (ds_setLc (i := 17) (own := [("period", 19)]) rfl sc_law.nd rfl rfl (sw_true rfl rfl rfl (by decide +kernel)) (di_range1 (by rfl) z_range (da_cons (de_own C__law_draw (hr.mono (by decide)) (by rfl) (da_cons (de_name (pv 1)) (da_cons de_int da_nil))) da_nil)) (blkOk_by (N := N_law) (sc := (defScope s_law)) (by decide +kernel)) (fun _ _ _ _ _ => (dg_name (i := 19) sc_law.nd rfl (by first | exact Or.inl rfl | exact Or.inr rfl))) (fun _ _ _ _ _ => dts_nil) (fun _ _ _ _ _ => (de_own C__law_pick (hr.mono (by decide)) (by rfl) (da_cons (de_name (pv 1)) (da_cons (de_lst (da_cons de_non (da_cons de_non (da_cons de_int (da_cons de_int (da_cons de_non da_nil)))))) da_nil)))))
    (ds_cons (ds_set (i := 14) sc_law.nd rfl (by first | exact Or.inl rfl | exact Or.inr rfl) (de_fnT cr_gListOf (by rfl) z_list rfl (da_cons (de_name (pv 17)) da_nil)))
    (ds_one (ds_if (dw_pt (dw_or (dt_not (dt_val (de_own C__law_same (hr.mono (by decide)) (by rfl) (da_cons (de_own C_gaps_of (hr.mono (by decide)) (by rfl) (da_cons (de_name (pv 14)) da_nil)) (da_cons (de_own C__law_gaps (hr.mono (by decide)) (by rfl) (da_cons (de_name (pv 17)) da_nil)) da_nil))))) (dw_or1 (dt_cmp (op_gNe hr.units) (de_name (pv 14)) (de_name (pv 17))))))
      (ds_one (ds_ret de_bl))
      ds_nil))))))))))))))))))
  (ds_cons (ds_if (dw_pt (dw_or (dt_not (dt_val (de_own C__law_same (hr.mono (by decide)) (by rfl) (da_cons (de_own C_evened (hr.mono (by decide)) (by rfl) (da_cons (de_lst da_nil) (da_cons (de_lst da_nil) (da_cons de_int da_nil)))) (da_cons (de_lst da_nil) da_nil))))) (dw_or (dt_not (dt_val (de_own C__law_same (hr.mono (by decide)) (by rfl) (da_cons (de_own C_even_rooms (hr.mono (by decide)) (by rfl) (da_cons (de_lst da_nil) (da_cons de_int da_nil))) (da_cons de_int da_nil))))) (dw_or1 (dt_not (dt_val (de_own C__law_same (hr.mono (by decide)) (by rfl) (da_cons (de_own C_rooms_needed (hr.mono (by decide)) (by rfl) (da_cons (de_lst da_nil) (da_cons (de_lst da_nil) da_nil))) (da_cons de_int da_nil)))))))))
    (ds_one (ds_ret de_bl))
    ds_nil)
  (ds_cons (ds_if (dw_pt (dw_or (dt_not (dt_val (de_own C__law_same (hr.mono (by decide)) (by rfl) (da_cons (de_own C_gaps_of (hr.mono (by decide)) (by rfl) (da_cons (de_lst (da_cons de_non (da_cons de_int (da_cons de_non (da_cons de_non (da_cons de_int (da_cons de_non da_nil))))))) da_nil)) (da_cons de_int da_nil))))) (dw_or1 (dt_not (dt_val (de_own C__law_same (hr.mono (by decide)) (by rfl) (da_cons (de_own C_gaps_of (hr.mono (by decide)) (by rfl) (da_cons (de_lst da_nil) da_nil)) (da_cons de_int da_nil))))))))
    (ds_one (ds_ret de_bl))
    ds_nil)
  (ds_one (ds_ret (de_and (de_own C__law_same (hr.mono (by decide)) (by rfl) (da_cons (de_own C_even_rooms (hr.mono (by decide)) (by rfl) (da_cons (de_lst (da_cons (de_tup (da_cons de_int (da_cons de_int da_nil))) (da_cons (de_tup (da_cons de_int (da_cons de_int da_nil))) (da_cons (de_tup (da_cons de_int (da_cons de_int da_nil))) da_nil)))) (da_cons de_int da_nil))) (da_cons de_int da_nil))) (de_one (de_own C__law_same (hr.mono (by decide)) (by rfl) (da_cons (de_own C_plan_of (hr.mono (by decide)) (by rfl) (da_cons (de_lst (da_cons (de_tup (da_cons de_int (da_cons de_int da_nil))) da_nil)) (da_cons (de_lst (da_cons de_int da_nil)) (da_cons de_int (da_cons de_int (da_cons de_int da_nil)))))) (da_cons (de_lst (da_cons de_non (da_cons de_int (da_cons de_non da_nil)))) da_nil)))))))))))) p_law
end
instance lay0 : Lay := ⟨[], True⟩
theorem law_sp {K : PySem.W.Frag} {H : Hp} {a : Addr} {ns : List Int} (hS : SqL K H a (ns.map V.int)) : spT K m_law t_law [.ref a] H (fun v _ => v = .bl true) fun _ _ _ => False :=
  ⟨H, [scrD ns], fun z _ => z = .fz (.bool true), Evl.Ex.refl H, ⟨.scr hS, trivial⟩, List.nodup_nil, fun _ h => absurd h List.not_mem_nil, ⟨ns, rfl, rfl⟩, fun z os v F1 H1 hk R => by subst hk; have f := R.fit; cases f; rfl⟩
theorem all_mk {l : PySem.W.OpenLaw} {w : World} {K : PySem.W.Frag} {h : Heap} {mg : Str → Option Value} {fa : Addr} (X : K.In h) (G : h.Ns mainGlobals mg) (hfa : mg "law" = some (.ref fa))
    {f0 : Addr} {od0 an0 : Option Addr} {sl0 : Array (Option Value)} {oc0 kV0 dc0 pm0 cd0 ct0 : Value}
    {f1 : Addr} {od1 an1 : Option Addr} {sl1 : Array (Option Value)} {oc1 kV1 dc1 pm1 cd1 ct1 : Value}
    {f2 : Addr} {od2 an2 : Option Addr} {sl2 : Array (Option Value)} {oc2 kV2 dc2 pm2 cd2 ct2 : Value}
    {f3 : Addr} {od3 an3 : Option Addr} {sl3 : Array (Option Value)} {oc3 kV3 dc3 pm3 cd3 ct3 : Value}
    {f4 : Addr} {od4 an4 : Option Addr} {sl4 : Array (Option Value)} {oc4 kV4 dc4 pm4 cd4 ct4 : Value}
    {f5 : Addr} {od5 an5 : Option Addr} {sl5 : Array (Option Value)} {oc5 kV5 dc5 pm5 cd5 ct5 : Value}
    {f6 : Addr} {od6 an6 : Option Addr} {sl6 : Array (Option Value)} {oc6 kV6 dc6 pm6 cd6 ct6 : Value}
    {f7 : Addr} {od7 an7 : Option Addr} {sl7 : Array (Option Value)} {oc7 kV7 dc7 pm7 cd7 ct7 : Value}
    {f8 : Addr} {od8 an8 : Option Addr} {sl8 : Array (Option Value)} {oc8 kV8 dc8 pm8 cd8 ct8 : Value}
    {f9 : Addr} {od9 an9 : Option Addr} {sl9 : Array (Option Value)} {oc9 kV9 dc9 pm9 cd9 ct9 : Value}
    {f10 : Addr} {od10 an10 : Option Addr} {sl10 : Array (Option Value)} {oc10 kV10 dc10 pm10 cd10 ct10 : Value}
    {f11 : Addr} {od11 an11 : Option Addr} {sl11 : Array (Option Value)} {oc11 kV11 dc11 pm11 cd11 ct11 : Value}
    {f12 : Addr} {od12 an12 : Option Addr} {sl12 : Array (Option Value)} {oc12 kV12 dc12 pm12 cd12 ct12 : Value}
    {f13 : Addr} {od13 an13 : Option Addr} {sl13 : Array (Option Value)} {oc13 kV13 dc13 pm13 cd13 ct13 : Value}
    {f14 : Addr} {od14 an14 : Option Addr} {sl14 : Array (Option Value)} {oc14 kV14 dc14 pm14 cd14 ct14 : Value}
    {f15 : Addr} {od15 an15 : Option Addr} {sl15 : Array (Option Value)} {oc15 kV15 dc15 pm15 cd15 ct15 : Value}
    {f16 : Addr} {od16 an16 : Option Addr} {sl16 : Array (Option Value)} {oc16 kV16 dc16 pm16 cd16 ct16 : Value}
    (a0 : PySem.W.nsIn K mainGlobals "_law_cell" = some (some (.ref f0))) (l0 : K.lookup f0 = some ⟨oc0, od0, .func (PySem.W.fnOf "_law_cell" "_law_cell" (defArgs s__law_cell) (defBody s__law_cell) (defScope s__law_cell) .none kV0 dc0 pm0 an0 cd0 ct0), sl0⟩) (c0 : PySem.W.codeIn K cd0 "_law_cell" = true) (k0 : PySem.W.keepIn K (.ref f0) = true)
    (a1 : PySem.W.nsIn K mainGlobals "_law_digits" = some (some (.ref f1))) (l1 : K.lookup f1 = some ⟨oc1, od1, .func (PySem.W.fnOf "_law_digits" "_law_digits" (defArgs s__law_digits) (defBody s__law_digits) (defScope s__law_digits) .none kV1 dc1 pm1 an1 cd1 ct1), sl1⟩) (c1 : PySem.W.codeIn K cd1 "_law_digits" = true) (k1 : PySem.W.keepIn K (.ref f1) = true)
    (a2 : PySem.W.nsIn K mainGlobals "_law_draw" = some (some (.ref f2))) (l2 : K.lookup f2 = some ⟨oc2, od2, .func (PySem.W.fnOf "_law_draw" "_law_draw" (defArgs s__law_draw) (defBody s__law_draw) (defScope s__law_draw) .none kV2 dc2 pm2 an2 cd2 ct2), sl2⟩) (c2 : PySem.W.codeIn K cd2 "_law_draw" = true) (k2 : PySem.W.keepIn K (.ref f2) = true)
    (a3 : PySem.W.nsIn K mainGlobals "_law_mixed" = some (some (.ref f3))) (l3 : K.lookup f3 = some ⟨oc3, od3, .func (PySem.W.fnOf "_law_mixed" "_law_mixed" (defArgs s__law_mixed) (defBody s__law_mixed) (defScope s__law_mixed) .none kV3 dc3 pm3 an3 cd3 ct3), sl3⟩) (c3 : PySem.W.codeIn K cd3 "_law_mixed" = true) (k3 : PySem.W.keepIn K (.ref f3) = true)
    (a4 : PySem.W.nsIn K mainGlobals "_law_pick" = some (some (.ref f4))) (l4 : K.lookup f4 = some ⟨oc4, od4, .func (PySem.W.fnOf "_law_pick" "_law_pick" (defArgs s__law_pick) (defBody s__law_pick) (defScope s__law_pick) .none kV4 dc4 pm4 an4 cd4 ct4), sl4⟩) (c4 : PySem.W.codeIn K cd4 "_law_pick" = true) (k4 : PySem.W.keepIn K (.ref f4) = true)
    (a5 : PySem.W.nsIn K mainGlobals "_law_placed" = some (some (.ref f5))) (l5 : K.lookup f5 = some ⟨oc5, od5, .func (PySem.W.fnOf "_law_placed" "_law_placed" (defArgs s__law_placed) (defBody s__law_placed) (defScope s__law_placed) .none kV5 dc5 pm5 an5 cd5 ct5), sl5⟩) (c5 : PySem.W.codeIn K cd5 "_law_placed" = true) (k5 : PySem.W.keepIn K (.ref f5) = true)
    (a6 : PySem.W.nsIn K mainGlobals "_law_same" = some (some (.ref f6))) (l6 : K.lookup f6 = some ⟨oc6, od6, .func (PySem.W.fnOf "_law_same" "_law_same" (defArgs s__law_same) (defBody s__law_same) (defScope s__law_same) .none kV6 dc6 pm6 an6 cd6 ct6), sl6⟩) (c6 : PySem.W.codeIn K cd6 "_law_same" = true) (k6 : PySem.W.keepIn K (.ref f6) = true)
    (a7 : PySem.W.nsIn K mainGlobals "shares" = some (some (.ref f7))) (l7 : K.lookup f7 = some ⟨oc7, od7, .func (PySem.W.fnOf "shares" "shares" (defArgs s_shares) (defBody s_shares) (defScope s_shares) .none kV7 dc7 pm7 an7 cd7 ct7), sl7⟩) (c7 : PySem.W.codeIn K cd7 "shares" = true) (k7 : PySem.W.keepIn K (.ref f7) = true)
    (a8 : PySem.W.nsIn K mainGlobals "chains_of" = some (some (.ref f8))) (l8 : K.lookup f8 = some ⟨oc8, od8, .func (PySem.W.fnOf "chains_of" "chains_of" (defArgs s_chains_of) (defBody s_chains_of) (defScope s_chains_of) .none kV8 dc8 pm8 an8 cd8 ct8), sl8⟩) (c8 : PySem.W.codeIn K cd8 "chains_of" = true) (k8 : PySem.W.keepIn K (.ref f8) = true)
    (a9 : PySem.W.nsIn K mainGlobals "evened" = some (some (.ref f9))) (l9 : K.lookup f9 = some ⟨oc9, od9, .func (PySem.W.fnOf "evened" "evened" (defArgs s_evened) (defBody s_evened) (defScope s_evened) .none kV9 dc9 pm9 an9 cd9 ct9), sl9⟩) (c9 : PySem.W.codeIn K cd9 "evened" = true) (k9 : PySem.W.keepIn K (.ref f9) = true)
    (a10 : PySem.W.nsIn K mainGlobals "even_rooms" = some (some (.ref f10))) (l10 : K.lookup f10 = some ⟨oc10, od10, .func (PySem.W.fnOf "even_rooms" "even_rooms" (defArgs s_even_rooms) (defBody s_even_rooms) (defScope s_even_rooms) .none kV10 dc10 pm10 an10 cd10 ct10), sl10⟩) (c10 : PySem.W.codeIn K cd10 "even_rooms" = true) (k10 : PySem.W.keepIn K (.ref f10) = true)
    (a11 : PySem.W.nsIn K mainGlobals "plan_of" = some (some (.ref f11))) (l11 : K.lookup f11 = some ⟨oc11, od11, .func (PySem.W.fnOf "plan_of" "plan_of" (defArgs s_plan_of) (defBody s_plan_of) (defScope s_plan_of) .none kV11 dc11 pm11 an11 cd11 ct11), sl11⟩) (c11 : PySem.W.codeIn K cd11 "plan_of" = true) (k11 : PySem.W.keepIn K (.ref f11) = true)
    (a12 : PySem.W.nsIn K mainGlobals "rooms_needed" = some (some (.ref f12))) (l12 : K.lookup f12 = some ⟨oc12, od12, .func (PySem.W.fnOf "rooms_needed" "rooms_needed" (defArgs s_rooms_needed) (defBody s_rooms_needed) (defScope s_rooms_needed) .none kV12 dc12 pm12 an12 cd12 ct12), sl12⟩) (c12 : PySem.W.codeIn K cd12 "rooms_needed" = true) (k12 : PySem.W.keepIn K (.ref f12) = true)
    (a13 : PySem.W.nsIn K mainGlobals "gaps_of" = some (some (.ref f13))) (l13 : K.lookup f13 = some ⟨oc13, od13, .func (PySem.W.fnOf "gaps_of" "gaps_of" (defArgs s_gaps_of) (defBody s_gaps_of) (defScope s_gaps_of) .none kV13 dc13 pm13 an13 cd13 ct13), sl13⟩) (c13 : PySem.W.codeIn K cd13 "gaps_of" = true) (k13 : PySem.W.keepIn K (.ref f13) = true)
    (a14 : PySem.W.nsIn K mainGlobals "_law_even" = some (some (.ref f14))) (l14 : K.lookup f14 = some ⟨oc14, od14, .func (PySem.W.fnOf "_law_even" "_law_even" (defArgs s__law_even) (defBody s__law_even) (defScope s__law_even) .none kV14 dc14 pm14 an14 cd14 ct14), sl14⟩) (c14 : PySem.W.codeIn K cd14 "_law_even" = true) (k14 : PySem.W.keepIn K (.ref f14) = true)
    (a15 : PySem.W.nsIn K mainGlobals "_law_gaps" = some (some (.ref f15))) (l15 : K.lookup f15 = some ⟨oc15, od15, .func (PySem.W.fnOf "_law_gaps" "_law_gaps" (defArgs s__law_gaps) (defBody s__law_gaps) (defScope s__law_gaps) .none kV15 dc15 pm15 an15 cd15 ct15), sl15⟩) (c15 : PySem.W.codeIn K cd15 "_law_gaps" = true) (k15 : PySem.W.keepIn K (.ref f15) = true)
    (a16 : PySem.W.nsIn K mainGlobals "law" = some (some (.ref f16))) (l16 : K.lookup f16 = some ⟨oc16, od16, .func (PySem.W.fnOf "law" "law" (defArgs s_law) (defBody s_law) (defScope s_law) .none kV16 dc16 pm16 an16 cd16 ct16), sl16⟩) (c16 : PySem.W.codeIn K cd16 "law" = true) (k16 : PySem.W.keepIn K (.ref f16) = true)
    (z_len : PySem.W.nsIn K mainGlobals "len" = some none)
    (z_range : PySem.W.nsIn K mainGlobals "range" = some none)
    (z_int : PySem.W.nsIn K mainGlobals "int" = some none)
    (z_list : PySem.W.nsIn K mainGlobals "list" = some none)
    (z_isinstance : PySem.W.nsIn K mainGlobals "isinstance" = some none)
    (z_str : PySem.W.nsIn K mainGlobals "str" = some none)
    (z_repr : PySem.W.nsIn K mainGlobals "repr" = some none)
    (z_bool : PySem.W.nsIn K mainGlobals "bool" = some none)
    (z_tuple : PySem.W.nsIn K mainGlobals "tuple" = some none)
    (z_sorted : PySem.W.nsIn K mainGlobals "sorted" = some none)
    (z_min : PySem.W.nsIn K mainGlobals "min" = some none)
    (z_max : PySem.W.nsIn K mainGlobals "max" = some none)
    (z_enumerate : PySem.W.nsIn K mainGlobals "enumerate" = some none) :
    ∃ fd : FuncData, (∀ (s : Shared) (v : Value), BindsTo s fd ⟨[v], []⟩ [("script", v)]) ∧ ∀ base : Heap, K.In base → base.Ns mainGlobals mg → FnOk l.prog w K mg base CX0 13 fa fd ["script"] (spT K m_law t_law) := by
  have e := hfa.symm.trans (PySem.W.mg_of X G a16)
  cases e
  have F0 := fun_mk (st := s__law_cell) l0 c0 k0
  have b0 := F0.binds (ps := ["script", "k"]) fun _ _ _ _ _ _ us hl => match us, hl with | [_, _], _ => rfl
  have F1 := fun_mk (st := s__law_digits) l1 c1 k1
  have b1 := F1.binds (ps := ["script", "first", "last"]) fun _ _ _ _ _ _ us hl => match us, hl with | [_, _, _], _ => rfl
  have F2 := fun_mk (st := s__law_draw) l2 c2 k2
  have b2 := F2.binds (ps := ["box", "many"]) fun _ _ _ _ _ _ us hl => match us, hl with | [_, _], _ => rfl
  have F3 := fun_mk (st := s__law_mixed) l3 c3 k3
  have b3 := F3.binds (ps := ["box", "row"]) fun _ _ _ _ _ _ us hl => match us, hl with | [_, _], _ => rfl
  have F4 := fun_mk (st := s__law_pick) l4 c4 k4
  have b4 := F4.binds (ps := ["box", "row"]) fun _ _ _ _ _ _ us hl => match us, hl with | [_, _], _ => rfl
  have F5 := fun_mk (st := s__law_placed) l5 c5 k5
  have b5 := F5.binds (ps := ["box", "periods"]) fun _ _ _ _ _ _ us hl => match us, hl with | [_, _], _ => rfl
  have F6 := fun_mk (st := s__law_same) l6 c6 k6
  have b6 := F6.binds (ps := ["told", "due"]) fun _ _ _ _ _ _ us hl => match us, hl with | [_, _], _ => rfl
  have F7 := fun_mk (st := s_shares) l7 c7 k7
  have b7 := F7.binds (ps := ["lessons", "one", "other"]) fun _ _ _ _ _ _ us hl => match us, hl with | [_, _, _], _ => rfl
  have F8 := fun_mk (st := s_chains_of) l8 c8 k8
  have b8 := F8.binds (ps := ["lessons", "row", "one", "other"]) fun _ _ _ _ _ _ us hl => match us, hl with | [_, _, _, _], _ => rfl
  have F9 := fun_mk (st := s_evened) l9 c9 k9
  have b9 := F9.binds (ps := ["lessons", "row", "periods"]) fun _ _ _ _ _ _ us hl => match us, hl with | [_, _, _], _ => rfl
  have F10 := fun_mk (st := s_even_rooms) l10 c10 k10
  have b10 := F10.binds (ps := ["lessons", "periods"]) fun _ _ _ _ _ _ us hl => match us, hl with | [_, _], _ => rfl
  have F11 := fun_mk (st := s_plan_of) l11 c11 k11
  have b11 := F11.binds (ps := ["lessons", "row", "side", "who", "periods"]) fun _ _ _ _ _ _ us hl => match us, hl with | [_, _, _, _, _], _ => rfl
  have F12 := fun_mk (st := s_rooms_needed) l12 c12 k12
  have b12 := F12.binds (ps := ["lessons", "row"]) fun _ _ _ _ _ _ us hl => match us, hl with | [_, _], _ => rfl
  have F13 := fun_mk (st := s_gaps_of) l13 c13 k13
  have b13 := F13.binds (ps := ["plan"]) fun _ _ _ _ _ _ us hl => match us, hl with | [_], _ => rfl
  have F14 := fun_mk (st := s__law_even) l14 c14 k14
  have b14 := F14.binds (ps := ["lessons", "row", "periods", "most"]) fun _ _ _ _ _ _ us hl => match us, hl with | [_, _, _, _], _ => rfl
  have F15 := fun_mk (st := s__law_gaps) l15 c15 k15
  have b15 := F15.binds (ps := ["plan"]) fun _ _ _ _ _ _ us hl => match us, hl with | [_], _ => rfl
  have F16 := fun_mk (st := s_law) l16 c16 k16
  refine ⟨PySem.W.fnOf "law" "law" (defArgs s_law) (defBody s_law) (defScope s_law) .none kV16 dc16 pm16 an16 cd16 ct16, fun s v => .of_eq rfl, fun base _ _ => ?_⟩
  have C__law_cell := w__law_cell (P := l.prog) (w := w) (base := base) F0 (PySem.W.mg_of X G a0) b0 (PySem.W.mg_none_of X G z_len)
  have C__law_digits := w__law_digits (P := l.prog) (w := w) (base := base) F1 (PySem.W.mg_of X G a1) b1 (PySem.W.mg_none_of X G z_range) C__law_cell (PySem.W.mg_none_of X G z_int)
  have C__law_draw := w__law_draw (P := l.prog) (w := w) (base := base) F2 (PySem.W.mg_of X G a2) b2 (PySem.W.mg_none_of X G z_len) (PySem.W.mg_none_of X G z_int)
  have C__law_mixed := w__law_mixed (P := l.prog) (w := w) (base := base) F3 (PySem.W.mg_of X G a3) b3 (PySem.W.mg_none_of X G z_list) (PySem.W.mg_none_of X G z_len) (PySem.W.mg_none_of X G z_range) C__law_draw
  have C__law_pick := w__law_pick (P := l.prog) (w := w) (base := base) F4 (PySem.W.mg_of X G a4) b4 C__law_draw (PySem.W.mg_none_of X G z_int) (PySem.W.mg_none_of X G z_len)
  have C__law_placed := w__law_placed (P := l.prog) (w := w) (base := base) F5 (PySem.W.mg_of X G a5) b5 C__law_draw (PySem.W.mg_none_of X G z_range) C__law_mixed C__law_pick
  have C__law_same := w__law_same (P := l.prog) (w := w) (base := base) F6 (PySem.W.mg_of X G a6) b6 (PySem.W.mg_none_of X G z_isinstance) (PySem.W.mg_none_of X G z_str) (PySem.W.mg_none_of X G z_repr) (PySem.W.mg_none_of X G z_int) (PySem.W.mg_none_of X G z_bool) (PySem.W.mg_none_of X G z_tuple) (PySem.W.mg_none_of X G z_list) (PySem.W.mg_none_of X G z_len) (PySem.W.mg_none_of X G z_range)
  have C_shares := w_shares (P := l.prog) (w := w) (base := base) F7 (PySem.W.mg_of X G a7) b7 
  have C_chains_of := w_chains_of (P := l.prog) (w := w) (base := base) F8 (PySem.W.mg_of X G a8) b8 (PySem.W.mg_none_of X G z_len) (PySem.W.mg_none_of X G z_range) C_shares (PySem.W.mg_none_of X G z_sorted)
  have C_evened := w_evened (P := l.prog) (w := w) (base := base) F9 (PySem.W.mg_of X G a9) b9 (PySem.W.mg_none_of X G z_list) (PySem.W.mg_none_of X G z_range) (PySem.W.mg_none_of X G z_min) (PySem.W.mg_none_of X G z_max) C_chains_of (PySem.W.mg_none_of X G z_len)
  have C_even_rooms := w_even_rooms (P := l.prog) (w := w) (base := base) F10 (PySem.W.mg_of X G a10) b10 (PySem.W.mg_none_of X G z_len)
  have C_plan_of := w_plan_of (P := l.prog) (w := w) (base := base) F11 (PySem.W.mg_of X G a11) b11 (PySem.W.mg_none_of X G z_range) (PySem.W.mg_none_of X G z_enumerate)
  have C_rooms_needed := w_rooms_needed (P := l.prog) (w := w) (base := base) F12 (PySem.W.mg_of X G a12) b12 (PySem.W.mg_none_of X G z_max)
  have C_gaps_of := w_gaps_of (P := l.prog) (w := w) (base := base) F13 (PySem.W.mg_of X G a13) b13 (PySem.W.mg_none_of X G z_enumerate) (PySem.W.mg_none_of X G z_len)
  have C__law_even := w__law_even (P := l.prog) (w := w) (base := base) F14 (PySem.W.mg_of X G a14) b14 (PySem.W.mg_none_of X G z_isinstance) (PySem.W.mg_none_of X G z_list) (PySem.W.mg_none_of X G z_len) (PySem.W.mg_none_of X G z_range) (PySem.W.mg_none_of X G z_enumerate) (PySem.W.mg_none_of X G z_int) (PySem.W.mg_none_of X G z_bool) (show Lay.norm from trivial) (PySem.W.mg_none_of X G z_max)
  have C__law_gaps := w__law_gaps (P := l.prog) (w := w) (base := base) F15 (PySem.W.mg_of X G a15) b15 
  exact w_law F16 C__law_digits (PySem.W.mg_none_of X G z_range) C__law_draw C__law_placed (PySem.W.mg_none_of X G z_list) (PySem.W.mg_none_of X G z_len) (PySem.W.mg_none_of X G z_max) C_rooms_needed C__law_same (PySem.W.mg_none_of X G z_int) C_even_rooms C_evened C__law_even (PySem.W.mg_none_of X G z_enumerate) C_plan_of C__law_gaps C_gaps_of C__law_pick
theorem walk {l : PySem.W.OpenLaw} {q : Program} {loose : List Str} {XP : (Str → Option Value) → Heap → Prop} {YP : World → Heap → Prop} {d : DefRec} {K : Params → PySem.W.Frag} (hn : l.most = some 63) (hdf : d.params.defaults = [])
    (hY : ∀ (w : World) (h : Heap), YP w h → (K w.params).In h)
    (F : ∀ (w : World) (mg : Str → Option Value) (fa : Addr) (h : Heap), (K w.params).In h → h.Ns mainGlobals mg → mg d.name = some (.ref fa) →
      ∃ fd : FuncData, (∀ (s : Shared) (u : Value), BindsTo s fd ⟨[u], []⟩ [("script", u)]) ∧ ∀ base : Heap, (K w.params).In base → base.Ns mainGlobals mg → FnOk l.prog w (K w.params) mg base CX0 13 fa fd ["script"] (spT (K w.params) m_law t_law)) :
    PySem.W.WalkO q loose XP YP l.row.toRowW d [] (fun f vs => PySem.call f vs) :=
  L2.walk_of (n := 63) (k := 13) (x := "script") (CX := fun _ => CX0) (sp := fun w => spT (K w.params) m_law t_law) hn (by decide) hdf ⟨rfl, by decide, by decide⟩ hY F (fun _ _ _ _ _ _ hS => law_sp hS) fun _ _ _ _ _ z => z
end TL.k49
open PySem PySem.W PyProof.Rows
set_option maxHeartbeats 0 in
theorem PySem.Challenge.cw_schoollands_k49_whole_rooms_and_plans_holds : PySem.Challenge.rw_schoollands_k49_whole_rooms_and_plans.Holds := by
  w_on; o_law; k_head; (case hw => w_witness2)
  k_fill
  refine TL.k49.walk (l := PySem.Challenge.rw_schoollands_k49_whole_rooms_and_plans) rfl rfl (fun w h Y => PySem.W.kIn_of Y) ?F
  case F =>
    intro w mg fa h KX G hmg
    refine' TL.k49.all_mk KX G hmg ?a0 ?l0 ?c0 ?k0 ?a1 ?l1 ?c1 ?k1 ?a2 ?l2 ?c2 ?k2 ?a3 ?l3 ?c3 ?k3 ?a4 ?l4 ?c4 ?k4 ?a5 ?l5 ?c5 ?k5 ?a6 ?l6 ?c6 ?k6 ?a7 ?l7 ?c7 ?k7 ?a8 ?l8 ?c8 ?k8 ?a9 ?l9 ?c9 ?k9 ?a10 ?l10 ?c10 ?k10 ?a11 ?l11 ?c11 ?k11 ?a12 ?l12 ?c12 ?k12 ?a13 ?l13 ?c13 ?k13 ?a14 ?l14 ?c14 ?k14 ?a15 ?l15 ?c15 ?k15 ?a16 ?l16 ?c16 ?k16 ?z_len ?z_range ?z_int ?z_list ?z_isinstance ?z_str ?z_repr ?z_bool ?z_tuple ?z_sorted ?z_min ?z_max ?z_enumerate
    (case a0 => k_is); (case l0 => k_is); (case c0 => k_is); (case k0 => k_is); (case a1 => k_is); (case l1 => k_is); (case c1 => k_is); (case k1 => k_is)
    (case a2 => k_is); (case l2 => k_is); (case c2 => k_is); (case k2 => k_is); (case a3 => k_is); (case l3 => k_is); (case c3 => k_is); (case k3 => k_is)
    (case a4 => k_is); (case l4 => k_is); (case c4 => k_is); (case k4 => k_is); (case a5 => k_is); (case l5 => k_is); (case c5 => k_is); (case k5 => k_is)
    (case a6 => k_is); (case l6 => k_is); (case c6 => k_is); (case k6 => k_is); (case a7 => k_is); (case l7 => k_is); (case c7 => k_is); (case k7 => k_is)
    (case a8 => k_is); (case l8 => k_is); (case c8 => k_is); (case k8 => k_is); (case a9 => k_is); (case l9 => k_is); (case c9 => k_is); (case k9 => k_is)
    (case a10 => k_is); (case l10 => k_is); (case c10 => k_is); (case k10 => k_is); (case a11 => k_is); (case l11 => k_is); (case c11 => k_is); (case k11 => k_is)
    (case a12 => k_is); (case l12 => k_is); (case c12 => k_is); (case k12 => k_is); (case a13 => k_is); (case l13 => k_is); (case c13 => k_is); (case k13 => k_is)
    (case a14 => k_is); (case l14 => k_is); (case c14 => k_is); (case k14 => k_is); (case a15 => k_is); (case l15 => k_is); (case c15 => k_is); (case k15 => k_is)
    (case a16 => k_is); (case l16 => k_is); (case c16 => k_is); (case k16 => k_is); (case z_len => k_is); (case z_range => k_is); (case z_int => k_is); (case z_list => k_is)
    (case z_isinstance => k_is); (case z_str => k_is); (case z_repr => k_is); (case z_bool => k_is); (case z_tuple => k_is); (case z_sorted => k_is); (case z_min => k_is); (case z_max => k_is)
    (case z_enumerate => k_is)
#print axioms PySem.Challenge.cw_schoollands_k49_whole_rooms_and_plans_holds
