import PyProof.Rows.All
import Wide.All
import OpenK.AllK
import Wide.FinOn
import HandS.ForMost
import HandS.Evl
import HandS.Lambda
import HandS.Deep
import HandS.TupAny
import HandS.SortInts
import HandS.RaiseMore
import HandS.SetFor
import HandS.Small
import HandS.IsInst
import HandS.Rev
import HandS.RevRange
import HandS.Zip
import HandS.Gcd
import PyProof.ListIndexNeg
import HandS.WideMore
import HandS.SetBool
import HandS.Strs
import HandS.Style
import HandS.Dict
import HandS.WordsDict
import HandS.TupLen
import HandS.Nested
import KE.SortKeyHeap
import HandS.EndOwn
import KE.SortUse
import PySem.Challenge.RW_schoollands_k50_whole_plans_of_exams
set_option Elab.async false
set_option linter.all false
set_option maxRecDepth 100000
set_option maxHeartbeats 4000000
-- part TL1
/-! TL1: values as trees. Slots hold frozen trees, trees to be read, or one owned object; predicate transformers over such slots, lifted to the hand layer. -/
namespace TL
open PySem PySem.Spec L2
open Evl (Ex ex_l ex_t)

/-- the tables of code objects (for lambdas); norm: tuples stand as themselves -/
class Lay where
  T : List (Addr × Str)
  norm : Prop
variable [Lay]
abbrev D := PyData
def TpAt (K : PySem.W.Frag) (F : Hp) (a : Addr) (xs : List V) : Prop := F a = some (.tup xs) ∨ (¬ Lay.norm ∧ SqT K F a xs)
theorem TpAt.sq {K : PySem.W.Frag} {F : Hp} {a : Addr} {xs : List V} (h : TpAt K F a xs) : SqT K F a xs := h.elim Evl.st_of fun h => h.2
theorem TpAt.ext {K : PySem.W.Frag} {F F' : Hp} {a : Addr} {xs : List V} (e : Ex F F') (h : TpAt K F a xs) : TpAt K F' a xs := h.elim (fun h => .inl (e _ _ h)) fun h => .inr ⟨h.1, ex_t e h.2⟩
theorem TpAt.ex {K : PySem.W.Frag} {F : Hp} {a : Addr} {xs : List V} (hn : Lay.norm) (h : TpAt K F a xs) : F a = some (.tup xs) := h.resolve_right fun h => h.1 hn
/-- neither a table nor a code object -/
def NC (o : HO) : Prop := (∀ ps, o ≠ .tbl ps) ∧ ∀ c q, o ≠ LamX.CodeO c q
theorem nc_l {xs : List V} : NC (.lst xs) := ⟨fun _ z => (by cases z), fun c q z => (by unfold LamX.CodeO at z; cases z)⟩
theorem nc_k {xs : List (Key × V)} : NC (.dK xs) := ⟨fun _ z => (by cases z), fun c q z => (by unfold LamX.CodeO at z; cases z)⟩
theorem nc_t {xs : List (List Key × V)} : NC (.dT xs) := ⟨fun _ z => (by cases z), fun c q z => (by unfold LamX.CodeO at z; cases z)⟩
/-- the tables stand where one object alone is changed -/
theorem tabs_at {T : List (Addr × Str)} {H H' : Hp} {L : Addr} (t : LamX.Tabs T H) (n : ∀ o, H L = some o → NC o) (e : ∀ b, b ≠ L → H' b = H b) : LamX.Tabs T H' := fun p hp => by
  obtain ⟨ps, h1, h2, h3⟩ := t p hp
  refine ⟨ps, by rw [e _ fun z => (n _ (by rw [← z]; exact h1)).1 ps rfl]; exact h1, h2, fun pos cv hc => ?_⟩
  obtain ⟨c, e1, e2⟩ := h3 pos cv hc
  exact ⟨c, e1, by rw [e _ fun z => (n _ (by rw [← z]; exact e2)).2 _ _ rfl]; exact e2⟩
/-- the tables stand; none of them is frozen -/
structure TabF (F H : Hp) : Prop where
  tabs : LamX.Tabs Lay.T H
  free : ∀ p ∈ Lay.T, F p.1 = none
theorem TabF.grow {F F' H H' : Hp} (t : TabF F H) (e : ∀ b o, H b = some o → H' b = some o) (fnew : ∀ b o, F' b = some o → F b = some o ∨ H b = none) : TabF F' H' := ⟨t.tabs.ext e, fun p hp => by
  cases q : F' p.1 with
  | none => rfl
  | some o =>
    obtain ⟨ps, h1, _⟩ := t.tabs p hp
    rcases fnew _ _ q with z | z
    · rw [t.free p hp] at z; cases z
    · rw [h1] at z; cases z⟩
/-- no table -/
def NT (o : HO) : Prop := ∀ ps, o ≠ .tbl ps
theorem nt_l {xs : List V} : NT (.lst xs) := fun _ z => by cases z
theorem nt_k {xs : List (Key × V)} : NT (.dK xs) := fun _ z => by cases z
theorem nt_t {xs : List (List Key × V)} : NT (.dT xs) := fun _ z => by cases z
/-- the kind of an owned object: a list, a dict with int and text keys, a dict with tuple keys -/
inductive Kd | l | k | t
inductive Slot
  | un
  | fz (d : D)
  | rd (d : D)
  | ow (t : Option Addr) (κ : Kd) (d : D)
inductive Res
  | fz (d : D)
  | tm (κ : Kd) (d : D)
  | rd (d : D)
  | bo (i : Nat)
def kD : Key → D
  | .inl i => .int i
  | .inr x => .str x

mutual
/-- a frozen tree: its lists stand in F -/
inductive Dp (K : PySem.W.Frag) (F : Hp) : V → D → Prop
  | non : Dp K F .non .none
  | bl (b : Bool) : Dp K F (.bl b) (.bool b)
  | int (i : Int) : Dp K F (.int i) (.int i)
  | str (x : Str) : Dp K F (.str x) (.str x)
  | lst {a : Addr} {xs : List V} {ds : List D} : Rd F a (.lst xs) → DpAll K F xs ds → Dp K F (.ref a) (.list ds)
  | tup {a : Addr} {xs : List V} {ds : List D} : TpAt K F a xs → DpAll K F xs ds → Dp K F (.ref a) (.tuple ds)
  /-- the script, a thing of its own -/
  | scr {a : Addr} {ns : List Int} : SqL K F a (ns.map V.int) → Dp K F (.ref a) (.dict [(.list (ns.map .int), .none)])
inductive DpAll (K : PySem.W.Frag) (F : Hp) : List V → List D → Prop
  | nil : DpAll K F [] []
  | cons {v : V} {vs : List V} {d : D} {ds : List D} : Dp K F v d → DpAll K F vs ds → DpAll K F (v :: vs) (d :: ds)
end
section
variable {K : PySem.W.Frag} {F F' H H' : Hp}
theorem rd_ex {a : Addr} {u : HO} (e : Ex F F') (h : Rd F a u) : Rd F' a u := h.elim (fun h => .inl (e _ _ h)) fun ⟨o, h⟩ => .inr ⟨o, e _ _ h⟩
mutual
theorem dp_mono (e : Ex F F') : ∀ {v : V} {d : D}, Dp K F v d → Dp K F' v d
  | _, _, .non => .non
  | _, _, .bl b => .bl b
  | _, _, .int i => .int i
  | _, _, .str x => .str x
  | _, _, .lst h hs => .lst (rd_ex e h) (dpAll_mono e hs)
  | _, _, .tup h hs => .tup (h.ext e) (dpAll_mono e hs)
  | _, _, .scr h => .scr (ex_l e h)
theorem dpAll_mono (e : Ex F F') : ∀ {vs : List V} {ds : List D}, DpAll K F vs ds → DpAll K F' vs ds
  | _, _, .nil => .nil
  | _, _, .cons h hs => .cons (dp_mono e h) (dpAll_mono e hs)
end
mutual
theorem dp_l2 (e : Ex F H) : ∀ {v : V} {d : D}, Dp K F v d → d.canLay0 = true → L2.Dp K H v d
  | _, _, .non, _ => .non
  | _, _, .bl b, _ => .bl b
  | _, _, .int i, _ => .int i
  | _, _, .str x, _ => .str x
  | _, _, .lst h hs, c => .lst (.inl (rd_ex e h)) (dpAll_l2 e hs (by simpa [PyData.canLay0] using c))
  | _, _, .tup h hs, c => .tup (ex_t e h.sq) (dpAll_l2 e hs (by simpa [PyData.canLay0] using c))
  | _, _, .scr h, c => by simp [PyData.canLay0] at c
theorem dpAll_l2 (e : Ex F H) : ∀ {vs : List V} {ds : List D}, DpAll K F vs ds → PyData.canLayAll0 ds = true → L2.DpAll K H vs ds
  | _, _, .nil, _ => .nil
  | _, d :: ds, .cons h hs, c => by
    have c' : d.canLay0 = true ∧ PyData.canLayAll0 ds = true := by simpa [PyData.canLayAll0] using c
    exact .cons (dp_l2 e h c'.1) (dpAll_l2 e hs c'.2)
end
theorem dpAll_len : ∀ {vs : List V} {ds : List D}, DpAll K F vs ds → vs.length = ds.length
  | _, _, .nil => rfl
  | _, _, .cons _ h => by simp [dpAll_len h]
theorem dpAll_get : ∀ {vs : List V} {ds : List D} {i : Nat} {v : V}, DpAll K F vs ds → vs[i]? = some v → ∃ d, ds[i]? = some d ∧ Dp K F v d
  | _, _, i, v, .nil, e => by simp at e
  | _, _, 0, v, .cons h _, e => by simp at e; subst e; exact ⟨_, rfl, h⟩
  | _, _, i + 1, v, .cons _ h, e => by
    obtain ⟨d, h1, h2⟩ := dpAll_get (i := i) (v := v) h (by simpa using e)
    exact ⟨d, by simpa using h1, h2⟩
theorem dpAll_get' : ∀ {vs : List V} {ds : List D} {i : Nat} {d : D}, DpAll K F vs ds → ds[i]? = some d → ∃ v, vs[i]? = some v ∧ Dp K F v d
  | _, _, i, v, .nil, e => by simp at e
  | _, _, 0, v, .cons h _, e => by simp at e; subst e; exact ⟨_, rfl, h⟩
  | _, _, i + 1, v, .cons _ h, e => by
    obtain ⟨d, h1, h2⟩ := dpAll_get' (i := i) (d := v) h (by simpa using e)
    exact ⟨d, by simpa using h1, h2⟩
theorem dpAll_app : ∀ {vs ws : List V} {ds es : List D}, DpAll K F vs ds → DpAll K F ws es → DpAll K F (vs ++ ws) (ds ++ es)
  | _, _, _, _, .nil, h => h
  | _, _, _, _, .cons h hs, g => .cons h (dpAll_app hs g)
theorem dpAll_ints : ∀ {vs : List V} {ns : List Int}, DpAll K F vs (ns.map .int) → vs = ns.map .int
  | _, [], .nil => rfl
  | _, n :: ns, .cons h hs => by cases h; rw [dpAll_ints hs]; rfl
theorem dpAll_strs : ∀ {vs : List V} {ns : List Str}, DpAll K F vs (ns.map .str) → vs = ns.map .str
  | _, [], .nil => rfl
  | _, n :: ns, .cons h hs => by cases h; rw [dpAll_strs hs]; rfl
theorem dpAll_ints_mk : ∀ ns : List Int, DpAll K F (ns.map .int) (ns.map .int)
  | [] => .nil
  | n :: ns => .cons (.int n) (dpAll_ints_mk ns)
theorem dpAll_strs_mk : ∀ ns : List Str, DpAll K F (ns.map .str) (ns.map .str)
  | [] => .nil
  | n :: ns => .cons (.str n) (dpAll_strs_mk ns)
end
/-- b is owned by a slot -/
def OA (σ : L2.St) (ρ : List Slot) (b : Addr) : Prop := ∃ (i : Nat) (t : Option Addr) (κ : Kd) (d : D), ρ[i]? = some (.ow t κ d) ∧ σ[i]? = some (some (.ref b))
section
variable (K : PySem.W.Frag)
def OwAt (F H : Hp) (κ : Kd) (a : Addr) (d : D) : Prop := match κ with
  | .l => ∃ xs ds, d = .list ds ∧ H a = some (.lst xs) ∧ DpAll K F xs ds
  | .k => ∃ kvs ps, d = .dict ps ∧ H a = some (.dK kvs) ∧ Paired (fun (p : Key × V) (q : D × D) => q.1 = kD p.1 ∧ Dp K F p.2 q.2) kvs ps
  | .t => ∃ kvs ps, d = .dict ps ∧ H a = some (.dT kvs) ∧ Paired (fun (p : List Key × V) (q : D × D) => q.1 = .tuple (p.1.map kD) ∧ Dp K F p.2 q.2) kvs ps
def RdAt (F H : Hp) (v : V) (d : D) : Prop := Dp K F v d ∨ ∃ κ a, v = .ref a ∧ OwAt K F H κ a d
/-- .. and no slot owns it -/
def RdN (F H : Hp) (O : Addr → Prop) (v : V) (d : D) : Prop := Dp K F v d ∨ ∃ κ a, v = .ref a ∧ OwAt K F H κ a d ∧ ¬ O a
structure Sta (F H : Hp) (σ : L2.St) (ρ : List Slot) : Prop where
  sub : Ex F H
  len : σ.length = ρ.length
  fz : ∀ (i : Nat) (d : D), ρ[i]? = some (.fz d) → ∃ v, σ[i]? = some (some v) ∧ Dp K F v d
  rd : ∀ (i : Nat) (d : D), ρ[i]? = some (.rd d) → ∃ v, σ[i]? = some (some v) ∧ RdN K F H (OA σ ρ) v d
  ow : ∀ (i : Nat) (t : Option Addr) (κ : Kd) (d : D), ρ[i]? = some (.ow t κ d) → ∃ a, σ[i]? = some (some (.ref a)) ∧ OwAt K F H κ a d ∧ F a = none ∧ ∀ b, t = some b → b = a
  inj : ∀ (i j : Nat) (t t' : Option Addr) (κ κ' : Kd) (d d' : D) (a : Addr), ρ[i]? = some (.ow t κ d) → ρ[j]? = some (.ow t' κ' d') → σ[i]? = some (some (.ref a)) → σ[j]? = some (some (.ref a)) → i = j
  tab : TabF F H
end
/-- what a piece of code may change -/
structure Tr (F H : Hp) (σ : L2.St) (ρ : List Slot) (F' H' : Hp) (σ' : L2.St) (ρ' : List Slot) : Prop where
  fext : Ex F F'
  keep : ∀ b o, H b = some o → NT o → ¬ OA σ ρ b → H' b = some o
  there : ∀ b o, H b = some o → ∃ o', H' b = some o'
  own : ∀ b, OA σ' ρ' b → OA σ ρ b ∨ H b = none
  fnew : ∀ b o, F' b = some o → F b = some o ∨ H b = none ∨ OA σ ρ b
section
variable {K : PySem.W.Frag} {F F' F1 F2 H H' H1 H2 : Hp} {σ σ' σ1 σ2 : L2.St} {ρ ρ' ρ1 ρ2 : List Slot}
theorem Tr.refl : Tr F H σ ρ F H σ ρ := ⟨Ex.refl F, fun _ _ h _ _ => h, fun _ o h => ⟨o, h⟩, fun _ h => .inl h, fun _ _ h => .inl h⟩
theorem Tr.trans (a : Tr F H σ ρ F1 H1 σ1 ρ1) (b : Tr F1 H1 σ1 ρ1 F2 H2 σ2 ρ2) : Tr F H σ ρ F2 H2 σ2 ρ2 := by
  have nn : ∀ c, H1 c = none → H c = none := fun c h => by
    cases e : H c with
    | none => rfl
    | some o =>
      obtain ⟨o', h'⟩ := a.there c o e
      rw [h] at h'; cases h'
  refine ⟨a.fext.trans b.fext, fun c o h nt n => ?_, fun c o h => ?_, fun c h => ?_, fun c o h => ?_⟩
  · refine b.keep c o (a.keep c o h nt n) nt fun z => ?_
    rcases a.own c z with y | y
    · exact n y
    · rw [h] at y; cases y
  · obtain ⟨o', h'⟩ := a.there c o h
    exact b.there c o' h'
  · rcases b.own c h with y | y
    · exact a.own c y
    · exact .inr (nn c y)
  · rcases b.fnew c o h with y | y | y
    · exact a.fnew c o y
    · exact .inr (.inl (nn c y))
    · rcases a.own c y with z | z
      · exact .inr (.inr z)
      · exact .inr (.inl z)
theorem Tr.none (a : Tr F H σ ρ F1 H1 σ1 ρ1) {c : Addr} (h : H1 c = none) : H c = none := by
  cases e : H c with
  | none => rfl
  | some o =>
    obtain ⟨o', h'⟩ := a.there c o e
    rw [h] at h'; cases h'
/-- what an expression may change: the names stand for what they stood for -/
structure TrX (F H : Hp) (σ : L2.St) (ρ : List Slot) (F' H' : Hp) (ρ' : List Slot) : Prop extends Tr F H σ ρ F' H' σ ρ' where
  slow : ∀ (i : Nat) (t : Option Addr) (κ : Kd) (d : D), ρ'[i]? = some (.ow t κ d) → ∃ d0, ρ[i]? = some (.ow t κ d0)
  slrd : ∀ (i : Nat) (d : D), ρ'[i]? = some (.rd d) → ρ[i]? = some (.rd d) ∨ ∃ t κ d0, ρ[i]? = some (.ow t κ d0)
instance : Coe (TrX F H σ ρ F' H' ρ') (Tr F H σ ρ F' H' σ ρ') := ⟨TrX.toTr⟩
theorem TrX.refl : TrX F H σ ρ F H ρ := ⟨Tr.refl, fun _ _ _ d h => ⟨d, h⟩, fun _ _ h => .inl h⟩
theorem TrX.trans (a : TrX F H σ ρ F1 H1 ρ1) (b : TrX F1 H1 σ ρ1 F2 H2 ρ2) : TrX F H σ ρ F2 H2 ρ2 := by
  refine ⟨a.toTr.trans b.toTr, fun i t κ d h => ?_, fun i d h => ?_⟩
  · obtain ⟨d1, h1⟩ := b.slow i t κ d h
    exact a.slow i t κ d1 h1
  · rcases b.slrd i d h with h1 | ⟨t, κ, d1, h1⟩
    · exact a.slrd i d h1
    · obtain ⟨d2, h2⟩ := a.slow i t κ d1 h1
      exact .inr ⟨t, κ, d2, h2⟩
theorem TrX.none (a : TrX F H σ ρ F1 H1 ρ1) {c : Addr} (h : H1 c = none) : H c = none := a.toTr.none h
theorem OwAt.some {κ : Kd} {a : Addr} {d : D} (h : OwAt K F H κ a d) : ∃ o, H a = some o := by
  cases κ with
  | l => obtain ⟨_, _, _, e, _⟩ := h; exact ⟨_, e⟩
  | k => obtain ⟨_, _, _, e, _⟩ := h; exact ⟨_, e⟩
  | t => obtain ⟨_, _, _, e, _⟩ := h; exact ⟨_, e⟩
theorem OwAt.nc {κ : Kd} {a : Addr} {d : D} (h : OwAt K F H κ a d) : ∀ o, H a = .some o → NC o := fun o e => by
  cases κ with
  | l => obtain ⟨_, _, _, q, _⟩ := h; rw [q] at e; cases e; exact nc_l
  | k => obtain ⟨_, _, _, q, _⟩ := h; rw [q] at e; cases e; exact nc_k
  | t => obtain ⟨_, _, _, q, _⟩ := h; rw [q] at e; cases e; exact nc_t
theorem OwAt.mono {κ : Kd} {a : Addr} {d : D} (h : OwAt K F H κ a d) (e : Ex F F') (k : ∀ o, NT o → H a = .some o → H' a = .some o) : OwAt K F' H' κ a d := by
  cases κ with
  | l => obtain ⟨xs, ds, rfl, q, r⟩ := h; exact ⟨xs, ds, rfl, k _ nt_l q, dpAll_mono e r⟩
  | k => obtain ⟨xs, ds, rfl, q, r⟩ := h; exact ⟨xs, ds, rfl, k _ nt_k q, Paired.mapP r fun _ _ z => ⟨z.1, dp_mono e z.2⟩⟩
  | t => obtain ⟨xs, ds, rfl, q, r⟩ := h; exact ⟨xs, ds, rfl, k _ nt_t q, Paired.mapP r fun _ _ z => ⟨z.1, dp_mono e z.2⟩⟩
theorem RdAt.mono {v : V} {d : D} (h : RdAt K F H v d) (e : Ex F F') (k : ∀ a o, NT o → v = .ref a → H a = .some o → H' a = .some o) : RdAt K F' H' v d := by
  rcases h with h | ⟨κ, a, rfl, h⟩
  · exact .inl (dp_mono e h)
  · exact .inr ⟨κ, a, rfl, h.mono e fun o nt q => k a o nt rfl q⟩
theorem RdN.at {O : Addr → Prop} {v : V} {d : D} (h : RdN K F H O v d) : RdAt K F H v d := by
  rcases h with h | ⟨κ, a, e, h, _⟩
  · exact .inl h
  · exact .inr ⟨κ, a, e, h⟩
theorem RdN.later {v : V} {d : D} (h : RdN K F1 H1 (OA σ1 ρ1) v d) (t : Tr F1 H1 σ1 ρ1 F2 H2 σ2 ρ2) : RdN K F2 H2 (OA σ2 ρ2) v d := by
  rcases h with h | ⟨κ, a, e, h, n⟩
  · exact .inl (dp_mono t.fext h)
  · obtain ⟨o, e'⟩ := h.some
    refine .inr ⟨κ, a, e, h.mono t.fext fun o nt q => t.keep _ _ q nt n, fun z => ?_⟩
    rcases t.own a z with y | y
    · exact n y
    · rw [e'] at y; cases y

section
variable (K)
/-- a result lies at v; H0: the heap ahead of its making -/
def Fits (F H : Hp) (σ : L2.St) (ρ : List Slot) (H0 : Hp) (v : V) : Res → Prop
  | .fz d => Dp K F v d
  | .tm κ d => ∃ a, v = .ref a ∧ OwAt K F H κ a d ∧ F a = none ∧ ¬ OA σ ρ a ∧ H0 a = none
  | .rd d => RdN K F H (OA σ ρ) v d
  | .bo i => σ[i]? = some (some v)
end
theorem Fits.later {H0 : Hp} {v : V} {r : Res} (f : Fits K F1 H1 σ ρ1 H0 v r) (t : Tr F1 H1 σ ρ1 F2 H2 σ ρ2) : Fits K F2 H2 σ ρ2 H0 v r := by
  cases r with
  | fz d => exact dp_mono t.fext f
  | tm κ d =>
    obtain ⟨a, rfl, h, hn, ho, h0⟩ := f
    obtain ⟨o, e⟩ := h.some
    refine ⟨a, rfl, h.mono t.fext fun o nt q => t.keep _ _ q nt ho, ?_, fun z => ?_, h0⟩
    · cases q : F2 a with
      | none => rfl
      | some u =>
        rcases t.fnew a u q with y | y | y
        · rw [hn] at y; cases y
        · rw [e] at y; cases y
        · exact absurd y ho
    · rcases t.own a z with y | y
      · exact ho y
      · rw [e] at y; cases y
  | rd d => exact RdN.later f t
  | bo i => exact f
end
end TL

-- part TL2
/-! TL2: transformers over slots, lifted; expressions, tests, small statements. -/
namespace TL
open PySem PySem.Spec L2
open Evl (Ex ex_l ex_t)
variable [Lay]

abbrev DTE := List Slot → (Res → List Slot → Prop) → Prop
abbrev DTT := List Slot → (Bool → List Slot → Prop) → Prop
abbrev DTA := List Slot → (List Res → List Slot → Prop) → Prop
structure DEnds where
  nx : List Slot → Prop
  rt : Res → List Slot → Prop
  bk : List Slot → Prop := fun _ => False
  ct : List Slot → Prop := fun _ => False
abbrev DTS := DEnds → List Slot → Prop
/-- the content of a result -/
@[simp] def wc (r : Res) (ρ : List Slot) (k : D → Prop) : Prop := match r with
  | .fz d => k d
  | .tm _ d => k d
  | .rd d => k d
  | .bo i => match ρ[i]? with
    | some (.ow _ _ d) => k d
    | some (.fz d) => k d
    | _ => False
section
variable (K : PySem.W.Frag)
def FitsAll (F H : Hp) (σ : L2.St) (ρ : List Slot) (H0 : Hp) : List V → List Res → Prop
  | [], [] => True
  | v :: vs, r :: rs => Fits K F H σ ρ H0 v r ∧ FitsAll F H σ ρ H0 vs rs
  | _, _ => False
def up (d : DTE) : TE := fun σ H Q => ∃ F ρ k, Sta K F H σ ρ ∧ d ρ k ∧ ∀ r ρ' v F' H', k r ρ' → Sta K F' H' σ ρ' → TrX F H σ ρ F' H' ρ' → Fits K F' H' σ ρ' H v r → Q v H'
def upT (d : DTT) : TT := fun σ H Q => ∃ F ρ k, Sta K F H σ ρ ∧ d ρ k ∧ ∀ b ρ' F' H', k b ρ' → Sta K F' H' σ ρ' → TrX F H σ ρ F' H' ρ' → Q b H'
def upA (d : DTA) : TA := fun σ H Q => ∃ F ρ k, Sta K F H σ ρ ∧ d ρ k ∧ ∀ rs ρ' vs F' H', k rs ρ' → Sta K F' H' σ ρ' → TrX F H σ ρ F' H' ρ' → FitsAll K F' H' σ ρ' H vs rs → Q vs H'
def upS (d : DTS) : TS := fun E σ H => ∃ F ρ G, Sta K F H σ ρ ∧ d G ρ ∧
  (∀ σ' ρ' F' H', G.nx ρ' → Sta K F' H' σ' ρ' → Tr F H σ ρ F' H' σ' ρ' → E.nx σ' H') ∧
  (∀ r σ' ρ' v F' H', G.rt r ρ' → Sta K F' H' σ' ρ' → Tr F H σ ρ F' H' σ' ρ' → Fits K F' H' σ' ρ' H v r → E.rt v H') ∧
  (∀ σ' ρ' F' H', G.bk ρ' → Sta K F' H' σ' ρ' → Tr F H σ ρ F' H' σ' ρ' → E.bk σ' H') ∧
  (∀ σ' ρ' F' H', G.ct ρ' → Sta K F' H' σ' ρ' → Tr F H σ ρ F' H' σ' ρ' → E.ct σ' H')
end
def DE (X : Cx) (e : Expr) (d : DTE) : Prop := PE X e (up X.K d)
def DT (X : Cx) (e : Expr) (d : DTT) : Prop := PT X e (upT X.K d)
def DW (X : Cx) (e : Expr) (d : DTT) : Prop := PW X e (upT X.K d)
def DA (X : Cx) (es : List Expr) (d : DTA) : Prop := PA X es (upA X.K d)
def DS (X : Cx) (st : Stmt) (d : DTS) : Prop := PS X st (upS X.K d)
def DSs (X : Cx) (st : List Stmt) (d : DTS) : Prop := PSs X st (upS X.K d)

section
variable {X : Cx} {a b c e : Expr} {pos : Pos}
theorem PE.le {t u : TE} (h : PE X e t) (w : ∀ σ H Q, u σ H Q → t σ H Q) : PE X e u := ⟨fun pins s σ H Q I q => h.run pins s σ H Q I (w _ _ _ q)⟩
theorem PT.le {t u : TT} (h : PT X e t) (w : ∀ σ H Q, u σ H Q → t σ H Q) : PT X e u := ⟨fun pins s σ H Q I q => h.run pins s σ H Q I (w _ _ _ q)⟩
theorem PW.le {t u : TT} (h : PW X e t) (w : ∀ σ H Q, u σ H Q → t σ H Q) : PW X e u := ⟨fun wh pins s σ H Q I q => h.run wh pins s σ H Q I (w _ _ _ q)⟩
theorem PA.le {es : List Expr} {t u : TA} (h : PA X es t) (w : ∀ σ H Q, u σ H Q → t σ H Q) : PA X es u := ⟨fun po pins s σ H Q I q => h.run po pins s σ H Q I (w _ _ _ q)⟩
theorem PS.le {st : Stmt} {t u : TS} (h : PS X st t) (w : ∀ E σ H, u E σ H → t E σ H) : PS X st u := ⟨fun pins s σ H E I q => h.run pins s σ H E I (w _ _ _ q)⟩
theorem PSs.le {st : List Stmt} {t u : TS} (h : PSs X st t) (w : ∀ E σ H, u E σ H → t E σ H) : PSs X st u := ⟨fun pins s σ H E I q => h.run pins s σ H E I (w _ _ _ q)⟩
end

section
variable {K : PySem.W.Frag} {F F' F1 F2 H H' H0 H1 H2 : Hp} {σ σ' σ1 σ2 : L2.St} {ρ ρ' ρ1 ρ2 : List Slot}
theorem wc_rd {v : V} {r : Res} {k : D → Prop} (S : Sta K F H σ ρ) (f : Fits K F H σ ρ H0 v r) (h : wc r ρ k) : ∃ d, RdAt K F H v d ∧ k d := by
  cases r with
  | fz d => exact ⟨d, .inl f, h⟩
  | tm κ d =>
    obtain ⟨a, rfl, q, _⟩ := f
    exact ⟨d, .inr ⟨κ, a, rfl, q⟩, h⟩
  | rd d => exact ⟨d, RdN.at f, h⟩
  | bo i =>
    have f : σ[i]? = some (some v) := f
    unfold wc at h
    simp only at h
    split at h
    · rename_i t κ d e
      obtain ⟨a, e1, q, _⟩ := S.ow i t κ d e
      rw [f] at e1
      cases e1
      exact ⟨d, .inr ⟨κ, a, rfl, q⟩, h⟩
    · rename_i d e
      obtain ⟨v', e1, q⟩ := S.fz i d e
      rw [f] at e1
      cases e1
      exact ⟨d, .inl q, h⟩
    · exact h.elim
theorem FitsAll.later {vs : List V} : ∀ {rs : List Res}, FitsAll K F1 H1 σ ρ1 H0 vs rs → Tr F1 H1 σ ρ1 F2 H2 σ ρ2 → FitsAll K F2 H2 σ ρ2 H0 vs rs := by
  induction vs with
  | nil => intro rs h t; cases rs with
    | nil => exact h
    | cons => exact h
  | cons v vs ih => intro rs h t; cases rs with
    | nil => exact h
    | cons r rs => exact ⟨h.1.later t, ih h.2 t⟩
/-- fits relative to an earlier heap -/
theorem Fits.back {v : V} {r : Res} (f : Fits K F2 H2 σ ρ2 H1 v r) (t : ∀ c, H1 c = none → H0 c = none) : Fits K F2 H2 σ ρ2 H0 v r := by
  cases r with
  | fz d => exact f
  | tm κ d => obtain ⟨a, e, h, n, o, z⟩ := f; exact ⟨a, e, h, n, o, t _ z⟩
  | rd d => exact f
  | bo i => exact f
theorem FitsAll.back {vs : List V} : ∀ {rs : List Res}, FitsAll K F2 H2 σ ρ2 H1 vs rs → (∀ c, H1 c = none → H0 c = none) → FitsAll K F2 H2 σ ρ2 H0 vs rs := by
  induction vs with
  | nil => intro rs h t; cases rs with
    | nil => exact h
    | cons => exact h
  | cons v vs ih => intro rs h t; cases rs with
    | nil => exact h
    | cons r rs => exact ⟨h.1.back t, ih h.2 t⟩
end

/-! ### operations on contents -/
section
variable (K : PySem.W.Frag)
/-- what an operation makes: nothing that stood is changed -/
structure New (F H F' H' : Hp) (v : V) (z : Res) : Prop where
  fext : Ex F F'
  hext : Ex H H'
  sub : Ex F' H'
  fnew : ∀ b o, F' b = some o → F b = some o ∨ H b = none
  fit : match z with
    | .fz d => Dp K F' v d
    | .tm κ d => ∃ a, v = .ref a ∧ OwAt K F' H' κ a d ∧ F' a = none ∧ H a = none
    | _ => False
def r2 (g : D → D → (Res → Prop) → Prop) : R2 := fun x y H Q => ∃ F dx dy k, Ex F H ∧ RdAt K F H x dx ∧ RdAt K F H y dy ∧ g dx dy k ∧ ∀ z v F' H', k z → New K F H F' H' v z → Q v H'
def r1 (g : D → (Res → Prop) → Prop) : V → Hp → VK → Prop := fun x H Q => ∃ F dx k, Ex F H ∧ RdAt K F H x dx ∧ g dx k ∧ ∀ z v F' H', k z → New K F H F' H' v z → Q v H'
inductive RdAll (F H : Hp) : List V → List D → Prop
  | nil : RdAll F H [] []
  | cons {v vs d ds} : RdAt K F H v d → RdAll F H vs ds → RdAll F H (v :: vs) (d :: ds)
def rn (g : List D → (Res → Prop) → Prop) : List V → Hp → VK → Prop := fun xs H Q => ∃ F ds k, Ex F H ∧ RdAll K F H xs ds ∧ g ds k ∧ ∀ z v F' H', k z → New K F H F' H' v z → Q v H'
def rm (g : D → List D → (Res → Prop) → Prop) : V → List V → Hp → VK → Prop := fun x xs H Q => ∃ F d ds k, Ex F H ∧ RdAt K F H x d ∧ RdAll K F H xs ds ∧ g d ds k ∧ ∀ z v F' H', k z → New K F H F' H' v z → Q v H'
end
section
variable {K : PySem.W.Frag} {F F' F1 F2 H H' H0 H1 H2 : Hp} {σ σ' σ1 σ2 : L2.St} {ρ ρ' ρ1 ρ2 : List Slot}
theorem New.tr {v : V} {z : Res} (n : New K F H F' H' v z) : TrX F H σ ρ F' H' ρ :=
  ⟨⟨n.fext, fun b o h _ _ => n.hext b o h, fun b o h => ⟨o, n.hext b o h⟩, fun _ h => .inl h, fun b o h => (n.fnew b o h).imp id .inl⟩, fun _ _ _ d h => ⟨d, h⟩, fun _ _ h => .inl h⟩
theorem Sta.grow {F' H' : Hp} (S : Sta K F H σ ρ) (fext : Ex F F') (hext : Ex H H') (sub : Ex F' H') (fnew : ∀ b o, F' b = some o → F b = some o ∨ H b = none) : Sta K F' H' σ ρ := by
  refine ⟨sub, S.len, fun i d e => ?_, fun i d e => ?_, fun i t κ d e => ?_, S.inj, S.tab.grow hext fnew⟩
  · obtain ⟨v, q, r⟩ := S.fz i d e
    exact ⟨v, q, dp_mono fext r⟩
  · obtain ⟨v, q, r⟩ := S.rd i d e
    refine ⟨v, q, ?_⟩
    rcases r with r | ⟨κ, a, e', r, n⟩
    · exact .inl (dp_mono fext r)
    · exact .inr ⟨κ, a, e', r.mono fext fun o _ q => hext _ _ q, n⟩
  · obtain ⟨a, q, r, n, tt⟩ := S.ow i t κ d e
    refine ⟨a, q, r.mono fext fun o _ q => hext _ _ q, ?_, tt⟩
    obtain ⟨o, ho⟩ := r.some
    cases q' : F' a with
    | none => rfl
    | some u =>
      rcases fnew a u q' with y | y
      · rw [n] at y; cases y
      · rw [ho] at y; cases y
theorem New.sta {v : V} {z : Res} (n : New K F H F' H' v z) (S : Sta K F H σ ρ) : Sta K F' H' σ ρ := S.grow n.fext n.hext n.sub n.fnew
theorem New.fits {v : V} {z : Res} (n : New K F H F' H' v z) (S : Sta K F H σ ρ) (h0 : ∀ c, H c = none → H0 c = none) : Fits K F' H' σ ρ H0 v z := by
  have f := n.fit
  cases z with
  | fz d => exact f
  | tm κ d =>
    obtain ⟨a, e, q, r, s⟩ := f
    refine ⟨a, e, q, r, fun ⟨i, t, κ', d', h1, h2⟩ => ?_, h0 a s⟩
    obtain ⟨a', e1, q1, _⟩ := S.ow i t κ' d' h1
    rw [h2] at e1
    cases e1
    obtain ⟨o, ho⟩ := q1.some
    rw [s] at ho
    cases ho
  | rd d => exact f.elim
  | bo i => exact f.elim
/-- nothing new but a value -/
theorem New.val {v : V} {d : D} (s : Ex F H) (f : Dp K F v d) : New K F H F H v (.fz d) := ⟨Ex.refl F, Ex.refl H, s, fun _ _ h => .inl h, f⟩
/-- a new owned list -/
theorem New.list {p : Addr} {xs : List V} {ds : List D} (s : Ex F H) (hp : H p = none) (f : DpAll K F xs ds) : New K F H F (upd H p (.lst xs)) (.ref p) (.tm .l (.list ds)) := by
  have fp : F p = none := by
    cases e : F p with
    | none => rfl
    | some o => rw [s p o e] at hp; cases hp
  exact ⟨Ex.refl F, Ex.new hp, s.trans (Ex.new hp), fun _ _ h => .inl h, p, rfl, ⟨xs, ds, rfl, upd_same, f⟩, fp, hp⟩
/-- a new frozen tuple -/
theorem New.tuple {p : Addr} {xs : List V} {ds : List D} (s : Ex F H) (hp : H p = none) (f : DpAll K F xs ds) : New K F H (upd F p (.tup xs)) (upd H p (.tup xs)) (.ref p) (.fz (.tuple ds)) := by
  have fp : F p = none := by
    cases e : F p with
    | none => rfl
    | some o => rw [s p o e] at hp; cases hp
  refine ⟨Ex.new fp, Ex.new hp, fun b o h => ?_, fun b o h => ?_, .tup (.inl upd_same) (dpAll_mono (Ex.new fp) f)⟩
  · by_cases e : b = p
    · subst e; rw [upd_same] at h ⊢; exact h
    · rw [upd_ne e] at h ⊢; exact s b o h
  · by_cases e : b = p
    · subst e; exact .inr hp
    · rw [upd_ne e] at h; exact .inl h
end

/-! ### expressions -/
@[simp] def dName (i : Nat) : DTE := fun ρ k => match ρ[i]? with
  | some (.fz d) => k (.fz d) ρ
  | some (.rd d) => k (.rd d) ρ
  | some (.ow _ _ _) => k (.bo i) ρ
  | _ => False
@[simp] def dC (d : D) : DTE := fun ρ k => k (.fz d) ρ
@[simp] def dBin (g : D → D → (Res → Prop) → Prop) (da db : DTE) : DTE := fun ρ k => da ρ fun x ρ1 => db ρ1 fun y ρ2 => wc x ρ2 fun dx => wc y ρ2 fun dy => g dx dy fun z => k z ρ2
@[simp] def dUn (g : D → (Res → Prop) → Prop) (da : DTE) : DTE := fun ρ k => da ρ fun x ρ1 => wc x ρ1 fun dx => g dx fun z => k z ρ1
@[simp] def dTest (d : DTE) : DTT := fun ρ k => d ρ fun r ρ1 => match r with
  | .fz (.bool b) => k b ρ1
  | _ => False
@[simp] def dAnd (t u : DTT) : DTT := fun ρ k => t ρ fun b ρ1 => if b = true then u ρ1 k else k false ρ1
@[simp] def dOr (t u : DTT) : DTT := fun ρ k => t ρ fun b ρ1 => if b = true then k true ρ1 else u ρ1 k
@[simp] def dNot (t : DTT) : DTT := fun ρ k => t ρ fun b ρ1 => k (!b) ρ1
/-- and, or, not as values that are bools -/
@[simp] def dAndV (da db : DTE) : DTE := fun ρ k => dTest da ρ fun b ρ1 => if b = true then db ρ1 k else k (.fz (.bool false)) ρ1
@[simp] def dOrV (da db : DTE) : DTE := fun ρ k => dTest da ρ fun b ρ1 => if b = true then k (.fz (.bool true)) ρ1 else db ρ1 k
@[simp] def dNotV (da : DTE) : DTE := fun ρ k => dTest da ρ fun b ρ1 => k (.fz (.bool !b)) ρ1
@[simp] def dIf (t : DTT) (da db : DTE) : DTE := fun ρ k => t ρ fun b ρ1 => if b = true then da ρ1 k else db ρ1 k
@[simp] def dChain (g g' : D → D → (Res → Prop) → Prop) (da db dc : DTE) : DTE := fun ρ k => da ρ fun x ρ1 => db ρ1 fun y ρ2 => wc x ρ2 fun dx => wc y ρ2 fun dy => g dx dy fun z => match z with
  | .fz (.bool b) => if b = true then dc ρ2 (fun w ρ3 => wc y ρ3 fun dy => wc w ρ3 fun dw => g' dy dw fun z => k z ρ3) else k (.fz (.bool false)) ρ2
  | _ => False
@[simp] def dNil : DTA := fun ρ k => k [] ρ
@[simp] def dCons (da : DTE) (dr : DTA) : DTA := fun ρ k => da ρ fun x ρ1 => dr ρ1 fun xs ρ2 => k (x :: xs) ρ2
@[simp] def isN (d : D) : Bool := match d with | .none => true | _ => false
@[simp] def gIsN (d : D) (k : Res → Prop) : Prop := k (.fz (.bool (isN d)))
@[simp] def gNotN (d : D) (k : Res → Prop) : Prop := k (.fz (.bool (!isN d)))

section
variable {X : Cx} {a b c e : Expr} {es : List Expr} {pos : Pos} {da db dc : DTE} {ta tb : DTT}
theorem de_name {x : Str} {i : Nat} (h : PE X (.Name x pos) (tVar i)) : DE X (.Name x pos) (dName i) := PE.le h fun σ H Q ⟨F, ρ, k, S, q, fin⟩ => by
  unfold dName at q
  split at q
  · rename_i d e
    obtain ⟨v, e1, r⟩ := S.fz i d e
    exact ⟨v, e1, fin _ _ v F H q S .refl r⟩
  · rename_i d e
    obtain ⟨v, e1, r⟩ := S.rd i d e
    exact ⟨v, e1, fin _ _ v F H q S .refl r⟩
  · rename_i t κ d e
    obtain ⟨a, e1, r⟩ := S.ow i t κ d e
    exact ⟨.ref a, e1, fin _ _ _ F H q S .refl e1⟩
  · exact q.elim
theorem de_c {v : V} {d : D} (h : PE X e (tC v)) (hv : ∀ K F, Dp K F v d) : DE X e (dC d) := PE.le h fun σ H Q ⟨F, ρ, k, S, q, fin⟩ =>
  fin _ _ v F H q S .refl (hv _ _)
theorem de_int {i : Int} {j : Nat} : DE X (.Constant (.int i) j pos) (dC (.int i)) := de_c pe_int fun _ _ => .int i
theorem de_bl {i : Bool} {j : Nat} : DE X (.Constant (.bool i) j pos) (dC (.bool i)) := de_c pe_bl fun _ _ => .bl i
theorem de_str {i : Str} {j : Nat} : DE X (.Constant (.str i) j pos) (dC (.str i)) := de_c pe_str fun _ _ => .str i
theorem de_non {j : Nat} : DE X (.Constant .none j pos) (dC .none) := de_c pe_non fun _ _ => .non
/-- two in a row -/
theorem up2 {K : PySem.W.Frag} {σ : L2.St} {H : Hp} {R : V → V → Hp → Prop} {F : Hp} {ρ : List Slot} {k : Res → Res → List Slot → Prop} (S : Sta K F H σ ρ) (h : da ρ fun x ρ1 => db ρ1 fun y ρ2 => k x y ρ2)
    (fin : ∀ x y ρ' v u F' H', k x y ρ' → Sta K F' H' σ ρ' → TrX F H σ ρ F' H' ρ' → Fits K F' H' σ ρ' H v x → Fits K F' H' σ ρ' H u y → R v u H') :
    up K da σ H fun x H1 => up K db σ H1 fun y H2 => R x y H2 :=
  ⟨F, ρ, _, S, h, fun x ρ1 v F1 H1 q1 S1 T1 f1 => ⟨F1, ρ1, _, S1, q1, fun y ρ2 u F2 H2 q2 S2 T2 f2 =>
    fin x y ρ2 v u F2 H2 q2 S2 (T1.trans T2) (f1.later T2) (f2.back fun _ z => T1.none z)⟩⟩
/-- an operation's answer -/
theorem op2_fin {K : PySem.W.Frag} {σ : L2.St} {H H0 F : Hp} {ρ : List Slot} {x y : Res} {v u : V} {g : D → D → (Res → Prop) → Prop} {k : Res → List Slot → Prop} {Q : VK} {F0 : Hp} {ρ0 : List Slot}
    (q : wc x ρ fun dx => wc y ρ fun dy => g dx dy fun z => k z ρ) (S : Sta K F H σ ρ) (T : TrX F0 H0 σ ρ0 F H ρ) (f1 : Fits K F H σ ρ H0 v x) (f2 : Fits K F H σ ρ H0 u y)
    (fin : ∀ r ρ' v F' H', k r ρ' → Sta K F' H' σ ρ' → TrX F0 H0 σ ρ0 F' H' ρ' → Fits K F' H' σ ρ' H0 v r → Q v H') : r2 K g v u H Q := by
  obtain ⟨dx, r1, q⟩ := wc_rd S f1 q
  obtain ⟨dy, r2, q⟩ := wc_rd S f2 q
  exact ⟨F, dx, dy, _, S.sub, r1, r2, q, fun z w F' H' kz n => fin z ρ w F' H' kz (n.sta S) (T.trans n.tr) (n.fits S fun _ z => T.none z)⟩
theorem de_op {op : Operator} {g : D → D → (Res → Prop) → Prop} (ho : OpR X (binaryOp op) (r2 X.K g)) (ha : DE X a da) (hb : DE X b db) : DE X (.BinOp a op b pos) (dBin g da db) :=
  PE.le (pe_op ho ha hb) fun σ H Q ⟨F, ρ, k, S, q, fin⟩ => up2 S q fun x y ρ' v u F' H' q S' T f1 f2 => op2_fin q S' T f1 f2 fin
theorem de_cmp {op : CmpOp} {g : D → D → (Res → Prop) → Prop} (ho : OpR X (compareOp op) (r2 X.K g)) (ha : DE X a da) (hb : DE X b db) (hm : behindInMarks op b = false := by first | exact nobehind _ (by decide) (by decide) | rfl) : DE X (.Compare a [op] [b] pos) (dBin g da db) :=
  PE.le (pe_cmpR ho ha hb hm) fun σ H Q ⟨F, ρ, k, S, q, fin⟩ => up2 S q fun x y ρ' v u F' H' q S' T f1 f2 => op2_fin q S' T f1 f2 fin
theorem de_un {op : UnaryOp} {g : D → (Res → Prop) → Prop} (ho : UnR X (unaryOp op) (r1 X.K g)) (ha : DE X a da) : DE X (.UnaryOp op a pos) (dUn g da) :=
  PE.le (pe_un ho ha) fun σ H Q ⟨F, ρ, k, S, q, fin⟩ => ⟨F, ρ, _, S, q, fun x ρ1 v F1 H1 q1 S1 T1 f1 => by
    obtain ⟨dx, r1, q1⟩ := wc_rd S1 f1 q1
    exact ⟨F1, dx, _, S1.sub, r1, q1, fun z w F' H' kz n => fin z ρ1 w F' H' kz (n.sta S1) (T1.trans n.tr) (n.fits S1 fun _ z => T1.none z)⟩⟩
/-- the test of a bool -/
theorem up_test {K : PySem.W.Frag} {d : DTE} {σ : L2.St} {H : Hp} {Q : Bool → Hp → Prop} (h : upT K (dTest d) σ H Q) : up K d σ H fun x H1 => ∃ c, x = .bl c ∧ Q c H1 := by
  obtain ⟨F, ρ, k, S, q, fin⟩ := h
  refine ⟨F, ρ, _, S, q, fun r ρ' v F' H' q S' T f => ?_⟩
  split at q
  · rename_i b
    have f : Dp K F' v (.bool b) := f
    cases f
    exact ⟨b, rfl, fin _ _ _ _ q S' T⟩
  · exact q.elim
theorem dt_cmp {op : CmpOp} {g : D → D → (Res → Prop) → Prop} (ho : OpR X (compareOp op) (r2 X.K g)) (ha : DE X a da) (hb : DE X b db) (hm : behindInMarks op b = false := by first | exact nobehind _ (by decide) (by decide) | rfl) : DT X (.Compare a [op] [b] pos) (dTest (dBin g da db)) :=
  PT.le (pt_cmpR ho ha hb hm) fun σ H Q h => by
    obtain ⟨F, ρ, k, S, q, fin⟩ := up_test h
    exact up2 S q fun x y ρ' v u F' H' q S' T f1 f2 => op2_fin q S' T f1 f2 fin
theorem dt_val (h : DE X e da) (he : ∀ whole, isTrue e X.env whole = (do let v ← whole; standAt e.pos; holding [v] (truthy v)) := by intro _; rfl) : DT X e (dTest da) :=
  PT.le (pt_val h he) fun σ H Q h => up_test h
theorem de_chain {op op' : CmpOp} {g g' : D → D → (Res → Prop) → Prop} (ho : OpR X (compareOp op) (r2 X.K g)) (ho' : OpR X (compareOp op') (r2 X.K g')) (ha : DE X a da) (hb : DE X b db) (hc : DE X c dc)
    (hm : lastMarks [op, op'] [b, c] = false := by with_unfolding_all rfl) : DE X (.Compare a [op, op'] [b, c] pos) (dChain g g' da db dc) :=
  PE.le (pe_chain ho ho' ha hb hc hm) fun σ H Q ⟨F, ρ, k, S, q, fin⟩ => by
    refine up2 S q fun x y ρ1 v u F1 H1 q S1 T1 f1 f2 => ?_
    obtain ⟨dx, r1, q⟩ := wc_rd S1 f1 q
    obtain ⟨dy, r2, q⟩ := wc_rd S1 f2 q
    refine ⟨F1, dx, dy, _, S1.sub, r1, r2, q, fun z w F2 H2 kz n => ?_⟩
    have S2 := n.sta S1
    have T2 := T1.trans n.tr
    have f3 := n.fit
    split at kz
    · rename_i bb
      have f3 : Dp X.K F2 w (.bool bb) := f3
      cases f3
      refine ⟨bb, rfl, ?_⟩
      cases bb with
      | true =>
        refine ⟨F2, ρ1, _, S2, kz, fun z ρ3 w3 F3 H3 q3 S3 T3 f4 => ?_⟩
        exact op2_fin q3 S3 (T2.trans T3) ((f2.later n.tr.toTr).later T3.toTr) (f4.back fun _ z => T2.none z) fin
      | false => exact fin _ _ _ _ _ kz S2 T2 (.bl false)
    · exact kz.elim
theorem dw_and1 (ha : DT X a ta) : DW X (.BoolOp .And [a] pos) ta := pw_and1 ha
theorem dw_or1 (ha : DT X a ta) : DW X (.BoolOp .Or [a] pos) ta := pw_or1 ha
theorem dw_and {rest : List Expr} (ha : DT X a ta) (hb : DW X (.BoolOp .And (b :: rest) pos) tb) : DW X (.BoolOp .And (a :: b :: rest) pos) (dAnd ta tb) :=
  PW.le (pw_and ha hb) fun σ H Q ⟨F, ρ, k, S, q, fin⟩ => ⟨F, ρ, _, S, q, fun c ρ1 F1 H1 q S1 T1 => by
    cases c with
    | true => exact ⟨F1, ρ1, k, S1, q, fun b ρ' F' H' q S' T' => fin b ρ' F' H' q S' (T1.trans T')⟩
    | false => exact fin _ _ _ _ q S1 T1⟩
theorem dw_or {rest : List Expr} (ha : DT X a ta) (hb : DW X (.BoolOp .Or (b :: rest) pos) tb) : DW X (.BoolOp .Or (a :: b :: rest) pos) (dOr ta tb) :=
  PW.le (pw_or ha hb) fun σ H Q ⟨F, ρ, k, S, q, fin⟩ => ⟨F, ρ, _, S, q, fun c ρ1 F1 H1 q S1 T1 => by
    cases c with
    | false => exact ⟨F1, ρ1, k, S1, q, fun b ρ' F' H' q S' T' => fin b ρ' F' H' q S' (T1.trans T')⟩
    | true => exact fin _ _ _ _ q S1 T1⟩
theorem dw_pt (h : DW X a ta) : DT X a ta := PW.pt h
theorem dt_not (ha : DT X a ta) : DT X (.UnaryOp .Not a pos) (dNot ta) :=
  PT.le (pt_not ha) fun σ H Q ⟨F, ρ, k, S, q, fin⟩ => ⟨F, ρ, _, S, q, fun c ρ1 F1 H1 q S1 T1 => fin _ _ _ _ q S1 T1⟩
theorem de_one {op} (h : DE X a da) : DE X (.BoolOp op [a] pos) da := pe_one h
theorem de_and {rest : List Expr} (ha : DE X a da) (hb : DE X (.BoolOp .And (b :: rest) pos) db) : DE X (.BoolOp .And (a :: b :: rest) pos) (dAndV da db) :=
  PE.le (pe_and ha hb) fun σ H Q ⟨F, ρ, k, S, q, fin⟩ => by
    refine up_test (K := X.K) (d := da) (Q := fun c H1 => if c = true then up X.K db σ H1 Q else Q (.bl false) H1) ⟨F, ρ, _, S, q, fun c ρ1 F1 H1 q S1 T1 => ?_⟩
    cases c with
    | true => exact ⟨F1, ρ1, k, S1, q, fun r ρ' v F' H' q S' T' f => fin r ρ' v F' H' q S' (T1.trans T') (f.back fun _ z => T1.none z)⟩
    | false => exact fin _ _ _ _ _ q S1 T1 (.bl false)
theorem de_or {rest : List Expr} (ha : DE X a da) (hb : DE X (.BoolOp .Or (b :: rest) pos) db) : DE X (.BoolOp .Or (a :: b :: rest) pos) (dOrV da db) :=
  PE.le (pe_or ha hb) fun σ H Q ⟨F, ρ, k, S, q, fin⟩ => by
    refine up_test (K := X.K) (d := da) (Q := fun c H1 => if c = true then Q (.bl true) H1 else up X.K db σ H1 Q) ⟨F, ρ, _, S, q, fun c ρ1 F1 H1 q S1 T1 => ?_⟩
    cases c with
    | false => exact ⟨F1, ρ1, k, S1, q, fun r ρ' v F' H' q S' T' f => fin r ρ' v F' H' q S' (T1.trans T') (f.back fun _ z => T1.none z)⟩
    | true => exact fin _ _ _ _ _ q S1 T1 (.bl true)
theorem de_not (ha : DE X a da) : DE X (.UnaryOp .Not a pos) (dNotV da) :=
  PE.le (pe_not ha) fun σ H Q ⟨F, ρ, k, S, q, fin⟩ =>
    up_test (K := X.K) (d := da) (Q := fun c H1 => Q (.bl (!c)) H1) ⟨F, ρ, _, S, q, fun c ρ1 F1 H1 q S1 T1 => fin _ _ _ _ _ q S1 T1 (.bl _)⟩
theorem de_ifExp (hc : DT X c ta) (ha : DE X a da) (hb : DE X b db) : DE X (.IfExp c a b pos) (dIf ta da db) :=
  PE.le (pe_ifExp hc ha hb) fun σ H Q ⟨F, ρ, k, S, q, fin⟩ => ⟨F, ρ, _, S, q, fun c ρ1 F1 H1 q S1 T1 => by
    cases c with
    | true => exact ⟨F1, ρ1, k, S1, q, fun r ρ' v F' H' q S' T' f => fin r ρ' v F' H' q S' (T1.trans T') (f.back fun _ z => T1.none z)⟩
    | false => exact ⟨F1, ρ1, k, S1, q, fun r ρ' v F' H' q S' T' f => fin r ρ' v F' H' q S' (T1.trans T') (f.back fun _ z => T1.none z)⟩⟩
theorem da_nil : DA X [] dNil := PA.le pa_nil fun σ H Q ⟨F, ρ, k, S, q, fin⟩ => fin [] ρ [] F H q S .refl trivial
theorem da_cons {dr : DTA} (ha : DE X e da) (hr : DA X es dr) (hs : starEach (e :: es) X.env = (false, eval e X.env) :: starEach es X.env := by rfl) : DA X (e :: es) (dCons da dr) :=
  PA.le (pa_cons ha hr hs) fun σ H Q ⟨F, ρ, k, S, q, fin⟩ => ⟨F, ρ, _, S, q, fun x ρ1 v F1 H1 q S1 T1 f1 => ⟨F1, ρ1, _, S1, q, fun xs ρ2 vs F2 H2 q S2 T2 f2 =>
    fin (x :: xs) ρ2 (v :: vs) F2 H2 q S2 (T1.trans T2) ⟨f1.later T2, f2.back fun _ z => T1.none z⟩⟩⟩
theorem RdAt.non_iff {K : PySem.W.Frag} {F H : Hp} {v : V} {d : D} (h : RdAt K F H v d) : decide (v = .non) = isN d := by
  rcases h with h | ⟨κ, a, rfl, h⟩
  · cases h <;> rfl
  · cases κ <;> (obtain ⟨_, _, rfl, _⟩ := h; rfl)
theorem de_isN {j pos'} (ha : DE X a da) : DE X (.Compare a [.Is] [.Constant .none j pos'] pos) (dUn gIsN da) :=
  PE.le (pe_cmp (pc_isN ha) rfl) fun σ H Q ⟨F, ρ, k, S, q, fin⟩ => ⟨F, ρ, _, S, q, fun x ρ1 v F1 H1 q1 S1 T1 f1 => by
    obtain ⟨dx, r1, q1⟩ := wc_rd S1 f1 q1
    rw [r1.non_iff]
    exact fin _ _ _ _ _ q1 S1 T1 (.bl _)⟩
theorem de_notN {j pos'} (ha : DE X a da) : DE X (.Compare a [.IsNot] [.Constant .none j pos'] pos) (dUn gNotN da) :=
  PE.le (pe_cmp (pc_notN ha) rfl) fun σ H Q ⟨F, ρ, k, S, q, fin⟩ => ⟨F, ρ, _, S, q, fun x ρ1 v F1 H1 q1 S1 T1 f1 => by
    obtain ⟨dx, r1, q1⟩ := wc_rd S1 f1 q1
    rw [r1.non_iff]
    exact fin _ _ _ _ _ q1 S1 T1 (.bl _)⟩
end
end TL

-- part TL3
/-! TL3: freezing, displays, statements, targets, for, while, comprehensions. -/
namespace TL
open PySem PySem.Spec L2
open Evl (Ex ex_l ex_t)
variable [Lay]

@[simp] def fzR (r : Res) (ρ : List Slot) (k : D → List Slot → Prop) : Prop := match r with
  | .fz d => k d ρ
  | .tm .l d => k d ρ
  | .bo i => match ρ[i]? with
    | some (.fz d) => k d ρ
    | some (.ow none .l d) => k d (ρ.set i (.fz d))
    | _ => False
  | _ => False
@[simp] def fzAll : List Res → List Slot → (List D → List Slot → Prop) → Prop
  | [], ρ, k => k [] ρ
  | r :: rs, ρ, k => fzR r ρ fun d ρ1 => fzAll rs ρ1 fun ds ρ2 => k (d :: ds) ρ2
section
variable {K : PySem.W.Frag} {F F' F0 F1 F2 H H' H0 H1 H2 : Hp} {σ σ' σ0 σ1 σ2 : L2.St} {ρ ρ' ρ0 ρ1 ρ2 : List Slot}
section
variable (K)
/-- a pending result, weakly (its object may have been frozen since) -/
def FitsW (F H : Hp) (σ : L2.St) (ρ : List Slot) (H0 : Hp) (v : V) : Res → Prop
  | .fz d => Dp K F v d
  | .tm κ d => ∃ a, v = .ref a ∧ OwAt K F H κ a d ∧ ¬ OA σ ρ a ∧ H0 a = none
  | .rd d => RdN K F H (OA σ ρ) v d
  | .bo i => σ[i]? = some (some v)
def FitsWAll (F H : Hp) (σ : L2.St) (ρ : List Slot) (H0 : Hp) : List V → List Res → Prop
  | [], [] => True
  | v :: vs, r :: rs => FitsW K F H σ ρ H0 v r ∧ FitsWAll F H σ ρ H0 vs rs
  | _, _ => False
end
theorem Fits.w {v : V} {r : Res} (f : Fits K F H σ ρ H0 v r) : FitsW K F H σ ρ H0 v r := by
  cases r with
  | fz d => exact f
  | tm κ d => obtain ⟨a, e, q, _, o, h⟩ := f; exact ⟨a, e, q, o, h⟩
  | rd d => exact f
  | bo i => exact f
theorem FitsAll.w {vs : List V} : ∀ {rs : List Res}, FitsAll K F H σ ρ H0 vs rs → FitsWAll K F H σ ρ H0 vs rs := by
  induction vs with
  | nil => intro rs h; cases rs with
    | nil => exact h
    | cons => exact h
  | cons v vs ih => intro rs h; cases rs with
    | nil => exact h
    | cons r rs => exact ⟨h.1.w, ih h.2⟩
/-- F has grown by what stood already; fewer slots own -/
theorem FitsW.frz {v : V} {r : Res} (f : FitsW K F H σ ρ H0 v r) (e : Ex F F') (o : ∀ b, OA σ ρ' b → OA σ ρ b) : FitsW K F' H σ ρ' H0 v r := by
  cases r with
  | fz d => exact dp_mono e f
  | tm κ d => obtain ⟨a, e1, q, o1, h⟩ := f; exact ⟨a, e1, q.mono e fun _ _ z => z, fun z => o1 (o _ z), h⟩
  | rd d =>
    rcases f with f | ⟨κ, a, e1, q, n⟩
    · exact .inl (dp_mono e f)
    · exact .inr ⟨κ, a, e1, q.mono e fun _ _ z => z, fun z => n (o _ z)⟩
  | bo i => exact f
theorem FitsWAll.frz {vs : List V} : ∀ {rs : List Res}, FitsWAll K F H σ ρ H0 vs rs → Ex F F' → (∀ b, OA σ ρ' b → OA σ ρ b) → FitsWAll K F' H σ ρ' H0 vs rs := by
  induction vs with
  | nil => intro rs h e o; cases rs with
    | nil => exact h
    | cons => exact h
  | cons v vs ih => intro rs h e o; cases rs with
    | nil => exact h
    | cons r rs => exact ⟨h.1.frz e o, ih h.2 e o⟩
theorem ex_upd_in {a : Addr} {o : HO} (h : H a = some o) (s : Ex F H) : Ex F (upd F a o) := fun b u e => by
  by_cases z : b = a
  · subst z
    rw [upd_same]
    have := s b u e
    rw [h] at this
    exact this
  · rw [upd_ne z]; exact e
theorem sub_upd_in {a : Addr} {o : HO} (h : H a = some o) (s : Ex F H) : Ex (upd F a o) H := fun b u e => by
  by_cases z : b = a
  · subst z
    rw [upd_same] at e
    cases e
    exact h
  · rw [upd_ne z] at e; exact s b u e
/-- an object that no slot owns is frozen -/
theorem Sta.frzAt {a : Addr} {o : HO} (S : Sta K F H σ ρ) (h : H a = some o) (n : ¬ OA σ ρ a) (nt : NT o) : Sta K (upd F a o) H σ ρ := by
  have e := ex_upd_in h S.sub
  refine ⟨sub_upd_in h S.sub, S.len, fun i d q => ?_, fun i d q => ?_, fun i t κ d q => ?_, S.inj, ⟨S.tab.tabs, fun p hp => by
    obtain ⟨ps, h1, _⟩ := S.tab.tabs p hp
    rw [upd_ne (fun z => by rw [← z, h1] at h; cases h; exact nt ps rfl)]
    exact S.tab.free p hp⟩⟩
  · obtain ⟨v, h1, h2⟩ := S.fz i d q; exact ⟨v, h1, dp_mono e h2⟩
  · obtain ⟨v, h1, h2⟩ := S.rd i d q
    refine ⟨v, h1, ?_⟩
    rcases h2 with h2 | ⟨κ, b, e1, h2, n2⟩
    · exact .inl (dp_mono e h2)
    · exact .inr ⟨κ, b, e1, h2.mono e fun _ _ z => z, n2⟩
  · obtain ⟨b, h1, h2, h3, h4⟩ := S.ow i t κ d q
    refine ⟨b, h1, h2.mono e fun _ _ z => z, ?_, h4⟩
    rw [upd_ne (fun z => n ⟨i, t, κ, d, q, by rw [← z]; exact h1⟩)]
    exact h3
theorem oa_set {i : Nat} {s : Slot} {b : Addr} (hs : ∀ t κ d, s ≠ .ow t κ d) (h : OA σ (ρ.set i s) b) : OA σ ρ b := by
  obtain ⟨j, t, κ, d, h1, h2⟩ := h
  by_cases e : i = j
  · subst e
    rw [List.getElem?_set] at h1
    simp only [if_pos] at h1
    split at h1
    · cases h1
      exact (hs _ _ _ rfl).elim
    · cases h1
  · rw [List.getElem?_set_ne e] at h1
    exact ⟨j, t, κ, d, h1, h2⟩
theorem get_set_cases {i j : Nat} {s u : Slot} (h : (ρ.set i s)[j]? = some u) : (i = j ∧ u = s) ∨ (i ≠ j ∧ ρ[j]? = some u) := by
  by_cases e : i = j
  · subst e
    rw [List.getElem?_set] at h
    simp only [if_pos] at h
    split at h
    · cases h; exact .inl ⟨rfl, rfl⟩
    · cases h
  · rw [List.getElem?_set_ne e] at h
    exact .inr ⟨e, h⟩
/-- a slot's content is given up: the slot is then a frozen one, one to be read, or nothing -/
theorem Sta.drop {i : Nat} {s : Slot} (S : Sta K F H σ ρ) (hs : ∀ t κ d, s ≠ .ow t κ d) (h1 : ∀ d, s = .fz d → ∃ v, σ[i]? = some (some v) ∧ Dp K F v d)
    (h2 : ∀ d, s = .rd d → ∃ v, σ[i]? = some (some v) ∧ RdN K F H (OA σ (ρ.set i s)) v d) : Sta K F H σ (ρ.set i s) := by
  refine ⟨S.sub, by simpa using S.len, fun j d q => ?_, fun j d q => ?_, fun j t κ d q => ?_, fun j j' t t' κ κ' d d' a q q' => ?_, S.tab⟩
  · rcases get_set_cases q with ⟨e, z⟩ | ⟨e, z⟩
    · subst e; exact h1 d z.symm
    · exact S.fz j d z
  · rcases get_set_cases q with ⟨e, z⟩ | ⟨e, z⟩
    · subst e; exact h2 d z.symm
    · obtain ⟨v, h1, h2⟩ := S.rd j d z
      refine ⟨v, h1, ?_⟩
      rcases h2 with h2 | ⟨κ, b, e1, h2, n2⟩
      · exact .inl h2
      · exact .inr ⟨κ, b, e1, h2, fun z => n2 (oa_set hs z)⟩
  · rcases get_set_cases q with ⟨e, z⟩ | ⟨e, z⟩
    · exact (hs _ _ _ z.symm).elim
    · exact S.ow j t κ d z
  · rcases get_set_cases q with ⟨e, z⟩ | ⟨e, z⟩
    · exact (hs _ _ _ z.symm).elim
    · rcases get_set_cases q' with ⟨e, z'⟩ | ⟨e, z'⟩
      · exact (hs _ _ _ z'.symm).elim
      · exact S.inj j j' t t' κ κ' d d' a z z'
theorem fzR_ok {v : V} {r : Res} {k : D → List Slot → Prop} (S : Sta K F H σ ρ) (f : FitsW K F H σ ρ H0 v r) (T : TrX F0 H0 σ ρ0 F H ρ) (h : fzR r ρ k) :
    ∃ d ρ' F', k d ρ' ∧ Sta K F' H σ ρ' ∧ TrX F0 H0 σ ρ0 F' H ρ' ∧ Dp K F' v d ∧ Ex F F' ∧ ∀ b, OA σ ρ' b → OA σ ρ b := by
  cases r with
  | fz d => exact ⟨d, ρ, F, h, S, T, f, Ex.refl F, fun _ z => z⟩
  | tm κ d =>
    cases κ with
    | l =>
      obtain ⟨a, rfl, ⟨xs, ds, rfl, e1, q⟩, n, z⟩ := f
      have e := ex_upd_in e1 S.sub
      refine ⟨_, ρ, upd F a (.lst xs), h, S.frzAt e1 n nt_l, ⟨⟨T.fext.trans e, T.keep, T.there, T.own, fun b o hb => ?_⟩, T.slow, T.slrd⟩, .lst (.inl upd_same) (dpAll_mono e q), e, fun _ z => z⟩
      by_cases y : b = a
      · subst y; exact .inr (.inl z)
      · rw [upd_ne y] at hb; exact T.fnew b o hb
    | k => exact h.elim
    | t => exact h.elim
  | rd d => exact h.elim
  | bo i =>
    have f : σ[i]? = some (some v) := f
    unfold fzR at h
    simp only at h
    split at h
    · rename_i d e
      obtain ⟨v', h1, h2⟩ := S.fz i d e
      rw [f] at h1; cases h1
      exact ⟨d, ρ, F, h, S, T, h2, Ex.refl F, fun _ z => z⟩
    · rename_i d e
      obtain ⟨a, h1, ⟨xs, ds, rfl, h2, h3⟩, h4, _⟩ := S.ow i none .l d e
      rw [f] at h1; cases h1
      have hs : ∀ t κ d, Slot.fz (.list ds) ≠ .ow t κ d := fun _ _ _ z => by cases z
      have no : ¬ OA σ (ρ.set i (.fz (.list ds))) a := fun ⟨j, t, κ, d, q1, q2⟩ => by
        rcases get_set_cases q1 with ⟨e', z⟩ | ⟨e', z⟩
        · cases z
        · exact e' (S.inj i j _ _ _ _ _ _ a e z f q2)
      have S1 : Sta K F H σ (ρ.set i .un) := S.drop (fun _ _ _ z => by cases z) (fun _ z => by cases z) (fun _ z => by cases z)
      have ee := ex_upd_in h2 S.sub
      have n1 : ¬ OA σ (ρ.set i .un) a := fun ⟨j, t, κ, d, q1, q2⟩ => by
        rcases get_set_cases q1 with ⟨e', z⟩ | ⟨e', z⟩
        · cases z
        · exact e' (S.inj i j _ _ _ _ _ _ a e z f q2)
      have S2 := S1.frzAt h2 n1 nt_l
      have dp : Dp K (upd F a (.lst xs)) (.ref a) (.list ds) := .lst (.inl upd_same) (dpAll_mono ee h3)
      have S3 : Sta K (upd F a (.lst xs)) H σ ((ρ.set i .un).set i (.fz (.list ds))) := S2.drop hs (fun d z => by cases z; exact ⟨_, f, dp⟩) (fun _ z => by cases z)
      rw [List.set_set] at S3
      refine ⟨_, _, upd F a (.lst xs), h, S3, ⟨⟨T.fext.trans ee, T.keep, T.there, fun b z => T.own b (oa_set hs z), fun b o hb => ?_⟩, fun j t κ d q => ?_, fun j d q => ?_⟩, dp, ee, fun b z => oa_set hs z⟩
      by_cases y : b = a
      · subst y
        exact (T.own b ⟨i, none, .l, _, e, f⟩).elim (fun z => .inr (.inr z)) (fun z => .inr (.inl z))
      · rw [upd_ne y] at hb; exact T.fnew b o hb
      · rcases get_set_cases q with ⟨_, z⟩ | ⟨_, z⟩
        · cases z
        · exact T.slow j t κ d z
      · rcases get_set_cases q with ⟨_, z⟩ | ⟨_, z⟩
        · cases z
        · exact T.slrd j d z
    · exact h.elim
theorem fzAll_ok {vs : List V} : ∀ {rs : List Res} {ρ : List Slot} {F : Hp} {k : List D → List Slot → Prop}, Sta K F H σ ρ → FitsWAll K F H σ ρ H0 vs rs → TrX F0 H0 σ ρ0 F H ρ → fzAll rs ρ k →
    ∃ ds ρ' F', k ds ρ' ∧ Sta K F' H σ ρ' ∧ TrX F0 H0 σ ρ0 F' H ρ' ∧ DpAll K F' vs ds ∧ Ex F F' ∧ ∀ b, OA σ ρ' b → OA σ ρ b := by
  induction vs with
  | nil => intro rs ρ F k S f T h; cases rs with
    | nil => exact ⟨[], ρ, F, h, S, T, .nil, Ex.refl F, fun _ z => z⟩
    | cons => exact f.elim
  | cons v vs ih => intro rs ρ F k S f T h; cases rs with
    | nil => exact f.elim
    | cons r rs =>
      obtain ⟨f1, f2⟩ := f
      obtain ⟨d, ρ1, F1, h, S1, T1, dp, e1, o1⟩ := fzR_ok S f1 T h
      obtain ⟨ds, ρ2, F2, h, S2, T2, dps, e2, o2⟩ := ih S1 (f2.frz e1 o1) T1 h
      exact ⟨d :: ds, ρ2, F2, h, S2, T2, .cons (dp_mono e2 dp) dps, e1.trans e2, fun b z => o1 b (o2 b z)⟩
theorem FitsW.len {vs : List V} : ∀ {rs : List Res}, FitsWAll K F H σ ρ H0 vs rs → vs.length = rs.length := by
  induction vs with
  | nil => intro rs h; cases rs with
    | nil => rfl
    | cons => exact h.elim
  | cons v vs ih => intro rs h; cases rs with
    | nil => exact h.elim
    | cons r rs => simp [ih h.2]
end

/-! ### displays -/
@[simp] def dTup (da : DTA) : DTE := fun ρ k => da ρ fun rs ρ1 => rs.length ≤ sizeLine ∧ fzAll rs ρ1 fun ds ρ2 => k (.fz (.tuple ds)) ρ2
@[simp] def dLst (da : DTA) : DTE := fun ρ k => da ρ fun rs ρ1 => rs.length ≤ sizeLine ∧ fzAll rs ρ1 fun ds ρ2 => k (.tm .l (.list ds)) ρ2
section
variable {X : Cx} {es : List Expr} {pos : Pos} {da : DTA}
theorem de_tup {x1} (h : DA X es da) : DE X (.Tuple es x1 pos) (dTup da) := PE.le (pe_tup h) fun σ H Q ⟨F, ρ, k, S, q, fin⟩ => ⟨F, ρ, _, S, q, fun rs ρ1 vs F1 H1 q S1 T1 f => by
  obtain ⟨z, q⟩ := q
  refine ⟨by rw [FitsW.len f.w]; exact z, fun p hp => ?_⟩
  obtain ⟨ds, ρ2, F2, q, S2, T2, dp, _⟩ := fzAll_ok S1 f.w T1 q
  have n := New.tuple (K := X.K) S2.sub hp dp
  exact fin _ _ _ _ _ q (n.sta S2) (T2.trans n.tr) (n.fits S2 fun _ z => T2.none z)⟩
theorem de_lst (h : DA X es da) : DE X (.List es pos) (dLst da) := PE.le (pe_lst h) fun σ H Q ⟨F, ρ, k, S, q, fin⟩ => ⟨F, ρ, _, S, q, fun rs ρ1 vs F1 H1 q S1 T1 f => by
  obtain ⟨z, q⟩ := q
  refine ⟨by rw [FitsW.len f.w]; exact z, fun p hp => ?_⟩
  obtain ⟨ds, ρ2, F2, q, S2, T2, dp, _⟩ := fzAll_ok S1 f.w T1 q
  have n := New.list (K := X.K) S2.sub hp dp
  exact fin _ _ _ _ _ q (n.sta S2) (T2.trans n.tr) (n.fits S2 fun _ z => T2.none z)⟩
end

/-! ### storing in a slot -/
@[simp] def toSlot (r : Res) (ρ : List Slot) (k : Slot → List Slot → Prop) : Prop := match r with
  | .fz d => k (.fz d) ρ
  | .tm κ d => k (.ow none κ d) ρ
  | .rd d => k (.rd d) ρ
  | .bo i => match ρ[i]? with
    | some (.fz d) => k (.fz d) ρ
    | some (.ow none .l d) => k (.fz d) (ρ.set i (.fz d))
    | _ => False
section
variable {K : PySem.W.Frag} {F F' F0 F1 F2 H H' H0 H1 H2 : Hp} {σ σ' σ0 σ1 σ2 : L2.St} {ρ ρ' ρ0 ρ1 ρ2 : List Slot}
theorem get_sets {α : Type} {l : List α} {i j : Nat} {s u : α} (h : (l.set i s)[j]? = some u) : (i = j ∧ u = s) ∨ (i ≠ j ∧ l[j]? = some u) := by
  by_cases e : i = j
  · subst e
    rw [List.getElem?_set] at h
    simp only [if_pos] at h
    split at h
    · cases h; exact .inl ⟨rfl, rfl⟩
    · cases h
  · rw [List.getElem?_set_ne e] at h
    exact .inr ⟨e, h⟩
theorem get_set_at {α : Type} {l : List α} {i : Nat} {s : α} (h : i < l.length) : (l.set i s)[i]? = some s := by
  rw [List.getElem?_set]; simp [h]
/-- a slot is stored to: s fits v -/
theorem Sta.store {i : Nat} {v : V} {s : Slot} (S : Sta K F H σ ρ) (f : match s with
    | .un => True
    | .fz d => Dp K F v d
    | .rd d => RdN K F H (OA σ ρ) v d
    | .ow t κ d => t = none ∧ ∃ a, v = .ref a ∧ OwAt K F H κ a d ∧ F a = none ∧ ¬ OA σ ρ a ∧ ∀ (j : Nat) (d' : D), ρ[j]? = some (Slot.rd d') → σ[j]? = some (some (V.ref a)) → Dp K F (V.ref a) d') : Sta K F H (σ.set i (some v)) (ρ.set i s) := by
  have hl : ∀ {u : Slot} {j : Nat}, (ρ.set i s)[j]? = some u → i = j → (σ.set i (some v))[i]? = some (some v) := fun {u j} h e => by
    subst e
    refine get_set_at ?_
    rw [S.len]
    have := (List.getElem?_eq_some_iff.mp h).1
    simpa using this
  have oa : ∀ b, OA (σ.set i (some v)) (ρ.set i s) b → OA σ ρ b ∨ ((∃ t κ d, s = .ow t κ d) ∧ v = .ref b) := fun b ⟨j, t, κ, d, h1, h2⟩ => by
    rcases get_sets h1 with ⟨e, z⟩ | ⟨e, z⟩
    · rw [← e, hl h1 e] at h2
      cases h2
      exact .inr ⟨⟨_, _, _, z.symm⟩, rfl⟩
    · rw [List.getElem?_set_ne e] at h2
      exact .inl ⟨j, t, κ, d, z, h2⟩
  have rdn : ∀ {w : V} {d : D}, RdN K F H (OA σ ρ) w d → (∀ a κ d', w = .ref a → OwAt K F H κ a d' → (∃ t κ d, s = .ow t κ d) → v = .ref a → False) → RdN K F H (OA (σ.set i (some v)) (ρ.set i s)) w d := fun {w d} h n => by
    rcases h with h | ⟨κ, a, e, h, m⟩
    · exact .inl h
    · refine .inr ⟨κ, a, e, h, fun z => ?_⟩
      rcases oa a z with y | ⟨y1, y2⟩
      · exact m y
      · exact n a κ d e h y1 y2
  refine ⟨S.sub, by simpa using S.len, fun j d q => ?_, fun j d q => ?_, fun j t κ d q => ?_, fun j j' t t' κ κ' d d' a q q' r r' => ?_, S.tab⟩
  · rcases get_sets q with ⟨e, z⟩ | ⟨e, z⟩
    · subst z; rw [← e]; exact ⟨v, hl q e, f⟩
    · obtain ⟨w, h1, h2⟩ := S.fz j d z
      exact ⟨w, by rw [List.getElem?_set_ne e]; exact h1, h2⟩
  · rcases get_sets q with ⟨e, z⟩ | ⟨e, z⟩
    · subst z; rw [← e]; exact ⟨v, hl q e, rdn f fun a κ d' _ _ ⟨_, _, _, y⟩ _ => by cases y⟩
    · obtain ⟨w, h1, h2⟩ := S.rd j d z
      refine ⟨w, by rw [List.getElem?_set_ne e]; exact h1, ?_⟩
      cases s with
      | ow t κ d0 =>
        obtain ⟨_, a, e1, q1, q2, q3, q4⟩ := f
        subst e1
        by_cases ha : w = .ref a
        · subst ha; exact .inl (q4 j d z h1)
        · rcases h2 with h2 | ⟨κ', b, e', h2, m⟩
          · exact .inl h2
          · refine .inr ⟨κ', b, e', h2, fun y => ?_⟩
            rcases oa b y with y | ⟨_, y2⟩
            · exact m y
            · exact ha (by rw [e', ← y2])
      | _ => exact rdn h2 fun a κ d' _ _ ⟨_, _, _, y⟩ _ => by cases y
  · rcases get_sets q with ⟨e, z⟩ | ⟨e, z⟩
    · subst z
      obtain ⟨rfl, a, e1, q1, q2, q3, _⟩ := f
      subst e1
      rw [← e]
      exact ⟨a, hl q e, q1, q2, fun _ z => by cases z⟩
    · obtain ⟨a, h1, h2⟩ := S.ow j t κ d z
      exact ⟨a, by rw [List.getElem?_set_ne e]; exact h1, h2⟩
  · rcases get_sets q with ⟨e, z⟩ | ⟨e, z⟩
    · rcases get_sets q' with ⟨e', z'⟩ | ⟨e', z'⟩
      · rw [← e, ← e']
      · exfalso
        rw [← e, hl q e] at r
        cases r
        rw [List.getElem?_set_ne e'] at r'
        subst z
        obtain ⟨_, b, e1, q1, q2, q3, _⟩ := f
        cases e1
        exact q3 ⟨j', t', κ', d', z', r'⟩
    · rcases get_sets q' with ⟨e', z'⟩ | ⟨e', z'⟩
      · exfalso
        rw [← e', hl q' e'] at r'
        cases r'
        rw [List.getElem?_set_ne e] at r
        subst z'
        obtain ⟨_, b, e1, q1, q2, q3, _⟩ := f
        cases e1
        exact q3 ⟨j, t, κ, d, z, r⟩
      · rw [List.getElem?_set_ne e] at r
        rw [List.getElem?_set_ne e'] at r'
        exact S.inj j j' t t' κ κ' d d' a z z' r r'
end
end TL

-- part TL4
/-! TL4: statements. -/
namespace TL
open PySem PySem.Spec L2
open Evl (Ex ex_l ex_t)
variable [Lay]

section
variable {K : PySem.W.Frag} {F F' F0 F1 F2 H H' H0 H1 H2 : Hp} {σ σ' σ0 σ1 σ2 : L2.St} {ρ ρ' ρ0 ρ1 ρ2 : List Slot}
theorem oa_store {i : Nat} {v : V} {s : Slot} (S : Sta K F H σ ρ) : ∀ b, OA (σ.set i (some v)) (ρ.set i s) b → OA σ ρ b ∨ ((∃ t κ d, s = .ow t κ d) ∧ v = .ref b) := fun b ⟨j, t, κ, d, h1, h2⟩ => by
  rcases get_sets h1 with ⟨e, z⟩ | ⟨e, z⟩
  · subst e
    have hl : (σ.set i (some v))[i]? = some (some v) := by
      refine get_set_at ?_
      rw [S.len]
      have := (List.getElem?_eq_some_iff.mp h1).1
      simpa using this
    rw [hl] at h2
    cases h2
    exact .inr ⟨⟨_, _, _, z.symm⟩, rfl⟩
  · rw [List.getElem?_set_ne e] at h2
    exact .inl ⟨j, t, κ, d, z, h2⟩
theorem TrX.store {i : Nat} {v : V} {s : Slot} (T : TrX F0 H0 σ ρ0 F H ρ) (S : Sta K F H σ ρ) (h : ∀ b, (∃ t κ d, s = .ow t κ d) → v = .ref b → H0 b = Option.none) : Tr F0 H0 σ ρ0 F H (σ.set i (some v)) (ρ.set i s) :=
  ⟨T.fext, T.keep, T.there, fun b z => by
    rcases oa_store S b z with y | ⟨y, y'⟩
    · exact T.own b y
    · exact .inr (h b y y'), T.fnew⟩
/-- a result is stored in slot i -/
theorem toSlot_ok {i : Nat} {v : V} {r : Res} {k : Slot → List Slot → Prop} (S0 : Sta K F0 H0 σ ρ0) (S : Sta K F H σ ρ) (T : TrX F0 H0 σ ρ0 F H ρ) (f : Fits K F H σ ρ H0 v r) (h : toSlot r ρ k) :
    ∃ s ρ' F', k s ρ' ∧ Sta K F' H (σ.set i (some v)) (ρ'.set i s) ∧ Tr F0 H0 σ ρ0 F' H (σ.set i (some v)) (ρ'.set i s) := by
  cases r with
  | fz d => exact ⟨.fz d, ρ, F, h, S.store f, T.store S fun _ h _ => by obtain ⟨_, _, _, z⟩ := h; cases z⟩
  | tm κ d =>
    obtain ⟨a, rfl, q, n, o, z⟩ := f
    refine ⟨.ow none κ d, ρ, F, h, S.store (s := .ow none κ d) ⟨rfl, a, rfl, q, n, o, fun j d' hj hs => ?_⟩, T.store S fun b _ e => by cases e; exact z⟩
    rcases T.slrd j d' hj with y | ⟨t, κ', d0, y⟩
    · obtain ⟨w, h1, h2⟩ := S0.rd j d' y
      rw [hs] at h1
      cases h1
      rcases h2 with h2 | ⟨κ', b, e, h2, _⟩
      · exact dp_mono T.fext h2
      · cases e
        obtain ⟨o', ho⟩ := h2.some
        rw [z] at ho; cases ho
    · obtain ⟨b, h1, h2, _⟩ := S0.ow j t κ' d0 y
      rw [hs] at h1
      cases h1
      obtain ⟨o', ho⟩ := h2.some
      rw [z] at ho; cases ho
  | rd d => exact ⟨.rd d, ρ, F, h, S.store (s := .rd d) f, T.store S fun _ h _ => by obtain ⟨_, _, _, z⟩ := h; cases z⟩
  | bo j =>
    have hz : ∃ d ρ', toSlot (.bo j) ρ k = k (.fz d) ρ' ∧ fzR (.bo j) ρ (fun d' ρ'' => d' = d ∧ ρ'' = ρ') := by
      unfold toSlot at h ⊢
      simp only at h ⊢
      split at h
      · rename_i d e; exact ⟨d, ρ, rfl, by unfold fzR; simp [e]⟩
      · rename_i d e; exact ⟨d, ρ.set j (.fz d), rfl, by unfold fzR; simp [e]⟩
      · exact h.elim
    obtain ⟨d, ρ', e, hz⟩ := hz
    rw [e] at h
    obtain ⟨d', ρ'', F', ⟨rfl, rfl⟩, S', T', dp, _⟩ := fzR_ok S f.w T hz
    exact ⟨.fz d', ρ'', F', h, S'.store dp, T'.store S' fun _ h _ => by obtain ⟨_, _, _, z⟩ := h; cases z⟩
end

@[simp] def dNext : DTS := fun E ρ => E.nx ρ
@[simp] def dSeq (s u : DTS) : DTS := fun E ρ => s { E with nx := u E } ρ
@[simp] def dBrk : DTS := fun E ρ => E.bk ρ
@[simp] def dCnt : DTS := fun E ρ => E.ct ρ
@[simp] def dDrop (da : DTE) : DTS := fun E ρ => da ρ fun _ ρ1 => E.nx ρ1
@[simp] def dRet (da : DTE) : DTS := fun E ρ => da ρ E.rt
@[simp] def dRetN : DTS := fun E ρ => E.rt (.fz .none) ρ
@[simp] def dIfS (t : DTT) (s u : DTS) : DTS := fun E ρ => t ρ fun b ρ1 => if b = true then s E ρ1 else u E ρ1
@[simp] def dSet (i : Nat) (da : DTE) : DTS := fun E ρ => da ρ fun r ρ1 => toSlot r ρ1 fun s ρ2 => E.nx (ρ2.set i s)
@[simp] def dPar (i j : Nat) (da : DTA) : DTS := fun E ρ => da ρ fun rs ρ1 => match rs with
  | [r, r'] => fzR r ρ1 fun d ρ2 => fzR r' ρ2 fun d' ρ3 => E.nx ((ρ3.set i (.fz d)).set j (.fz d'))
  | _ => False
@[simp] def dAug (i : Nat) (g : D → D → (Res → Prop) → Prop) (da : DTE) : DTS := fun E ρ => (match ρ[i]? with | some (.fz _) => True | _ => False) ∧ dBin g (dName i) da ρ fun r ρ1 => toSlot r ρ1 fun s ρ2 => E.nx (ρ2.set i s)

section
variable {X : Cx} {st : Stmt} {rest : List Stmt} {s u : DTS} {e : Expr} {da : DTE} {ta : DTT} {pos : Pos}
theorem ds_nil : DSs X [] dNext := PSs.le pss_nil fun E σ H ⟨F, ρ, G, S, q, f1, f2, f3, f4⟩ => f1 σ ρ F H q S .refl
theorem ds_cons (h1 : DS X st s) (h2 : DSs X rest u) : DSs X (st :: rest) (dSeq s u) := PSs.le (pss_cons h1 h2) fun E σ H ⟨F, ρ, G, S, q, f1, f2, f3, f4⟩ =>
  ⟨F, ρ, _, S, q, fun σ1 ρ1 F1 H1 q S1 T1 => ⟨F1, ρ1, G, S1, q, fun σ2 ρ2 F2 H2 q S2 T2 => f1 σ2 ρ2 F2 H2 q S2 (T1.trans T2), fun r σ2 ρ2 v F2 H2 q S2 T2 f => f2 r σ2 ρ2 v F2 H2 q S2 (T1.trans T2) (f.back fun _ z => T1.none z),
    fun σ2 ρ2 F2 H2 q S2 T2 => f3 σ2 ρ2 F2 H2 q S2 (T1.trans T2), fun σ2 ρ2 F2 H2 q S2 T2 => f4 σ2 ρ2 F2 H2 q S2 (T1.trans T2)⟩, f2, f3, f4⟩
theorem ds_one (h1 : DS X st s) : DSs X [st] s := PSs.le (pss_one h1) fun E σ H h => h
theorem ds_pass : DS X (.Pass pos) dNext := PS.le ps_pass fun E σ H ⟨F, ρ, G, S, q, f1, f2, f3, f4⟩ => f1 σ ρ F H q S .refl
theorem ds_doc {x j pos'} : DS X (.Expr (.Constant (.str x) j pos) pos') dNext := PS.le ps_doc fun E σ H ⟨F, ρ, G, S, q, f1, f2, f3, f4⟩ => f1 σ ρ F H q S .refl
theorem ds_break : DS X (.Break pos) dBrk := PS.le ps_break fun E σ H ⟨F, ρ, G, S, q, f1, f2, f3, f4⟩ => f3 σ ρ F H q S .refl
theorem ds_continue : DS X (.Continue pos) dCnt := PS.le ps_continue fun E σ H ⟨F, ρ, G, S, q, f1, f2, f3, f4⟩ => f4 σ ρ F H q S .refl
theorem ds_expr (he : DE X e da) (hs : swapsWith e none pos.line X.env = pure false := by rfl) : DS X (.Expr e pos) (dDrop da) := PS.le (ps_expr he hs) fun E σ H ⟨F, ρ, G, S, q, f1, f2, f3, f4⟩ =>
  ⟨F, ρ, _, S, q, fun r ρ1 v F1 H1 q S1 T1 _ => f1 σ ρ1 F1 H1 q S1 T1⟩
theorem ds_ret (he : DE X e da) : DS X (.Return (some e) pos) (dRet da) := PS.le (ps_ret he) fun E σ H ⟨F, ρ, G, S, q, f1, f2, f3, f4⟩ =>
  ⟨F, ρ, _, S, q, fun r ρ1 v F1 H1 q S1 T1 f => f2 r σ ρ1 v F1 H1 q S1 T1 f⟩
theorem ds_retN : DS X (.Return none pos) dRetN := PS.le ps_retN fun E σ H ⟨F, ρ, G, S, q, f1, f2, f3, f4⟩ => f2 _ σ ρ _ F H q S .refl .non
theorem ds_if {c : Expr} {a b : List Stmt} (hc : DT X c ta) (ha : DSs X a s) (hb : DSs X b u) : DS X (.If c a b pos) (dIfS ta s u) := PS.le (ps_if hc ha hb) fun E σ H ⟨F, ρ, G, S, q, f1, f2, f3, f4⟩ =>
  ⟨F, ρ, _, S, q, fun b ρ1 F1 H1 q S1 T1 => by
    have T1 := T1.toTr
    have fin : ∀ {w : DTS}, w G ρ1 → upS X.K w E σ H1 := fun q =>
      ⟨F1, ρ1, G, S1, q, fun σ2 ρ2 F2 H2 q S2 T2 => f1 σ2 ρ2 F2 H2 q S2 (T1.trans T2), fun r σ2 ρ2 v F2 H2 q S2 T2 f => f2 r σ2 ρ2 v F2 H2 q S2 (T1.trans T2) (f.back fun _ z => T1.none z),
        fun σ2 ρ2 F2 H2 q S2 T2 => f3 σ2 ρ2 F2 H2 q S2 (T1.trans T2), fun σ2 ρ2 F2 H2 q S2 T2 => f4 σ2 ρ2 F2 H2 q S2 (T1.trans T2)⟩
    cases b with
    | true => exact fin q
    | false => exact fin q⟩
theorem ds_set {i : Nat} {x : Str} {pos' : Pos} (hN : X.N.Nodup) (hi : X.N[i]? = some x) (hx : Loc X.env.scope x) (he : DE X e da) (hs : swapsWith e (some (.Name x pos')) pos.line X.env = pure false := by rfl) (hf : X.fn x = true ∨ X.env.scope.names.lookup x = some .local := by first | exact .inl rfl | exact .inr rfl | assumption) :
    DS X (.Assign [.Name x pos'] e pos) (dSet i da) := PS.le (ps_set hN hi hx he hs hf) fun E σ H ⟨F, ρ, G, S, q, f1, f2, f3, f4⟩ =>
  ⟨F, ρ, _, S, q, fun r ρ1 v F1 H1 q S1 T1 f => by
    obtain ⟨s, ρ2, F2, q, S2, T2⟩ := toSlot_ok (i := i) S S1 T1 f q
    exact f1 _ _ _ _ q S2 T2⟩
/-- two frozen values stored -/
theorem ds_par {i j : Nat} {x y : Str} {a b : Expr} {da : DTA} {px py pt : Pos} {kt k2 pt2} (hc : X.calm = true) (hN : X.N.Nodup) (hi : X.N[i]? = some x) (hj : X.N[j]? = some y) (hij : i ≠ j)
    (hx : X.env.scope.names.lookup x = some .local) (hy : X.env.scope.names.lookup y = some .local) (ha : DA X [a, b] da)
    (hw : swappedStores [.Tuple [.Name x px, .Name y py] kt pt] (.Tuple [a, b] k2 pt2) X.env = pure (some [x, y]))
    (hs : swapsWithSole [.Tuple [.Name x px, .Name y py] kt pt] (.Tuple [a, b] k2 pt2) pos.line X.env = pure false := by rfl) :
    DS X (.Assign [.Tuple [.Name x px, .Name y py] kt pt] (.Tuple [a, b] k2 pt2) pos) (dPar i j da) := PS.le (ps_par hc hN hi hj hij hx hy ha hw hs) fun E σ H ⟨F, ρ, G, S, q, f1, f2, f3, f4⟩ =>
  ⟨F, ρ, _, S, q, fun rs ρ1 vs F1 H1 q S1 T1 f => by
    split at q
    · rename_i r r'
      match vs, f with
      | [v, w], ⟨g1, g2, _⟩ =>
        refine ⟨v, w, rfl, ?_⟩
        obtain ⟨d, ρ2, F2, q, S2, T2, dp, e2, o2⟩ := fzR_ok S1 g1.w T1 q
        obtain ⟨d', ρ3, F3, q, S3, T3, dp', e3, o3⟩ := fzR_ok S2 (g2.w.frz e2 o2) T2 q
        have S4 := S3.store (i := i) (v := v) (s := .fz d) (dp_mono e3 dp)
        have S5 := S4.store (i := j) (v := w) (s := .fz d') dp'
        refine f1 _ _ _ _ q S5 ⟨T3.fext, T3.keep, T3.there, fun b z => ?_, T3.fnew⟩
        rcases oa_store S4 b z with y | ⟨⟨_, _, _, y⟩, _⟩
        · rcases oa_store S3 b y with y | ⟨⟨_, _, _, y⟩, _⟩
          · exact T3.own b y
          · cases y
        · cases y
    · exact q.elim⟩
theorem ds_aug {i : Nat} {x : Str} {op : Operator} {g : D → D → (Res → Prop) → Prop} {pos' : Pos} (hN : X.N.Nodup) (hi : X.N[i]? = some x) (hx : Loc X.env.scope x) (ho : OpR X (inplaceOp op) (r2 X.K g)) (he : DE X e da) (hf : X.fn x = true ∨ X.env.scope.names.lookup x = some .local := by first | exact .inl rfl | exact .inr rfl | assumption) :
    DS X (.AugAssign (.Name x pos') op e pos) (dAug i g da) := PS.le (ps_aug hN hi hx he (show PIp X op (r2 X.K g) from ho) hf) fun E σ H ⟨F, ρ, G, S, q, f1, f2, f3, f4⟩ => by
  obtain ⟨q0, q⟩ := q
  split at q0
  · rename_i d0 e0
    obtain ⟨v, h1, dp⟩ := S.fz i d0 e0
    refine ⟨v, h1, ?_⟩
    unfold dBin dName at q
    rw [e0] at q
    refine ⟨F, ρ, _, S, q, fun y ρ1 w F1 H1 q S1 T1 f => ?_⟩
    have fv : Fits X.K F1 H1 σ ρ1 H v (.fz d0) := dp_mono T1.fext dp
    exact op2_fin (k := fun r ρ1 => toSlot r ρ1 fun s ρ2 => G.nx (ρ2.set i s)) q S1 T1 fv f fun r ρ' w' F' H' q S' T' f' => by
      obtain ⟨s, ρ2, F2, q, S2, T2⟩ := toSlot_ok (i := i) S S' T' f' q
      exact f1 _ _ _ _ q S2 T2
  · exact q0.elim

/-! ### targets -/
abbrev DTG := D → List Slot → (List Slot → Prop) → Prop
section
variable (K : PySem.W.Frag)
/-- js: the slots that the target names -/
def upG (js : List Nat) (g : DTG) : TG := fun v σ H Q => ∃ F ρ d k, Sta K F H σ ρ ∧ Dp K F v d ∧ g d ρ k ∧ ∀ σ' ρ' F' H', k ρ' → Sta K F' H' σ' ρ' → Tr F H σ ρ F' H' σ' ρ' → σ'.length = σ.length → (∀ j, j ∉ js → σ'[j]? = σ[j]? ∧ ρ'[j]? = ρ[j]?) → Q σ' H'
def upGs (js : List Nat) (g : List D → List Slot → (List Slot → Prop) → Prop) : TGs := fun vs σ H Q => ∃ F ρ ds k, Sta K F H σ ρ ∧ DpAll K F vs ds ∧ g ds ρ k ∧ ∀ σ' ρ' F' H', k ρ' → Sta K F' H' σ' ρ' → Tr F H σ ρ F' H' σ' ρ' → σ'.length = σ.length → (∀ j, j ∉ js → σ'[j]? = σ[j]? ∧ ρ'[j]? = ρ[j]?) → Q σ' H'
end
theorem PG.le {tg : Expr} {t u : TG} (h : PG X tg t) (w : ∀ v σ H Q, u v σ H Q → t v σ H Q) : PG X tg u := ⟨fun pins s σ H v x Q I r q => h.run pins s σ H v x Q I r (w _ _ _ _ q)⟩
theorem PGs.le {tg : List Expr} {t u : TGs} (h : PGs X tg t) (w : ∀ v σ H Q, u v σ H Q → t v σ H Q) : PGs X tg u := ⟨fun pins s σ H v x Q I r q => h.run pins s σ H v x Q I r (w _ _ _ _ q)⟩
def DG (X : Cx) (tg : Expr) (js : List Nat) (g : DTG) : Prop := PG X tg (upG X.K js g)
def DGs (X : Cx) (tg : List Expr) (js : List Nat) (g : List D → List Slot → (List Slot → Prop) → Prop) : Prop := PGs X tg (upGs X.K js g)
@[simp] def gN (i : Nat) : DTG := fun d ρ k => k (ρ.set i (.fz d))
@[simp] def gsN : List D → List Slot → (List Slot → Prop) → Prop := fun ds ρ k => match ds with | [] => k ρ | _ => False
@[simp] def gsC (g : DTG) (gs : List D → List Slot → (List Slot → Prop) → Prop) : List D → List Slot → (List Slot → Prop) → Prop := fun ds ρ k => match ds with | d :: ds => g d ρ fun ρ1 => gs ds ρ1 k | [] => False
@[simp] def gT (n : Nat) (gs : List D → List Slot → (List Slot → Prop) → Prop) : DTG := fun d ρ k => match d with | .tuple ds => ds.length = n ∧ gs ds ρ k | _ => False
theorem dg_name {i : Nat} {x : Str} (hN : X.N.Nodup) (hi : X.N[i]? = some x) (hx : Loc X.env.scope x) (hf : X.fn x = true ∨ X.env.scope.names.lookup x = some .local := by first | exact .inl rfl | exact .inr rfl | assumption) : DG X (.Name x pos) [i] (gN i) :=
  PG.le (pg_name hN hi hx hf) fun v σ H Q ⟨F, ρ, d, k, S, dp, q, fin⟩ => by
    refine fin _ _ F H q (S.store dp) (TrX.refl.store S fun _ h _ => by obtain ⟨_, _, _, z⟩ := h; cases z) (by simp) fun j hj => ?_
    have hne : i ≠ j := fun z => hj (by simp [z])
    rw [List.getElem?_set_ne hne, List.getElem?_set_ne hne]
    exact ⟨rfl, rfl⟩
theorem dgs_nil : DGs X [] [] gsN := PGs.le pgs_nil fun vs σ H Q ⟨F, ρ, ds, k, S, dp, q, fin⟩ => by
  cases dp with
  | nil => exact ⟨rfl, fin σ ρ F H q S .refl rfl fun _ _ => ⟨rfl, rfl⟩⟩
  | cons _ _ => exact q.elim
theorem dgs_cons {e : Expr} {es : List Expr} {js js' : List Nat} {g : DTG} {gs} (h1 : DG X e js g) (h2 : DGs X es js' gs) (hs : (assignEach (e :: es) X.env).map (·.2) = assign e X.env :: (assignEach es X.env).map (·.2) := by rfl) : DGs X (e :: es) (js ++ js') (gsC g gs) :=
  PGs.le (pgs_cons h1 h2 hs) fun vs σ H Q ⟨F, ρ, ds, k, S, dp, q, fin⟩ => by
    cases dp with
    | nil => exact q.elim
    | cons p ps =>
      exact ⟨_, _, rfl, F, ρ, _, _, S, p, q, fun σ1 ρ1 F1 H1 q S1 T1 l1 n1 => ⟨F1, ρ1, _, k, S1, dpAll_mono T1.fext ps, q, fun σ2 ρ2 F2 H2 q S2 T2 l2 n2 =>
        fin σ2 ρ2 F2 H2 q S2 (T1.trans T2) (l2.trans l1) fun j hj => by
          rw [List.mem_append, not_or] at hj
          exact ⟨(n2 j hj.2).1.trans (n1 j hj.1).1, (n2 j hj.2).2.trans (n1 j hj.1).2⟩⟩⟩
theorem dg_tup {es : List Expr} {kk : Nat} {js : List Nat} {gs} {n : Nat} (hc : X.calm = true) (h : DGs X es js gs)
    (hn : (assignEach es X.env).length = n := by rfl) (hst : (assignEach es X.env).findIdx? (·.1) = none := by rfl) : DG X (.Tuple es kk pos) js (gT n gs) :=
  PG.le (pg_tup hc h hn hst) fun v σ H Q ⟨F, ρ, d, k, S, dp, q, fin⟩ => by
    unfold gT at q
    split at q
    · rename_i ds
      obtain ⟨q1, q⟩ := q
      cases dp with
      | tup h1 h2 =>
        refine ⟨_, _, rfl, ex_t S.sub h1.sq, ?_, F, ρ, ds, k, S, h2, q, fin⟩
        rw [dpAll_len h2, q1]
    · exact q.elim
/-- targets = value: the value is frozen first -/
@[simp] def dAsg (g : DTG) (da : DTE) : DTS := fun E ρ => da ρ fun r ρ1 => fzR r ρ1 fun d ρ2 => g d ρ2 E.nx
theorem ds_asg {tg e : Expr} {js : List Nat} {g : DTG} (he : DE X e da) (hg : DG X tg js g) (hs : swapsWithSole [tg] e pos.line X.env = pure false := by rfl) (hw : swappedStores [tg] e X.env = pure none := by rfl)
    (h1 : (assignEach [tg] X.env).map (·.2) = [assign tg X.env] := by rfl) : DS X (.Assign [tg] e pos) (dAsg g da) :=
  PS.le (ps_asg he hg hs hw h1) fun E σ H ⟨F, ρ, G, S, q, f1, f2, f3, f4⟩ => ⟨F, ρ, _, S, q, fun r ρ1 v F1 H1 q S1 T1 f => by
    obtain ⟨d, ρ2, F2, q, S2, T2, dp, _⟩ := fzR_ok S1 f.w T1 q
    exact ⟨F2, ρ2, d, _, S2, dp, q, fun σ3 ρ3 F3 H3 q S3 T3 _ _ => f1 σ3 ρ3 F3 H3 q S3 (T2.toTr.trans T3)⟩⟩

/-! ### while -/
def dWhileN (t : DTT) (s : DTS) (E : DEnds) : Nat → List Slot → Prop
  | 0, _ => False
  | n + 1, ρ => t ρ fun b ρ1 => if b = true then s { nx := dWhileN t s E n, rt := E.rt, bk := E.nx, ct := dWhileN t s E n } ρ1 else E.nx ρ1
def dWhile (t : DTT) (s : DTS) : DTS := fun E ρ => ∃ n, dWhileN t s E n ρ
theorem ds_while {c : Expr} {body : List Stmt} (hp : PassesOwn (model X.prog X.w) X.A X.env X.xe) (hc : DT X c ta) (hb : DSs X body s) : DS X (.While c body [] pos) (dWhile ta s) :=
  PS.le (ps_while hp hc hb) fun E σ H ⟨F, ρ, G, S, q, f1, f2, f3, f4⟩ => by
    obtain ⟨n, q⟩ := q
    refine ⟨fun m σ' H' => ∃ F' ρ', Sta X.K F' H' σ' ρ' ∧ Tr F H σ ρ F' H' σ' ρ' ∧ dWhileN ta s G m ρ', ⟨n, F, ρ, S, .refl, q⟩, ?_⟩
    rintro m σ1 H1 ⟨F1, ρ1, S1, T1, q1⟩
    cases m with
    | zero => exact q1.elim
    | succ m =>
      refine ⟨F1, ρ1, _, S1, q1, fun b ρ2 F2 H2 q2 S2 T2 => ?_⟩
      have T2 := T1.trans T2.toTr
      cases b with
      | true =>
        refine ⟨fun σ' H' => ∃ F' ρ', Sta X.K F' H' σ' ρ' ∧ Tr F H σ ρ F' H' σ' ρ' ∧ dWhileN ta s G m ρ', fun σ' H' ⟨F', ρ', a, b, c⟩ => ⟨m, Nat.lt_succ_self m, F', ρ', a, b, c⟩, ?_⟩
        exact ⟨F2, ρ2, _, S2, q2, fun σ3 ρ3 F3 H3 q S3 T3 => ⟨F3, ρ3, S3, T2.trans T3, q⟩, fun r σ3 ρ3 v F3 H3 q S3 T3 f => f2 r σ3 ρ3 v F3 H3 q S3 (T2.trans T3) (f.back fun _ z => T2.none z),
          fun σ3 ρ3 F3 H3 q S3 T3 => f1 σ3 ρ3 F3 H3 q S3 (T2.trans T3), fun σ3 ρ3 F3 H3 q S3 T3 => ⟨F3, ρ3, S3, T2.trans T3, q⟩⟩
      | false => exact f1 σ1 ρ2 F2 H2 q2 S2 T2
end
end TL

-- part TL5
/-! TL5: what is walked; for; comprehensions. -/
namespace TL
open PySem PySem.Spec L2
open Evl (Ex ex_l ex_t)
variable [Lay]

@[simp] def cont (ρ : List Slot) (j : Nat) : Option D := match ρ[j]? with
  | some (.ow _ _ d) => some d
  | some (.fz d) => some d
  | some (.rd d) => some d
  | _ => none
/-- the slots that are walked stand as they stood -/
@[simp] def stl : List (Nat × D) → List Slot → Prop
  | [], _ => True
  | (j, d) :: r, ρ => cont ρ j = some d ∧ stl r ρ
theorem stl_all {src : List (Nat × D)} {ρ : List Slot} : stl src ρ → ∀ p ∈ src, cont ρ p.1 = some p.2 := by
  induction src with
  | nil => intro _ p hp; cases hp
  | cons a r ih =>
    intro h p hp
    obtain ⟨h1, h2⟩ := h
    rcases List.mem_cons.mp hp with e | e
    · rw [e]; exact h1
    · exact ih h2 p e
section
variable (K : PySem.W.Frag)
/-- an iterator J yields the items, from any state to which the state at its making may lead -/
def Wk (J : It) (items : List D) (src : List (Nat × D)) (F0 H0 : Hp) (σ0 : L2.St) (ρ0 : List Slot) : Prop :=
  ∀ F H σ ρ, Sta K F H σ ρ → Tr F0 H0 σ0 ρ0 F H σ ρ → (∀ p ∈ src, σ[p.1]? = σ0[p.1]? ∧ cont ρ p.1 = some p.2) →
    (∀ i, items.length ≤ i → J.stop i H) ∧ ∀ i d, items[i]? = some d → J.go i H ∧ ∀ x H', J.yld i H x H' → ∃ F', Ex F F' ∧ Ex H H' ∧ Ex F' H' ∧ (∀ b o, F' b = some o → F b = some o ∨ H b = none) ∧ Dp K F' x d
end
abbrev DTI := List Slot → (List D → List (Nat × D) → List Slot → Prop) → Prop
def upI (K : PySem.W.Frag) (w : DTI) : TI := fun σ H R => ∃ F ρ k, Sta K F H σ ρ ∧ w ρ k ∧ ∀ items src ρ' F' H' J, k items src ρ' → Sta K F' H' σ ρ' → TrX F H σ ρ F' H' ρ' → Wk K J items src F' H' σ ρ' → R J H'
theorem PI.le {X : Cx} {tg it : Expr} {t u : TI} (h : PI X tg it t) (w : ∀ σ H R, u σ H R → t σ H R) : PI X tg it u := ⟨fun pins s σ H R I q => h.run pins s σ H R I (w _ _ _ q)⟩
def DI (X : Cx) (tg it : Expr) (w : DTI) : Prop := PI X tg it (upI X.K w)
def dLoop (g : DTG) (s : DTS) (E : DEnds) : List D → List Slot → Prop
  | [], ρ => E.nx ρ
  | d :: ds, ρ => g d ρ fun ρ1 => s { nx := dLoop g s E ds, rt := E.rt, bk := E.nx, ct := dLoop g s E ds } ρ1
@[simp] def dFor (w : DTI) (g : DTG) (s : DTS) : DTS := fun E ρ => w ρ fun items src ρ1 => (match src with | [] => True | _ => False) ∧ dLoop g s E items ρ1
section
variable {X : Cx} {pos : Pos}
theorem ds_for {tg iter : Expr} {body : List Stmt} {w : DTI} {js : List Nat} {g : DTG} {s : DTS} (hp : PassesOwn (model X.prog X.w) X.A X.env X.xe) (hc : X.calm = true) (hi : DI X tg iter w) (hg : DG X tg js g) (hb : DSs X body s)
    (hs : ∀ x, foldedSetIterable iter X.env x = pure x := by intro _; rfl) : DS X (.For tg iter body [] pos) (dFor w g s) :=
  PS.le (ps_for hp hc hi hg hb hs) fun E σ H ⟨F, ρ, G, S, q, f1, f2, f3, f4⟩ => ⟨F, ρ, _, S, q, fun items src ρ1 F1 H1 J q S1 T1 wk => by
    obtain ⟨q0, q⟩ := q
    split at q0
    · refine ⟨fun i m σ' H' => m = items.length - i ∧ i ≤ items.length ∧ ∃ F' ρ', Sta X.K F' H' σ' ρ' ∧ Tr F1 H1 σ ρ1 F' H' σ' ρ' ∧ dLoop g s G (items.drop i) ρ', ⟨items.length, by simp, Nat.zero_le _, F1, ρ1, S1, .refl, q⟩, ?_⟩
      rintro i m σ2 H2 ⟨rfl, hi, F2, ρ2, S2, T2, q2⟩
      obtain ⟨w1, w2⟩ := wk F2 H2 σ2 ρ2 S2 T2 fun p hp => absurd hp (by simp)
      by_cases hl : i < items.length
      · rw [List.drop_eq_getElem_cons hl] at q2
        obtain ⟨go, yl⟩ := w2 i items[i] (List.getElem?_eq_getElem hl)
        refine .inr ⟨go, fun σ' H' => ∃ F' ρ', Sta X.K F' H' σ' ρ' ∧ Tr F1 H1 σ ρ1 F' H' σ' ρ' ∧ dLoop g s G (items.drop (i + 1)) ρ', fun σ' H' z => ⟨items.length - (i + 1), by omega, rfl, hl, z⟩, fun x H3 hy => ?_⟩
        obtain ⟨F3, e1, e2, e3, e4, dp⟩ := yl x H3 hy
        have S3 := S2.grow e1 e2 e3 e4
        have T3 : Tr F2 H2 σ2 ρ2 F3 H3 σ2 ρ2 := ⟨e1, fun b o h _ _ => e2 b o h, fun b o h => ⟨o, e2 b o h⟩, fun _ h => .inl h, fun b o h => (e4 b o h).imp id .inl⟩
        have T3 := T2.trans T3
        refine ⟨F3, ρ2, items[i], _, S3, dp, q2, fun σ4 ρ4 F4 H4 q4 S4 T4 _ _ => ?_⟩
        have T4 := T3.trans T4
        have T5 := T1.toTr.trans T4
        exact ⟨F4, ρ4, _, S4, q4, fun σ5 ρ5 F5 H5 q S5 T5 => ⟨F5, ρ5, S5, T4.trans T5, q⟩, fun r σ' ρ' v F' H' q S' T' f => f2 r σ' ρ' v F' H' q S' (T5.trans T') (f.back fun _ z => T5.none z),
          fun σ5 ρ5 F5 H5 q S5 T' => f1 σ5 ρ5 F5 H5 q S5 (T5.trans T'), fun σ5 ρ5 F5 H5 q S5 T5 => ⟨F5, ρ5, S5, T4.trans T5, q⟩⟩
      · have e : i = items.length := by omega
        subst e
        rw [List.drop_length] at q2
        exact .inl ⟨w1 _ (Nat.le_refl _), f1 σ2 ρ2 F2 H2 q2 S2 (T1.toTr.trans T2)⟩
    · exact q0.elim⟩
end

/-! ### comprehensions -/
@[simp] def wipeR (ρ : List Slot) : List Nat → List Slot
  | [] => ρ
  | j :: vs => (wipeR ρ vs).set j .un
@[simp] def keepS : Option Slot → Slot
  | some (.fz d) => .fz d
  | some (.rd d) => .rd d
  | _ => .un
@[simp] def restR (vs : List Nat) (ρ0 ρ1 : List Slot) : List Slot := match vs with
  | [] => ρ1
  | j :: vs => (restR vs ρ0 ρ1).set j (keepS ρ0[j]?)
def dCompL (g : DTG) (tt : DTT) (te : DTE) (src : List (Nat × D)) (vs : List Nat) (k : List D → List Slot → Prop) : List D → List D → List Slot → Prop
  | [], acc, ρ => stl src ρ ∧ k acc ρ
  | d :: ds, acc, ρ => stl src ρ ∧ g d ρ fun ρ1 => tt ρ1 fun b ρ2 => if b = true then te ρ2 fun r ρ3 => fzR r ρ3 fun v ρ4 => acc.length < sizeLine ∧ dCompL g tt te src vs k ds (acc ++ [v]) (wipeR ρ4 vs)
      else dCompL g tt te src vs k ds acc (wipeR ρ2 vs)
@[simp] def dComp (w : DTI) (g : DTG) (tt : DTT) (te : DTE) (vs : List Nat) : DTE := fun ρ k => w ρ fun items src ρ1 => (∀ p ∈ src, p.1 ∉ vs) ∧ dCompL g tt te src vs (fun acc ρ2 => k (.tm .l (.list acc)) (restR vs ρ1 ρ2)) items [] (wipeR ρ1 vs)
def DTsT (X : Cx) (ifs : List Expr) (d : DTT) : Prop := PTs X ifs (upT X.K d)
@[simp] def dYes : DTT := fun ρ k => k true ρ
section
variable {X : Cx}
theorem PTs.le {ifs : List Expr} {t u : TT} (h : PTs X ifs t) (w : ∀ σ H Q, u σ H Q → t σ H Q) : PTs X ifs u := ⟨fun pins s σ H Q I q => h.run pins s σ H Q I (w _ _ _ q)⟩
theorem dts_nil : DTsT X [] dYes := PTs.le pts_nil fun σ H Q ⟨F, ρ, k, S, q, fin⟩ => fin _ _ F H q S .refl
theorem dts_one {c : Expr} {t : DTT} (h : DT X c t) : DTsT X [c] t := pts_one h
end
section
variable {K : PySem.W.Frag} {F F' F0 F1 F2 H H' H0 H1 H2 : Hp} {σ σ' σ0 σ1 σ2 : L2.St} {ρ ρ' ρ0 ρ1 ρ2 : List Slot}
theorem wipeR_get {j : Nat} : ∀ {vs : List Nat}, j ∉ vs → (wipeR ρ vs)[j]? = ρ[j]?
  | [], _ => rfl
  | v :: vs, h => by
    have h1 : v ≠ j := fun z => h (by simp [z])
    show ((wipeR ρ vs).set v .un)[j]? = _
    rw [List.getElem?_set_ne h1]
    exact wipeR_get fun z => h (by simp [z])
theorem wipeR_un {j : Nat} {s : Slot} : ∀ {vs : List Nat}, j ∈ vs → (wipeR ρ vs)[j]? = some s → s = .un
  | v :: vs, h, e => by
    have e : ((wipeR ρ vs).set v .un)[j]? = some s := e
    rcases get_sets e with ⟨_, z⟩ | ⟨z1, z2⟩
    · exact z
    · rcases List.mem_cons.mp h with y | y
      · exact absurd y.symm z1
      · exact wipeR_un y z2
theorem wipeR_cases {j : Nat} {s : Slot} {vs : List Nat} (e : (wipeR ρ vs)[j]? = some s) : s = .un ∨ (j ∉ vs ∧ ρ[j]? = some s) := by
  by_cases h : j ∈ vs
  · exact .inl (wipeR_un h e)
  · exact .inr ⟨h, by rw [← wipeR_get h]; exact e⟩
theorem wipeR_len : ∀ {vs : List Nat}, (wipeR ρ vs).length = ρ.length
  | [] => rfl
  | v :: vs => by show ((wipeR ρ vs).set v .un).length = _; rw [List.length_set]; exact wipeR_len
theorem wipe_get {j : Nat} : ∀ {vs : List Nat}, j ∉ vs → (wipe σ vs)[j]? = σ[j]? := fun {vs} h => by
  exact wipe_out h
theorem oa_wipe {vs : List Nat} {b : Addr} (h : OA (wipe σ vs) (wipeR ρ vs) b) : OA σ ρ b := by
  obtain ⟨i, t, κ, d, h1, h2⟩ := h
  rcases wipeR_cases h1 with z | ⟨z, h1⟩
  · cases z
  · rw [wipe_get z] at h2
    exact ⟨i, t, κ, d, h1, h2⟩
theorem Sta.wipe {vs : List Nat} (S : Sta K F H σ ρ) : Sta K F H (wipe σ vs) (wipeR ρ vs) := by
  refine ⟨S.sub, by rw [wipe_length, wipeR_len]; exact S.len, fun i d e => ?_, fun i d e => ?_, fun i t κ d e => ?_, fun i j t t' κ κ' d d' a e e' h h' => ?_, S.tab⟩
  · rcases wipeR_cases e with z | ⟨z, e⟩
    · cases z
    · rw [wipe_get z]; exact S.fz i d e
  · rcases wipeR_cases e with z | ⟨z, e⟩
    · cases z
    · rw [wipe_get z]
      obtain ⟨v, h1, h2⟩ := S.rd i d e
      refine ⟨v, h1, ?_⟩
      rcases h2 with h2 | ⟨κ, a, e1, h2, n⟩
      · exact .inl h2
      · exact .inr ⟨κ, a, e1, h2, fun y => n (oa_wipe y)⟩
  · rcases wipeR_cases e with z | ⟨z, e⟩
    · cases z
    · rw [wipe_get z]; exact S.ow i t κ d e
  · rcases wipeR_cases e with z | ⟨z, e⟩
    · cases z
    · rcases wipeR_cases e' with z' | ⟨z', e'⟩
      · cases z'
      · rw [wipe_get z] at h
        rw [wipe_get z'] at h'
        exact S.inj i j t t' κ κ' d d' a e e' h h'
theorem restR_out {j : Nat} : ∀ {vs : List Nat}, j ∉ vs → (restR vs ρ0 ρ1)[j]? = ρ1[j]?
  | [], _ => rfl
  | v :: vs, h => by
    have h1 : v ≠ j := fun z => h (by simp [z])
    show ((restR vs ρ0 ρ1).set v (keepS ρ0[v]?))[j]? = _
    rw [List.getElem?_set_ne h1]
    exact restR_out fun z => h (by simp [z])
theorem restR_in {j : Nat} {s : Slot} : ∀ {vs : List Nat}, j ∈ vs → (restR vs ρ0 ρ1)[j]? = some s → s = keepS ρ0[j]?
  | v :: vs, h, e => by
    have e : ((restR vs ρ0 ρ1).set v (keepS ρ0[v]?))[j]? = some s := e
    rcases get_sets e with ⟨y, z⟩ | ⟨z1, z2⟩
    · rw [← y]; exact z
    · rcases List.mem_cons.mp h with y | y
      · exact absurd y.symm z1
      · exact restR_in y z2
theorem restR_len : ∀ {vs : List Nat}, (restR vs ρ0 ρ1).length = ρ1.length
  | [] => rfl
  | v :: vs => by show ((restR vs ρ0 ρ1).set v _).length = _; rw [List.length_set]; exact restR_len
theorem keepS_fz {s : Option Slot} {d : D} (h : Slot.fz d = keepS s) : s = some (.fz d) := by
  unfold keepS at h; split at h <;> cases h; rfl
theorem keepS_rd {s : Option Slot} {d : D} (h : Slot.rd d = keepS s) : s = some (.rd d) := by
  unfold keepS at h; split at h <;> cases h; rfl
theorem keepS_ow {s : Option Slot} {t κ} {d : D} (h : Slot.ow t κ d = keepS s) : False := by
  unfold keepS at h; split at h <;> cases h
/-- behind a block: the names around it stand again -/
theorem Sta.rest {vs : List Nat} (S0 : Sta K F0 H0 σ ρ0) (S : Sta K F H (L2.wipe σ vs) (wipeR ρ vs)) (T : Tr F0 H0 (L2.wipe σ vs) (wipeR ρ0 vs) F H (L2.wipe σ vs) (wipeR ρ vs)) : Sta K F H σ (restR vs ρ0 (wipeR ρ vs)) := by
  have cs : ∀ {j : Nat} {s : Slot}, (restR vs ρ0 (wipeR ρ vs))[j]? = some s → (j ∈ vs ∧ s = keepS ρ0[j]?) ∨ (j ∉ vs ∧ (wipeR ρ vs)[j]? = some s) := fun {j s} e => by
    by_cases h : j ∈ vs
    · exact .inl ⟨h, restR_in h e⟩
    · exact .inr ⟨h, by rw [← restR_out h (ρ0 := ρ0)]; exact e⟩
  have oa : ∀ b, OA σ (restR vs ρ0 (wipeR ρ vs)) b → OA (L2.wipe σ vs) (wipeR ρ vs) b := fun b ⟨i, t, κ, d, h1, h2⟩ => by
    rcases cs h1 with ⟨_, z⟩ | ⟨z, h1⟩
    · exact (keepS_ow z).elim
    · exact ⟨i, t, κ, d, h1, by rw [wipe_get z]; exact h2⟩
  refine ⟨S.sub, ?_, fun i d e => ?_, fun i d e => ?_, fun i t κ d e => ?_, fun i j t t' κ κ' d d' a e e' h h' => ?_, S.tab⟩
  · rw [restR_len, ← S.len, wipe_length]
  · rcases cs e with ⟨_, z⟩ | ⟨z, e⟩
    · obtain ⟨v, h1, h2⟩ := S0.fz i d (keepS_fz z)
      exact ⟨v, h1, dp_mono T.fext h2⟩
    · obtain ⟨v, h1, h2⟩ := S.fz i d e
      rw [wipe_get z] at h1
      exact ⟨v, h1, h2⟩
  · rcases cs e with ⟨_, z⟩ | ⟨z, e⟩
    · obtain ⟨v, h1, h2⟩ := S0.rd i d (keepS_rd z)
      refine ⟨v, h1, ?_⟩
      have h2' : RdN K F0 H0 (OA (L2.wipe σ vs) (wipeR ρ0 vs)) v d := by
        rcases h2 with h2 | ⟨κ, a, e1, h2, n⟩
        · exact .inl h2
        · exact .inr ⟨κ, a, e1, h2, fun y => n (oa_wipe y)⟩
      rcases RdN.later h2' T with h3 | ⟨κ, a, e1, h3, n⟩
      · exact .inl h3
      · exact .inr ⟨κ, a, e1, h3, fun y => n (oa a y)⟩
    · obtain ⟨v, h1, h2⟩ := S.rd i d e
      rw [wipe_get z] at h1
      refine ⟨v, h1, ?_⟩
      rcases h2 with h3 | ⟨κ, a, e1, h3, n⟩
      · exact .inl h3
      · exact .inr ⟨κ, a, e1, h3, fun y => n (oa a y)⟩
  · rcases cs e with ⟨_, z⟩ | ⟨z, e⟩
    · exact (keepS_ow z).elim
    · obtain ⟨a, h1, h2⟩ := S.ow i t κ d e
      rw [wipe_get z] at h1
      exact ⟨a, h1, h2⟩
  · rcases cs e with ⟨_, z⟩ | ⟨z, e⟩
    · exact (keepS_ow z).elim
    · rcases cs e' with ⟨_, z'⟩ | ⟨z', e'⟩
      · exact (keepS_ow z').elim
      · exact S.inj i j t t' κ κ' d d' a e e' (by rw [wipe_get z]; exact h) (by rw [wipe_get z']; exact h')
theorem Tr.rest {vs : List Nat} (S0 : Sta K F0 H0 σ ρ0) (T : Tr F0 H0 (L2.wipe σ vs) (wipeR ρ0 vs) F H (L2.wipe σ vs) (wipeR ρ vs)) (sl : ∀ (i : Nat) (t : Option Addr) (κ : Kd) (d : D), (wipeR ρ vs)[i]? = some (.ow t κ d) → ∃ d0, (wipeR ρ0 vs)[i]? = some (.ow t κ d0))
    (sr : ∀ (i : Nat) (d : D), (wipeR ρ vs)[i]? = some (.rd d) → (wipeR ρ0 vs)[i]? = some (.rd d) ∨ ∃ t κ d0, (wipeR ρ0 vs)[i]? = some (.ow t κ d0)) : TrX F0 H0 σ ρ0 F H (restR vs ρ0 (wipeR ρ vs)) := by
  have cs : ∀ {j : Nat} {s : Slot}, (restR vs ρ0 (wipeR ρ vs))[j]? = some s → (j ∈ vs ∧ s = keepS ρ0[j]?) ∨ (j ∉ vs ∧ (wipeR ρ vs)[j]? = some s) := fun {j s} e => by
    by_cases h : j ∈ vs
    · exact .inl ⟨h, restR_in h e⟩
    · exact .inr ⟨h, by rw [← restR_out h (ρ0 := ρ0)]; exact e⟩
  refine ⟨⟨T.fext, fun b o h nt n => T.keep b o h nt fun z => n (oa_wipe z), T.there, fun b h => ?_, fun b o h => ?_⟩, fun i t κ d e => ?_, fun i d e => ?_⟩
  · obtain ⟨i, t, κ, d, h1, h2⟩ := h
    rcases cs h1 with ⟨_, z⟩ | ⟨z, h1⟩
    · exact (keepS_ow z).elim
    · exact (T.own b ⟨i, t, κ, d, h1, by rw [wipe_get z]; exact h2⟩).imp oa_wipe id
  · rcases T.fnew b o h with y | y | y
    · exact .inl y
    · exact .inr (.inl y)
    · exact .inr (.inr (oa_wipe y))
  · rcases cs e with ⟨_, z⟩ | ⟨z, e⟩
    · exact (keepS_ow z).elim
    · obtain ⟨d0, h⟩ := sl i t κ d e
      rw [wipeR_get z] at h
      exact ⟨d0, h⟩
  · rcases cs e with ⟨_, z⟩ | ⟨z, e⟩
    · exact .inl (keepS_rd z)
    · have h := sr i d e
      rw [wipeR_get z] at h
      exact h
/-- an object that is neither frozen nor owned is changed -/
theorem Sta.updD {L : Addr} {o : HO} (S : Sta K F H σ ρ) (nl : ∀ o, H L = some o → NC o) (f : F L = none) (n : ¬ OA σ ρ L) (r : ∀ (i : Nat) (d : D), ρ[i]? = some (.rd d) → σ[i]? = some (some (.ref L)) → Dp K F (.ref L) d) : Sta K F (upd H L o) σ ρ := by
  refine ⟨fun b u h => ?_, S.len, S.fz, fun i d e => ?_, fun i t κ d e => ?_, S.inj, ⟨tabs_at S.tab.tabs nl fun b hb => upd_ne hb, S.tab.free⟩⟩
  · rw [upd_ne (fun z => by rw [z, f] at h; cases h)]
    exact S.sub b u h
  · obtain ⟨v, h1, h2⟩ := S.rd i d e
    refine ⟨v, h1, ?_⟩
    by_cases hv : v = .ref L
    · subst hv; exact .inl (r i d e h1)
    · rcases h2 with h2 | ⟨κ, a, e1, h2, m⟩
      · exact .inl h2
      · refine .inr ⟨κ, a, e1, h2.mono (Ex.refl F) fun u _ q => ?_, m⟩
        rw [upd_ne (fun z => hv (by rw [e1, z]))]
        exact q
  · obtain ⟨a, h1, h2, h3, h4⟩ := S.ow i t κ d e
    refine ⟨a, h1, h2.mono (Ex.refl F) fun u _ q => ?_, h3, h4⟩
    rw [upd_ne (fun z => n ⟨i, t, κ, d, e, by rw [← z]; exact h1⟩)]
    exact q
theorem Tr.wiped {vs : List Nat} (T : Tr F0 H0 σ0 ρ0 F H σ ρ) : Tr F0 H0 σ0 ρ0 F H (L2.wipe σ vs) (wipeR ρ vs) := ⟨T.fext, T.keep, T.there, fun b h => T.own b (oa_wipe h), T.fnew⟩
/-- what a comprehension's block keeps: L the new list -/
structure Blk (K : PySem.W.Frag) (L : Addr) (vs : List Nat) (F1 H1 : Hp) (σ : L2.St) (ρ1 : List Slot) (F H : Hp) (ρ : List Slot) (acc : List D) : Prop where
  sta : Sta K F H (L2.wipe σ vs) (wipeR ρ vs)
  tr : Tr F1 H1 (L2.wipe σ vs) (wipeR ρ1 vs) F H (L2.wipe σ vs) (wipeR ρ vs)
  slow : ∀ (i : Nat) (t : Option Addr) (κ : Kd) (d : D), (wipeR ρ vs)[i]? = some (.ow t κ d) → ∃ d0, (wipeR ρ1 vs)[i]? = some (.ow t κ d0)
  slrd : ∀ (i : Nat) (d : D), (wipeR ρ vs)[i]? = some (.rd d) → (wipeR ρ1 vs)[i]? = some (.rd d) ∨ ∃ t κ d0, (wipeR ρ1 vs)[i]? = some (.ow t κ d0)
  lst : ∃ xs, H L = some (.lst xs) ∧ DpAll K F xs acc
theorem Tr.nof {L : Addr} {o : HO} (T : Tr F0 H0 σ0 ρ0 F H σ ρ) (h : H0 L = some o) (f : F0 L = Option.none) (n : ¬ OA σ0 ρ0 L) : F L = Option.none ∧ ¬ OA σ ρ L := by
  constructor
  · cases e : F L with
    | none => rfl
    | some u =>
      rcases T.fnew L u e with y | y | y
      · rw [f] at y; cases y
      · rw [h] at y; cases y
      · exact absurd y n
  · intro z
    rcases T.own L z with y | y
    · exact n y
    · rw [h] at y; cases y
end
section
variable {X : Cx} {pos : Pos}
theorem up_comp {w : DTI} {js : List Nat} {g : DTG} {tt : DTT} {te : DTE} {vs : List Nat} {K : PySem.W.Frag} (hj : ∀ j ∈ js, j ∈ vs) {σ : L2.St} {H : Hp} {Q : VK} (h : up K (dComp w g tt te vs) σ H Q) :
    tLc (upI K w) (upG K js g) (upT K tt) (up K te) vs σ H Q := by
  obtain ⟨F, ρ, k, S, q, fin⟩ := h
  refine ⟨F, ρ, _, S, q, fun items src ρ1 F1 H1 J q S1 T1 wk L hL => ?_⟩
  obtain ⟨q0, q⟩ := q
  have fL : F1 L = none := by
    cases e : F1 L with
    | none => rfl
    | some o => rw [S1.sub L o e] at hL; cases hL
  have oL : ¬ OA σ ρ1 L := fun ⟨i, t, κ, d, h1, h2⟩ => by
    obtain ⟨a, e1, h3, _⟩ := S1.ow i t κ d h1
    rw [h2] at e1
    cases e1
    obtain ⟨o, ho⟩ := h3.some
    rw [hL] at ho; cases ho
  have oLw : ¬ OA (L2.wipe σ vs) (wipeR ρ1 vs) L := fun z => oL (oa_wipe z)
  have Sw := S1.wipe (vs := vs)
  have rdw : ∀ (i : Nat) (d : D), (wipeR ρ1 vs)[i]? = some (.rd d) → (L2.wipe σ vs)[i]? = some (some (.ref L)) → Dp K F1 (.ref L) d := fun i d e1 e2 => by
    obtain ⟨v, h1, h2⟩ := Sw.rd i d e1
    rw [e2] at h1
    cases h1
    rcases h2 with h2 | ⟨κ, a, e3, h2, _⟩
    · exact h2
    · cases e3
      obtain ⟨o, ho⟩ := h2.some
      rw [hL] at ho; cases ho
  let W : Nat → Nat → Hp → Prop := fun i m H' => m = items.length - i ∧ i ≤ items.length ∧ ∃ F' ρ' acc, F' L = none ∧ ¬ OA (L2.wipe σ vs) (wipeR ρ' vs) L ∧ Blk K L vs F1 H1 σ ρ1 F' H' ρ' acc ∧
    dCompL g tt te src vs (fun acc ρ2 => k (.tm .l (.list acc)) (restR vs ρ1 ρ2)) (items.drop i) acc (wipeR ρ' vs)
  refine ⟨W, ⟨items.length, by simp, Nat.zero_le _, F1, ρ1, [], fL, oLw, ⟨Sw.updD (fun o z => by rw [hL] at z; cases z) fL oLw rdw, ⟨Ex.refl F1, fun b o h _ _ => Ex.new hL b o h, fun b o h => ⟨o, Ex.new hL b o h⟩, fun _ h => .inl h, fun _ _ h => .inl h⟩, fun _ _ _ d h => ⟨d, h⟩, fun _ _ h => .inl h, [], upd_same, .nil⟩, q⟩, ?_⟩
  rintro i m H2 ⟨rfl, hi, F2, ρ2, acc, f2, o2, B, q2⟩
  have src_ok : stl src (wipeR ρ2 vs) → ∀ p ∈ src, σ[p.1]? = σ[p.1]? ∧ cont (wipeR ρ2 vs) p.1 = some p.2 := fun z p hp => ⟨rfl, stl_all z p hp⟩
  -- the iterator's word, in the block's state
  have wk2 : stl src (wipeR ρ2 vs) → (∀ i, items.length ≤ i → J.stop i H2) ∧ ∀ i d, items[i]? = some d → J.go i H2 ∧ ∀ x H', J.yld i H2 x H' → ∃ F', Ex F2 F' ∧ Ex H2 H' ∧ Ex F' H' ∧ (∀ b o, F' b = some o → F2 b = some o ∨ H2 b = none) ∧ Dp K F' x d := fun z => by
    have TX := Tr.rest S1 B.tr B.slow B.slrd
    refine wk F2 H2 σ (restR vs ρ1 (wipeR ρ2 vs)) (Sta.rest S1 B.sta B.tr) TX.toTr fun p hp => ⟨rfl, ?_⟩
    have := stl_all z p hp
    unfold cont at this ⊢
    rw [restR_out (q0 p hp)]
    exact this
  by_cases hl : i < items.length
  · rw [List.drop_eq_getElem_cons hl] at q2
    obtain ⟨qs, q2⟩ := q2
    obtain ⟨go, yl⟩ := (wk2 qs).2 i items[i] (List.getElem?_eq_getElem hl)
    refine .inr ⟨go, fun H' => W (i + 1) (items.length - (i + 1)) H', fun H' z => ⟨items.length - (i + 1), by omega, z⟩, fun x H3 hy => ?_⟩
    obtain ⟨F3, e1, e2, e3, e4, dp⟩ := yl x H3 hy
    have S3 := B.sta.grow e1 e2 e3 e4
    have T3 : Tr F2 H2 (L2.wipe σ vs) (wipeR ρ2 vs) F3 H3 (L2.wipe σ vs) (wipeR ρ2 vs) := ⟨e1, fun b o h _ _ => e2 b o h, fun b o h => ⟨o, e2 b o h⟩, fun _ h => .inl h, fun b o h => (e4 b o h).imp id .inl⟩
    refine ⟨F3, wipeR ρ2 vs, items[i], _, S3, dp, q2, fun σ4 ρ4 F4 H4 q4 S4 T4 l4 n4 => ?_⟩
    have wσ : L2.wipe σ4 vs = L2.wipe σ vs := by
      refine List.ext_getElem? fun j => ?_
      by_cases hj' : j ∈ vs
      · have wn : ∀ {τ : L2.St} {us : List Nat}, j ∈ us → j < τ.length → (L2.wipe τ us)[j]? = some none := fun {τ us} => by
          induction us with
          | nil => intro h; cases h
          | cons u us ih =>
            intro h hl
            by_cases e : u = j
            · subst e
              show ((L2.wipe τ us).set u none)[u]? = _
              rw [List.getElem?_set]
              simp [wipe_length, hl]
            · show ((L2.wipe τ us).set u none)[j]? = _
              rw [List.getElem?_set_ne e]
              exact ih ((List.mem_cons.mp h).resolve_left (fun z => e z.symm)) hl
        have le : σ4.length = σ.length := by rw [l4, wipe_length]
        by_cases hlt : j < σ.length
        · rw [wn hj' (by omega), wn hj' hlt]
        · rw [List.getElem?_eq_none (by rw [wipe_length]; omega), List.getElem?_eq_none (by rw [wipe_length]; omega)]
      · rw [wipe_get hj', (n4 j fun z => hj' (hj j z)).1]
    refine ⟨wσ, F4, ρ4, _, S4, q4, fun b ρ5 F5 H5 q5 S5 T5 => ?_⟩
    have ρslow : ∀ {ρ6 : List Slot}, (∀ (i : Nat) (t : Option Addr) (κ : Kd) (d : D), ρ6[i]? = some (.ow t κ d) → ∃ d0, ρ4[i]? = some (.ow t κ d0)) → ∀ (i : Nat) (t : Option Addr) (κ : Kd) (d : D), (wipeR ρ6 vs)[i]? = some (.ow t κ d) → ∃ d0, (wipeR ρ1 vs)[i]? = some (.ow t κ d0) := fun {ρ6} h i t κ d e => by
      rcases wipeR_cases e with z | ⟨z, e⟩
      · cases z
      · obtain ⟨d1, h1⟩ := h i t κ d e
        rw [(n4 i fun y => z (hj i y)).2] at h1
        exact B.slow i t κ d1 h1
    have ρslrd : ∀ {ρ6 : List Slot}, (∀ (i : Nat) (d : D), ρ6[i]? = some (.rd d) → ρ4[i]? = some (.rd d) ∨ ∃ t κ d0, ρ4[i]? = some (.ow t κ d0)) → ∀ (i : Nat) (d : D), (wipeR ρ6 vs)[i]? = some (.rd d) → (wipeR ρ1 vs)[i]? = some (.rd d) ∨ ∃ t κ d0, (wipeR ρ1 vs)[i]? = some (.ow t κ d0) := fun {ρ6} h i d e => by
      rcases wipeR_cases e with z | ⟨z, e⟩
      · cases z
      · rcases h i d e with h1 | ⟨t, κ, d1, h1⟩
        · rw [(n4 i fun y => z (hj i y)).2] at h1
          exact B.slrd i d h1
        · rw [(n4 i fun y => z (hj i y)).2] at h1
          obtain ⟨d2, h2⟩ := B.slow i t κ d1 h1
          exact .inr ⟨t, κ, d2, h2⟩
    obtain ⟨xs, hx, hd⟩ := B.lst
    cases b with
    | false =>
      have T6 : Tr F2 H2 (L2.wipe σ vs) (wipeR ρ2 vs) F5 H5 σ4 ρ5 := T3.trans (T4.trans T5.toTr)
      have T6w := T6.wiped (vs := vs)
      rw [wσ] at T6w
      obtain ⟨f6, o6⟩ := T6w.nof hx f2 o2
      have S6 := S5.wipe (vs := vs)
      rw [wσ] at S6
      exact ⟨rfl, hl, F5, ρ5, acc, f6, o6, ⟨S6, B.tr.trans T6w, ρslow T5.slow, ρslrd T5.slrd, xs, T6.keep _ _ hx nt_l o2, dpAll_mono T6.fext hd⟩, q5⟩
    | true =>
      refine ⟨F5, ρ5, _, S5, q5, fun r ρ6 v F6 H6 q6 S6 T6 f => ?_⟩
      obtain ⟨dv, ρ7, F7, q7, S7, T7, dpv, _⟩ := fzR_ok S6 f.w T6 q6
      obtain ⟨hz, q7⟩ := q7
      have T7' := T5.trans T7
      have T8 : Tr F2 H2 (L2.wipe σ vs) (wipeR ρ2 vs) F7 H6 σ4 ρ7 := T3.trans (T4.trans T7'.toTr)
      have T8w := T8.wiped (vs := vs)
      rw [wσ] at T8w
      obtain ⟨f8, o8⟩ := T8w.nof hx f2 o2
      have S8 := S7.wipe (vs := vs)
      rw [wσ] at S8
      have sl := ρslow T7'.slow
      have sr := ρslrd T7'.slrd
      refine ⟨xs, T8.keep _ _ hx nt_l o2, ?_, rfl, hl, F7, ρ7, acc ++ [dv], f8, o8, ⟨S8.updD (fun o z => by rw [T8.keep _ _ hx nt_l o2] at z; cases z; exact nc_l) f8 o8 fun i d e1 e2 => ?_, ?_, sl, sr, xs ++ [v], upd_same, ?_⟩, q7⟩
      · have : ∀ {ys : List V} {ds : List D}, DpAll K F2 ys ds → ys.length = ds.length := fun {ys} => by
          induction ys with
          | nil => intro ds h; cases h; rfl
          | cons y ys ih => intro ds h; cases h with | cons _ r => simp [ih r]
        rw [this hd]; exact hz
      · rcases sr i d e1 with y | ⟨t, κ, d0, y⟩
        · exact dp_mono (B.tr.fext.trans T8.fext) (rdw i d y e2)
        · exact absurd ⟨i, t, κ, d0, y, e2⟩ oLw
      · have T9 := B.tr.trans T8w
        refine ⟨T9.fext, fun b o h nt n => ?_, fun b o h => ?_, T9.own, T9.fnew⟩
        · have hne : b ≠ L := fun z => by rw [z, hL] at h; cases h
          rw [upd_ne hne]; exact T9.keep b o h nt n
        · have hne : b ≠ L := fun z => by rw [z, hL] at h; cases h
          rw [upd_ne hne]; exact T9.there b o h
      · have ap : ∀ {ys : List V} {ds : List D}, DpAll K F7 ys ds → DpAll K F7 (ys ++ [v]) (ds ++ [dv]) := fun {ys} => by
          induction ys with
          | nil => intro ds h; cases h; exact .cons dpv .nil
          | cons y ys ih => intro ds h; cases h with | cons p r => exact .cons p (ih r)
        exact ap (dpAll_mono T8.fext hd)
  · have e : i = items.length := by omega
    subst e
    rw [List.drop_length] at q2
    obtain ⟨qs, q2⟩ := q2
    refine .inl ⟨(wk2 qs).1 _ (Nat.le_refl _), ?_⟩
    have TX := Tr.rest S1 B.tr B.slow B.slrd
    have SX := Sta.rest S1 B.sta B.tr
    obtain ⟨xs, hx, hd⟩ := B.lst
    refine fin _ _ _ _ _ q2 SX (T1.trans TX) ⟨L, rfl, ⟨xs, acc, rfl, hx, hd⟩, f2, fun ⟨i, t, κ, d, h1, h2⟩ => ?_, T1.none hL⟩
    obtain ⟨d0, h3⟩ := TX.slow i t κ d h1
    exact oL ⟨i, t, κ, d0, h3, h2⟩
theorem de_comp {elt tg iter : Expr} {ifs : List Expr} {scope : Scope} {own : List (Str × Nat)} {w : DTI} {js : List Nat} {g : DTG} {tt : DTT} {te : DTE} (hc : X.calm = true) (hN : X.N.Nodup) (hi : DI X tg iter w) (ok : BlkOk X.N X.env.scope scope own)
    (hg : ∀ (s : Shared) (H : Hp) (C : Addr) (cl : List (Str × Addr)) (fp : List Addr), DG (X.blk s H scope (compEnvC scope cl C X.env) fp) tg js g) (ht : ∀ (s : Shared) (H : Hp) (C : Addr) (cl : List (Str × Addr)) (fp : List Addr), DTsT (X.blk s H scope (compEnvC scope cl C X.env) fp) ifs tt)
    (he : ∀ (s : Shared) (H : Hp) (C : Addr) (cl : List (Str × Addr)) (fp : List Addr), DE (X.blk s H scope (compEnvC scope cl C X.env) fp) elt te) (hj : ∀ j ∈ js, j ∈ own.map (·.2) := by decide) (hs : ∀ x, foldedSetIterable iter X.env x = pure x := by intro _; rfl) :
    DE X (.ListComp elt [⟨tg, iter, ifs, 0⟩] scope pos) (dComp w g tt te (own.map (·.2))) :=
  PE.le (pe_lc (wi := upI X.K w) (g := upG X.K js g) (tt := upT X.K tt) (te := up X.K te) hc hN hi ok hg ht he hs) fun σ H Q h => up_comp hj h
theorem ds_setLc {i : Nat} {y : Str} {py : Pos} {elt tg iter : Expr} {ifs : List Expr} {scope : Scope} {own : List (Str × Nat)} {spos : Pos} {w : DTI} {js : List Nat} {g : DTG} {tt : DTT} {te : DTE} (hc : X.calm = true) (hN : X.N.Nodup) (hy : X.N[i]? = some y) (hyl : X.env.scope.names.lookup y = some .local)
    (hsw : swapsWith (.ListComp elt [⟨tg, iter, ifs, 0⟩] scope pos) (some (.Name y py)) spos.line X.env = pure true) (hi : DI X tg iter w) (ok : BlkOk X.N X.env.scope scope own)
    (hg : ∀ (s : Shared) (H : Hp) (C : Addr) (cl : List (Str × Addr)) (fp : List Addr), DG (X.blk s H scope (compEnvC scope cl C X.env) fp) tg js g) (ht : ∀ (s : Shared) (H : Hp) (C : Addr) (cl : List (Str × Addr)) (fp : List Addr), DTsT (X.blk s H scope (compEnvC scope cl C X.env) fp) ifs tt)
    (he : ∀ (s : Shared) (H : Hp) (C : Addr) (cl : List (Str × Addr)) (fp : List Addr), DE (X.blk s H scope (compEnvC scope cl C X.env) fp) elt te) (hj : ∀ j ∈ js, j ∈ own.map (·.2) := by decide) (hs : ∀ x, foldedSetIterable iter X.env x = pure x := by intro _; rfl) :
    DS X (.Assign [.Name y py] (.ListComp elt [⟨tg, iter, ifs, 0⟩] scope pos) spos) (dSet i (dComp w g tt te (own.map (·.2)))) :=
  PS.le (ps_setLc (wi := upI X.K w) (g := upG X.K js g) (tt := upT X.K tt) (te := up X.K te) hc hN hy hyl hsw hi ok hg ht he hs) fun E σ H ⟨F, ρ, G, S, q, f1, f2, f3, f4⟩ => by
    refine up_comp (K := X.K) (Q := fun x H1 => E.nx (σ.set i (some x)) H1) hj ⟨F, ρ, _, S, q, fun r ρ1 v F1 H1 q S1 T1 f => ?_⟩
    obtain ⟨s, ρ2, F2, q, S2, T2⟩ := toSlot_ok (i := i) S S1 T1 f q
    exact f1 _ _ _ _ q S2 T2
end
end TL

-- part TL6
/-! TL6: defs: their promises over trees, their calls. -/
namespace TL
open PySem PySem.Spec L2
open Evl (Ex ex_l ex_t)
variable [Lay]

/-- how a parameter is handed in: frozen; to be read; owned, and given back -/
inductive Md | fz | rd | io (κ : Kd)
abbrev TSp := List D → (Res → List D → Prop) → Prop
section
variable (K : PySem.W.Frag)
def ios : List Md → List V → List Addr
  | .io _ :: ms, .ref a :: vs => a :: ios ms vs
  | _ :: ms, _ :: vs => ios ms vs
  | _, _ => []
def ArgAt (F H : Hp) (O : Addr → Prop) : List Md → List V → List D → Prop
  | [], [], [] => True
  | .fz :: ms, v :: vs, d :: ds => Dp K F v d ∧ ArgAt F H O ms vs ds
  | .rd :: ms, v :: vs, d :: ds => RdN K F H O v d ∧ ArgAt F H O ms vs ds
  | .io κ :: ms, v :: vs, d :: ds => (∃ a, v = .ref a ∧ OwAt K F H κ a d ∧ F a = none) ∧ ArgAt F H O ms vs ds
  | _, _, _ => False
def OutAt (F H : Hp) : List Md → List V → List D → Prop
  | [], _, os => os = []
  | .io κ :: ms, v :: vs, d :: os => (∃ a, v = .ref a ∧ OwAt K F H κ a d) ∧ OutAt F H ms vs os
  | .fz :: ms, _ :: vs, os => OutAt F H ms vs os
  | .rd :: ms, _ :: vs, os => OutAt F H ms vs os
  | _, _, _ => False
structure Ret (F H F' H' : Hp) (ms : List Md) (vs : List V) (z : Res) (os : List D) (v : V) : Prop where
  fext : Ex F F'
  sub : Ex F' H'
  keep : ∀ b o, H b = some o → NT o → b ∉ ios ms vs → H' b = some o
  tab : TabF F' H'
  there : ∀ b o, H b = some o → ∃ o', H' b = some o'
  fnew : ∀ b o, F' b = some o → F b = some o ∨ H b = none
  outs : OutAt K F' H' ms vs os
  fit : match z with
    | .fz d => Dp K F' v d
    | .tm κ d => ∃ a, v = .ref a ∧ OwAt K F' H' κ a d ∧ F' a = none ∧ H a = none
    | _ => False
def spT (ms : List Md) (ts : TSp) : Sp := fun vs H Q _ => ∃ F ds k, Ex F H ∧ ArgAt K F H (· ∈ ios ms vs) ms vs ds ∧ (ios ms vs).Nodup ∧ TabF F H ∧ ts ds k ∧ ∀ z os v F' H', k z os → Ret K F H F' H' ms vs z os v → Q v H'
end
/-! ### the call -/
@[simp] def idx : List Md → List Res → List Nat
  | .io _ :: ms, .bo i :: rs => i :: idx ms rs
  | _ :: ms, _ :: rs => idx ms rs
  | _, _ => []
@[simp] def rbo : List Md → List Res → List Nat
  | .io _ :: ms, _ :: rs => rbo ms rs
  | _ :: ms, .bo j :: rs => j :: rbo ms rs
  | _ :: ms, _ :: rs => rbo ms rs
  | _, _ => []
@[simp] def isOw (ρ : List Slot) (i : Nat) : Prop := match ρ[i]? with | some (.ow _ _ _) => True | _ => False
@[simp] def okIo (ms : List Md) (rs : List Res) (ρ : List Slot) : Prop := (idx ms rs).Nodup ∧ (∀ j ∈ rbo ms rs, j ∉ idx ms rs) ∧ ∀ i ∈ idx ms rs, isOw ρ i
@[simp] def passA : List Md → List Res → List Slot → (List D → List Slot → Prop) → Prop
  | [], [], ρ, k => k [] ρ
  | .fz :: ms, r :: rs, ρ, k => fzR r ρ fun d ρ1 => passA ms rs ρ1 fun ds ρ2 => k (d :: ds) ρ2
  | .rd :: ms, r :: rs, ρ, k => wc r ρ fun d => passA ms rs ρ fun ds ρ2 => k (d :: ds) ρ2
  | .io κ :: ms, .bo i :: rs, ρ, k => match ρ[i]? with
    | some (.ow _ κ' d) => κ' = κ ∧ passA ms rs ρ fun ds ρ2 => k (d :: ds) ρ2
    | _ => False
  | _, _, _, _ => False
@[simp] def backA : List Md → List Res → List D → List Slot → (List Slot → Prop) → Prop
  | [], [], [], ρ, k => k ρ
  | .io κ :: ms, .bo i :: rs, d :: os, ρ, k => match ρ[i]? with
    | some (.ow t κ' _) => κ' = κ ∧ backA ms rs os (ρ.set i (.ow t κ d)) k
    | _ => False
  | .fz :: ms, _ :: rs, os, ρ, k => backA ms rs os ρ k
  | .rd :: ms, _ :: rs, os, ρ, k => backA ms rs os ρ k
  | _, _, _, _, _ => False
@[simp] def dCall (ms : List Md) (ts : TSp) (da : DTA) : DTE := fun ρ k => da ρ fun rs ρ1 => okIo ms rs ρ1 ∧ passA ms rs ρ1 fun ds ρ2 => ts ds fun z os => backA ms rs os ρ2 fun ρ3 => k z ρ3
section
variable {K : PySem.W.Frag} {F F' F0 F1 F2 H H' H0 H1 H2 : Hp} {σ σ' σ0 σ1 σ2 : L2.St} {ρ ρ' ρ0 ρ1 ρ2 : List Slot}
theorem isOw_get {i : Nat} (h : isOw ρ i) : ∃ t κ d, ρ[i]? = some (.ow t κ d) := by
  unfold isOw at h
  split at h
  · rename_i t κ d e; exact ⟨t, κ, d, e⟩
  · exact h.elim
/-- freezing leaves the owned slots that it does not name -/
theorem fzR_keep {r : Res} {k : D → List Slot → Prop} {I : List Nat} (hr : ∀ j, r = .bo j → j ∉ I) (h : fzR r ρ k) : fzR r ρ fun d ρ' => k d ρ' ∧ ∀ i ∈ I, ρ'[i]? = ρ[i]? := by
  unfold fzR at h ⊢
  split
  · exact ⟨h, fun _ _ => rfl⟩
  · exact ⟨h, fun _ _ => rfl⟩
  · rename_i j
    simp only at h
    split
    · rename_i d e; rw [e] at h; exact ⟨h, fun _ _ => rfl⟩
    · rename_i d e
      rw [e] at h
      exact ⟨h, fun i hi => by rw [List.getElem?_set_ne]; exact fun z => hr j rfl (z ▸ hi)⟩
    · rename_i n1 n2
      split at h
      · rename_i d e; exact n1 d e
      · rename_i d e; exact n2 d e
      · exact h
  · rename_i n1 n2 n3
    cases r with
    | fz d => exact n1 d rfl
    | tm κ d => cases κ with
      | l => exact n2 d rfl
      | k => exact h
      | t => exact h
    | rd d => exact h
    | bo i => exact n3 i rfl
theorem RdN.imp {O O' : Addr → Prop} {v : V} {d : D} (h : RdN K F H O v d) (i : ∀ a, O' a → O a) : RdN K F H O' v d := by
  rcases h with h | ⟨κ, a, e, h, n⟩
  · exact .inl h
  · exact .inr ⟨κ, a, e, h, fun z => n (i a z)⟩
theorem RdN.mono' {O : Addr → Prop} {v : V} {d : D} (h : RdN K F H O v d) (e : Ex F F') : RdN K F' H O v d := by
  rcases h with h | ⟨κ, a, e', h, n⟩
  · exact .inl (dp_mono e h)
  · exact .inr ⟨κ, a, e', h.mono e fun _ _ z => z, n⟩
/-- the contents of the arguments. I: the slots given out; O: their objects -/
theorem passA_ok {I : List Nat} {vs : List V} : ∀ {ms : List Md} {rs : List Res} {ρ : List Slot} {F : Hp} {k : List D → List Slot → Prop}, (∀ i ∈ idx ms rs, i ∈ I) → (∀ j ∈ rbo ms rs, j ∉ I) → (∀ i ∈ I, isOw ρ i) →
    Sta K F H σ ρ → FitsWAll K F H σ ρ H0 vs rs → TrX F0 H0 σ ρ0 F H ρ → passA ms rs ρ k →
    ∃ ds ρ' F', k ds ρ' ∧ Sta K F' H σ ρ' ∧ TrX F0 H0 σ ρ0 F' H ρ' ∧ ArgAt K F' H (fun b => ∃ i ∈ I, σ[i]? = some (some (.ref b))) ms vs ds ∧ Ex F F' ∧ (∀ i ∈ I, ρ'[i]? = ρ[i]?) ∧ ∀ b, OA σ ρ' b → OA σ ρ b := by
  induction vs with
  | nil =>
    intro ms rs ρ F k hi hj ho S f T h
    cases rs with
    | cons r rs => exact f.elim
    | nil => cases ms with
      | nil => exact ⟨[], ρ, F, h, S, T, trivial, Ex.refl F, fun _ _ => rfl, fun _ z => z⟩
      | cons m ms => cases m <;> exact h.elim
  | cons v vs ih =>
    intro ms rs ρ F k hi hj ho S f T h
    cases rs with
    | nil => exact f.elim
    | cons r rs =>
      obtain ⟨f1, f2⟩ := f
      cases ms with
      | nil => exact h.elim
      | cons m ms =>
        cases m with
        | fz =>
          have hr : ∀ j, r = .bo j → j ∉ I := fun j e => hj j (by subst e; exact List.mem_cons_self)
          have hj' : ∀ j ∈ rbo ms rs, j ∉ I := fun j z => hj j (by cases r <;> first | exact z | exact List.mem_cons_of_mem _ z)
          have hi' : ∀ i ∈ idx ms rs, i ∈ I := hi
          obtain ⟨d, ρ1, F1, ⟨h, hk⟩, S1, T1, dp, e1, o1⟩ := fzR_ok S f1 T (fzR_keep hr h)
          have ho1 : ∀ i ∈ I, isOw ρ1 i := fun i z => by have := ho i z; unfold isOw at this ⊢; rw [hk i z]; exact this
          obtain ⟨ds, ρ2, F2, h, S2, T2, ar, e2, k2, o2⟩ := ih hi' hj' ho1 S1 (f2.frz e1 o1) T1 h
          exact ⟨d :: ds, ρ2, F2, h, S2, T2, ⟨dp_mono e2 dp, ar⟩, e1.trans e2, fun i z => (k2 i z).trans (hk i z), fun b z => o1 b (o2 b z)⟩
        | rd =>
          have hj' : ∀ j ∈ rbo ms rs, j ∉ I := fun j z => hj j (by cases r <;> first | exact z | exact List.mem_cons_of_mem _ z)
          have hi' : ∀ i ∈ idx ms rs, i ∈ I := hi
          have oI : ∀ b, (∃ i ∈ I, σ[i]? = some (some (.ref b))) → OA σ ρ b := fun b ⟨i, z, e⟩ => by
            obtain ⟨t, κ, d, e'⟩ := isOw_get (ho i z)
            exact ⟨i, t, κ, d, e', e⟩
          have rd : ∃ d, RdN K F H (fun b => ∃ i ∈ I, σ[i]? = some (some (.ref b))) v d ∧ passA ms rs ρ fun ds ρ2 => k (d :: ds) ρ2 := by
            have h : wc r ρ fun d => passA ms rs ρ fun ds ρ2 => k (d :: ds) ρ2 := h
            cases r with
            | fz d => exact ⟨d, .inl f1, h⟩
            | tm κ d =>
              obtain ⟨a, rfl, q, n, _⟩ := f1
              exact ⟨d, .inr ⟨κ, a, rfl, q, fun z => n (oI a z)⟩, h⟩
            | rd d => exact ⟨d, RdN.imp (show RdN K F H (OA σ ρ) v d from f1) oI, h⟩
            | bo j =>
              have f1 : σ[j]? = some (some v) := f1
              have nj : j ∉ I := hj j List.mem_cons_self
              unfold wc at h
              simp only at h
              split at h
              · rename_i t κ d e
                obtain ⟨a, e1, q, _⟩ := S.ow j t κ d e
                rw [f1] at e1; cases e1
                refine ⟨d, .inr ⟨κ, a, rfl, q, fun ⟨i, z, e2⟩ => ?_⟩, h⟩
                obtain ⟨t', κ', d', e'⟩ := isOw_get (ho i z)
                have := S.inj i j _ _ _ _ _ _ a e' e e2 f1
                exact nj (this ▸ z)
              · rename_i d e
                obtain ⟨v', e1, q⟩ := S.fz j d e
                rw [f1] at e1; cases e1
                exact ⟨d, .inl q, h⟩
              · exact h.elim
          obtain ⟨d, rd, h⟩ := rd
          obtain ⟨ds, ρ2, F2, h, S2, T2, ar, e2, k2, o2⟩ := ih hi' hj' ho S f2 T h
          exact ⟨d :: ds, ρ2, F2, h, S2, T2, ⟨rd.mono' e2, ar⟩, e2, k2, o2⟩
        | io κ =>
          cases r with
          | bo i =>
            have f1 : σ[i]? = some (some v) := f1
            have h0 : match ρ[i]? with
              | some (.ow _ κ' d) => κ' = κ ∧ passA ms rs ρ fun ds ρ2 => k (d :: ds) ρ2
              | _ => False := h
            clear h
            split at h0
            · rename_i t κ' d e
              obtain ⟨e0, h⟩ := h0
              subst e0
              have hi' : ∀ i ∈ idx ms rs, i ∈ I := fun j z => hi j (List.mem_cons_of_mem _ z)
              obtain ⟨ds, ρ2, F2, h, S2, T2, ar, e2, k2, o2⟩ := ih hi' hj ho S f2 T h
              have hiI : i ∈ I := hi i List.mem_cons_self
              obtain ⟨a, e1, q, n, _⟩ := S2.ow i t κ' d (by rw [k2 i hiI]; exact e)
              rw [f1] at e1; cases e1
              exact ⟨d :: ds, ρ2, F2, h, S2, T2, ⟨⟨a, rfl, q, n⟩, ar⟩, e2, k2, o2⟩
            · exact h0.elim
          | _ => exact h.elim
theorem ios_idx {vs : List V} {b : Addr} : ∀ {ms : List Md} {rs : List Res}, FitsWAll K F H σ ρ H0 vs rs → (∀ ds, ArgAt K F1 H1 (fun _ => False) ms vs ds → True) → b ∈ ios ms vs → (∃ ρ k, passA ms rs ρ k) → ∃ i ∈ idx ms rs, σ[i]? = some (some (.ref b)) := by
  induction vs with
  | nil => intro ms rs f _ h; cases ms with
    | nil => cases h
    | cons m ms => cases m <;> cases h
  | cons v vs ih =>
    intro ms rs f _ h hp
    cases rs with
    | nil => exact f.elim
    | cons r rs =>
      obtain ⟨f1, f2⟩ := f
      cases ms with
      | nil => cases h
      | cons m ms =>
        obtain ⟨ρ', k, hp⟩ := hp
        cases m with
        | fz =>
          obtain ⟨i, hi, e⟩ := ih (ms := ms) f2 (fun _ _ => trivial) (by cases v <;> exact h) (by
            have hp : fzR r ρ' fun d ρ1 => passA ms rs ρ1 fun ds ρ2 => k (d :: ds) ρ2 := hp
            unfold fzR at hp
            split at hp <;> first | exact ⟨_, _, hp⟩ | (split at hp <;> first | exact ⟨_, _, hp⟩ | exact hp.elim) | exact hp.elim)
          exact ⟨i, by cases r <;> exact hi, e⟩
        | rd =>
          obtain ⟨i, hi, e⟩ := ih (ms := ms) f2 (fun _ _ => trivial) (by cases v <;> exact h) (by
            have hp : wc r ρ' fun d => passA ms rs ρ' fun ds ρ2 => k (d :: ds) ρ2 := hp
            unfold wc at hp
            split at hp <;> first | exact ⟨_, _, hp⟩ | (split at hp <;> first | exact ⟨_, _, hp⟩ | exact hp.elim))
          exact ⟨i, by cases r <;> exact hi, e⟩
        | io κ =>
          cases r with
          | bo i =>
            have f1 : σ[i]? = some (some v) := f1
            have hp' : ∃ ρ k, passA ms rs ρ k := by
              have hp : match ρ'[i]? with
                | some (.ow _ κ' d) => κ' = κ ∧ passA ms rs ρ' fun ds ρ2 => k (d :: ds) ρ2
                | _ => False := hp
              split at hp
              · exact ⟨_, _, hp.2⟩
              · exact hp.elim
            cases v with
            | ref a =>
              rcases List.mem_cons.mp (show b ∈ a :: ios ms vs from h) with e | h
              · subst e; exact ⟨i, List.mem_cons_self, f1⟩
              · obtain ⟨j, hj, e⟩ := ih f2 (fun _ _ => trivial) h hp'
                exact ⟨j, List.mem_cons_of_mem _ hj, e⟩
            | _ =>
              obtain ⟨j, hj, e⟩ := ih f2 (fun _ _ => trivial) h hp'
              exact ⟨j, List.mem_cons_of_mem _ hj, e⟩
          | _ => exact hp.elim
theorem ios_nodup {vs : List V} : ∀ {ms : List Md} {rs : List Res}, FitsWAll K F H σ ρ H0 vs rs → (∃ ρ k, passA ms rs ρ k) → (idx ms rs).Nodup → (∀ i j a, i ∈ idx ms rs → j ∈ idx ms rs → σ[i]? = some (some (.ref a)) → σ[j]? = some (some (.ref a)) → i = j) → (ios ms vs).Nodup := by
  induction vs with
  | nil => intro ms rs f _ _ _; cases ms with
    | nil => exact List.nodup_nil
    | cons m ms => cases m <;> exact List.nodup_nil
  | cons v vs ih =>
    intro ms rs f hp nd inj
    cases rs with
    | nil => exact f.elim
    | cons r rs =>
      obtain ⟨f1, f2⟩ := f
      cases ms with
      | nil => exact List.nodup_nil
      | cons m ms =>
        obtain ⟨ρ', k, hp⟩ := hp
        cases m with
        | fz =>
          have := ih (ms := ms) f2 (by
            have hp : fzR r ρ' fun d ρ1 => passA ms rs ρ1 fun ds ρ2 => k (d :: ds) ρ2 := hp
            unfold fzR at hp
            split at hp <;> first | exact ⟨_, _, hp⟩ | (split at hp <;> first | exact ⟨_, _, hp⟩ | exact hp.elim) | exact hp.elim) (by cases r <;> exact nd) (by cases r <;> exact inj)
          cases v <;> exact this
        | rd =>
          have := ih (ms := ms) f2 (by
            have hp : wc r ρ' fun d => passA ms rs ρ' fun ds ρ2 => k (d :: ds) ρ2 := hp
            unfold wc at hp
            split at hp <;> first | exact ⟨_, _, hp⟩ | (split at hp <;> first | exact ⟨_, _, hp⟩ | exact hp.elim)) (by cases r <;> exact nd) (by cases r <;> exact inj)
          cases v <;> exact this
        | io κ =>
          cases r with
          | bo i =>
            have f1 : σ[i]? = some (some v) := f1
            have hp' : ∃ ρ k, passA ms rs ρ k := by
              have hp : match ρ'[i]? with
                | some (.ow _ κ' d) => κ' = κ ∧ passA ms rs ρ' fun ds ρ2 => k (d :: ds) ρ2
                | _ => False := hp
              split at hp
              · exact ⟨_, _, hp.2⟩
              · exact hp.elim
            have nd : (i :: idx ms rs).Nodup := nd
            obtain ⟨ni, nd'⟩ := List.nodup_cons.mp nd
            have := ih f2 hp' nd' fun i' j' a hi hj => inj i' j' a (List.mem_cons_of_mem _ hi) (List.mem_cons_of_mem _ hj)
            cases v with
            | ref a =>
              refine List.nodup_cons.mpr ⟨fun z => ?_, this⟩
              obtain ⟨j, hj, e⟩ := ios_idx (F1 := F) (H1 := H) f2 (fun _ _ => trivial) z hp'
              have := inj i j a List.mem_cons_self (List.mem_cons_of_mem _ hj) f1 e
              exact ni (this ▸ hj)
            | _ => exact this
          | _ => exact hp.elim
theorem ArgAt.imp {O O' : Addr → Prop} (i : ∀ a, O' a → O a) {vs : List V} : ∀ {ms : List Md} {ds : List D}, ArgAt K F H O ms vs ds → ArgAt K F H O' ms vs ds := by
  induction vs with
  | nil => intro ms ds h; cases ms with
    | nil => cases ds with
      | nil => trivial
      | cons => exact h.elim
    | cons m ms => cases m <;> exact h.elim
  | cons v vs ih => intro ms ds h; cases ms with
    | nil => exact h.elim
    | cons m ms => cases ds with
      | nil => cases m <;> exact h.elim
      | cons d ds => cases m with
        | fz => exact ⟨h.1, ih h.2⟩
        | rd => exact ⟨RdN.imp h.1 i, ih h.2⟩
        | io κ => exact ⟨h.1, ih h.2⟩
theorem backA_ok {vs : List V} : ∀ {ms : List Md} {rs : List Res} {os : List D} {ρ : List Slot} {k : List Slot → Prop}, (idx ms rs).Nodup → FitsWAll K F1 H1 σ ρ1 H0 vs rs → OutAt K F' H' ms vs os → backA ms rs os ρ k →
    ∃ ρ3, k ρ3 ∧ ρ3.length = ρ.length ∧ (∀ j, j ∉ idx ms rs → ρ3[j]? = ρ[j]?) ∧ ∀ i ∈ idx ms rs, ∃ t κ d d' a, ρ[i]? = some (.ow t κ d) ∧ ρ3[i]? = some (.ow t κ d') ∧ σ[i]? = some (some (.ref a)) ∧ OwAt K F' H' κ a d' := by
  induction vs with
  | nil =>
    intro ms rs os ρ k nd f o h
    cases rs with
    | cons r rs => exact f.elim
    | nil => cases ms with
      | nil => cases os with
        | nil => exact ⟨ρ, h, rfl, fun _ _ => rfl, fun i hi => by cases hi⟩
        | cons => exact h.elim
      | cons m ms => cases m <;> exact h.elim
  | cons v vs ih =>
    intro ms rs os ρ k nd f o h
    cases rs with
    | nil => exact f.elim
    | cons r rs =>
      obtain ⟨f1, f2⟩ := f
      cases ms with
      | nil => exact h.elim
      | cons m ms =>
        cases m with
        | fz => exact ih (ms := ms) nd f2 o h
        | rd => exact ih (ms := ms) nd f2 o h
        | io κ =>
          cases r with
          | bo i =>
            have f1 : σ[i]? = some (some v) := f1
            cases os with
            | nil => exact h.elim
            | cons d os =>
              have h0 : match ρ[i]? with
                | some (.ow t κ' _) => κ' = κ ∧ backA ms rs os (ρ.set i (.ow t κ d)) k
                | _ => False := h
              obtain ⟨⟨a, rfl, ho⟩, o2⟩ := (show (∃ a, v = .ref a ∧ OwAt K F' H' κ a d) ∧ OutAt K F' H' ms vs os from o)
              have nd : (i :: idx ms rs).Nodup := nd
              obtain ⟨ni, nd'⟩ := List.nodup_cons.mp nd
              clear h
              split at h0
              · rename_i t κ' d0 e
                obtain ⟨rfl, h⟩ := h0
                obtain ⟨ρ3, hk, hl, hj, hi⟩ := ih nd' f2 o2 h
                have lt : i < ρ.length := (List.getElem?_eq_some_iff.mp e).1
                refine ⟨ρ3, hk, by rw [hl, List.length_set], fun j z => ?_, fun j z => ?_⟩
                · have z : j ∉ i :: idx ms rs := z
                  rw [hj j fun y => z (List.mem_cons_of_mem _ y), List.getElem?_set_ne fun y => z (by simp [y])]
                · rcases List.mem_cons.mp (show j ∈ i :: idx ms rs from z) with y | y
                  · subst y
                    exact ⟨t, κ', d0, d, a, e, by rw [hj j ni]; exact get_set_at lt, f1, ho⟩
                  · obtain ⟨t', κ2, d2, d3, a2, e1, e2, e3, e4⟩ := hi j y
                    refine ⟨t', κ2, d2, d3, a2, ?_, e2, e3, e4⟩
                    rw [List.getElem?_set_ne (fun z => ni (by rw [z]; exact y))] at e1
                    exact e1
              · exact h0.elim
          | _ => exact h.elim
end
section
variable {X : Cx} {k : Nat} {f : Addr} {fd : FuncData} {ps : List Str} {ms : List Md} {ts : TSp} {x : Str} {e : Expr} {es : List Expr} {da : DTA} {p pos : Pos}
theorem up_call {K : PySem.W.Frag} {σ : L2.St} {H : Hp} {Q : VK} (h : up K (dCall ms ts da) σ H Q) : tCall (spT K ms ts) [] E0 (upA K da) σ H Q := by
  obtain ⟨F, ρ, k, S, q, fin⟩ := h
  refine ⟨F, ρ, _, S, q, fun rs ρ1 vs F1 H1 q S1 T1 f => ?_⟩
  obtain ⟨⟨nd, nr, ow⟩, q⟩ := q
  rw [List.append_nil]
  have hp : ∃ ρ k, passA ms rs ρ k := ⟨_, _, q⟩
  obtain ⟨ds, ρ2, F2, q, S2, T2, ar, e2, k2, o2⟩ := passA_ok (I := idx ms rs) (fun _ z => z) nr ow S1 f.w T1 q
  have hios : ∀ b, b ∈ ios ms vs → ∃ i ∈ idx ms rs, σ[i]? = some (some (.ref b)) := fun b hb => ios_idx (F1 := F1) (H1 := H1) f.w (fun _ _ => trivial) hb hp
  have oaI : ∀ b, b ∈ ios ms vs → OA σ ρ2 b := fun b hb => by
    obtain ⟨i, hi, e⟩ := hios b hb
    obtain ⟨t, κ, d, e'⟩ := isOw_get (ow i hi)
    exact ⟨i, t, κ, d, by rw [k2 i hi]; exact e', e⟩
  refine ⟨F2, ds, _, S2.sub, ar.imp hios, ?_, S2.tab, q, fun z os v F3 H3 q R => ?_⟩
  · refine ios_nodup f.w hp nd fun i j a hi hj h1 h2 => ?_
    obtain ⟨t, κ, d, e⟩ := isOw_get (ow i hi)
    obtain ⟨t', κ', d', e'⟩ := isOw_get (ow j hj)
    exact S1.inj i j _ _ _ _ _ _ a e e' h1 h2
  · obtain ⟨ρ3, q, hl, hj, hi⟩ := backA_ok nd f.w R.outs q
    have own3 : ∀ {i : Nat} {t : Option Addr} {κ : Kd} {d : D}, ρ3[i]? = some (Slot.ow t κ d) → ∃ d0, ρ2[i]? = some (Slot.ow t κ d0) := fun {i t κ d} e => by
      by_cases h : i ∈ idx ms rs
      · obtain ⟨t', κ', d1, d2, a, e1, e2, _⟩ := hi i h
        rw [e] at e2; cases e2
        exact ⟨d1, e1⟩
      · rw [hj i h] at e; exact ⟨d, e⟩
    have rd3 : ∀ {i : Nat} {d : D}, ρ3[i]? = some (Slot.rd d) → ρ2[i]? = some (Slot.rd d) := fun {i d} e => by
      by_cases h : i ∈ idx ms rs
      · obtain ⟨t', κ', d1, d2, a, e1, e2, _⟩ := hi i h
        rw [e] at e2; cases e2
      · rw [hj i h] at e; exact e
    have fz3 : ∀ {i : Nat} {d : D}, ρ3[i]? = some (Slot.fz d) → ρ2[i]? = some (Slot.fz d) := fun {i d} e => by
      by_cases h : i ∈ idx ms rs
      · obtain ⟨t', κ', d1, d2, a, e1, e2, _⟩ := hi i h
        rw [e] at e2; cases e2
      · rw [hj i h] at e; exact e
    have oa3 : ∀ b, OA σ ρ3 b → OA σ ρ2 b := fun b ⟨i, t, κ, d, h1, h2⟩ => by
      obtain ⟨d0, h0⟩ := own3 h1
      exact ⟨i, t, κ, d0, h0, h2⟩
    have keep3 : ∀ b o, H1 b = some o → NT o → ¬ OA σ ρ2 b → H3 b = some o := fun b o h nt n => R.keep b o h nt fun z => n (oaI b z)
    have S3 : Sta K F3 H3 σ ρ3 := by
      refine ⟨R.sub, by rw [hl]; exact S2.len, fun i d e => ?_, fun i d e => ?_, fun i t κ d e => ?_, fun i j t t' κ κ' d d' a e e' h h' => ?_, R.tab⟩
      · obtain ⟨v, h1, h2⟩ := S2.fz i d (fz3 e)
        exact ⟨v, h1, dp_mono R.fext h2⟩
      · obtain ⟨v, h1, h2⟩ := S2.rd i d (rd3 e)
        refine ⟨v, h1, ?_⟩
        rcases h2 with h2 | ⟨κ, a, e1, h2, n⟩
        · exact .inl (dp_mono R.fext h2)
        · exact .inr ⟨κ, a, e1, h2.mono R.fext fun o nt z => keep3 _ _ z nt n, fun z => n (oa3 _ z)⟩
      · by_cases h : i ∈ idx ms rs
        · obtain ⟨t', κ', d1, d2, a, e1, e2, e3, e4⟩ := hi i h
          rw [e] at e2; cases e2
          obtain ⟨a', h1, h2, h3, h4⟩ := S2.ow i _ _ d1 e1
          rw [e3] at h1; cases h1
          refine ⟨a, e3, e4, ?_, h4⟩
          obtain ⟨o, ho⟩ := h2.some
          cases hf : F3 a with
          | none => rfl
          | some u =>
            rcases R.fnew a u hf with y | y
            · rw [h3] at y; cases y
            · rw [ho] at y; cases y
        · rw [hj i h] at e
          obtain ⟨a, h1, h2, h3, h4⟩ := S2.ow i t κ d e
          obtain ⟨o, ho⟩ := h2.some
          have na : a ∉ ios ms vs := fun z => by
            obtain ⟨j, hj1, hj2⟩ := hios a z
            obtain ⟨t2, κ2, d2, e2⟩ := isOw_get (ow j hj1)
            have := S2.inj i j _ _ _ _ _ _ a e (by rw [k2 j hj1]; exact e2) h1 hj2
            exact h (this ▸ hj1)
          refine ⟨a, h1, h2.mono R.fext fun o nt z => R.keep _ _ z nt na, ?_, h4⟩
          cases hf : F3 a with
          | none => rfl
          | some u =>
            rcases R.fnew a u hf with y | y
            · rw [h3] at y; cases y
            · rw [ho] at y; cases y
      · obtain ⟨d0, h0⟩ := own3 e
        obtain ⟨d1, h1⟩ := own3 e'
        exact S2.inj i j _ _ _ _ _ _ a h0 h1 h h'
    have T3 : TrX F2 H1 σ ρ2 F3 H3 ρ3 := ⟨⟨R.fext, keep3, R.there, fun b z => .inl (oa3 b z), fun b o z => (R.fnew b o z).imp id .inl⟩, fun i t κ d e => own3 e, fun i d e => .inl (rd3 e)⟩
    refine fin z ρ3 v F3 H3 q S3 (T2.trans T3) ?_
    have rf := R.fit
    cases z with
    | fz d => exact rf
    | tm κ d =>
      obtain ⟨a, e, h1, h2, h3⟩ := rf
      refine ⟨a, e, h1, h2, fun z => ?_, T2.none h3⟩
      obtain ⟨i, t, κ', d', g1, g2⟩ := oa3 a z
      obtain ⟨a', g3, g4, _⟩ := S2.ow i t κ' d' g1
      rw [g2] at g3; cases g3
      obtain ⟨o, ho⟩ := g4.some
      rw [h3] at ho; cases ho
    | rd d => exact rf.elim
    | bo i => exact rf.elim
theorem de_call (F : FnOk X.prog X.w X.K X.mg X.base CX0 k f fd ps (spT X.K ms ts)) (hr : Room k X.A) (hg : Gl X x) (hm : X.mg x = some (.ref f)) (hk : PySem.W.keepIn X.K (.ref f) = true) (hb : Binds X.K fd ps [])
    (ha : DA X (e :: es) da) (hdb : (x == ("__debug__" : Str)) = false := by decide) (he : starEach (e :: es) X.env = (false, eval e X.env) :: starEach es X.env := by rfl) (hpl : (backTo pos (starEach es X.env)).any (·.1) = false := by rfl) :
    DE X (.Call (.Name x p) (e :: es) [] pos) (dCall ms ts da) :=
  PE.le (pe_call F hr hg hm hk hb .nil pass0 ha hdb he hpl) fun σ H Q h => up_call h
end
end TL

-- part TL7
/-! TL7: the rule for a def; the end of a law. -/
namespace TL
open PySem PySem.Spec L2
open Evl (Ex ex_l ex_t)
variable [Lay]

@[simp] def entryR : List Md → List D → List Addr → List Slot
  | .fz :: ms, d :: ds, as => .fz d :: entryR ms ds as
  | .rd :: ms, d :: ds, as => .rd d :: entryR ms ds as
  | .io κ :: ms, d :: ds, a :: as => .ow (some a) κ d :: entryR ms ds as
  | _, _, _ => []
@[simp] def outR : List Md → Nat → List Addr → List Slot → (List D → Prop) → Prop
  | [], _, _, _, k => k []
  | .io κ :: ms, p, a :: as, ρ, k => match ρ[p]? with
    | some (.ow (some b) κ' d) => b = a ∧ κ' = κ ∧ outR ms (p + 1) as ρ fun os => k (d :: os)
    | _ => False
  | .fz :: ms, p, as, ρ, k => outR ms (p + 1) as ρ k
  | .rd :: ms, p, as, ρ, k => outR ms (p + 1) as ρ k
  | _, _, _, _, _ => False
@[simp] def finR (ms : List Md) (as : List Addr) (k : Res → List D → Prop) (r : Res) (ρ : List Slot) : Prop := outR ms 0 as ρ fun os => match r with
  | .fz d => k (.fz d) os
  | .tm κ d => k (.tm κ d) os
  | .bo i => match ρ[i]? with
    | some (.ow none κ d) => k (.tm κ d) os
    | some (.fz d) => k (.fz d) os
    | _ => False
  | .rd _ => False
@[simp] def nio : List Md → Nat
  | [] => 0
  | .io _ :: ms => nio ms + 1
  | _ :: ms => nio ms
section
variable {K : PySem.W.Frag} {F F' H H' : Hp} {σ σ' : L2.St} {ρ ρ' : List Slot}
theorem arg_len {O : Addr → Prop} {vs : List V} : ∀ {ms : List Md} {ds : List D}, ArgAt K F H O ms vs ds → vs.length = ms.length ∧ ds.length = ms.length ∧ (ios ms vs).length = nio ms := by
  induction vs with
  | nil => intro ms ds h; cases ms with
    | nil => cases ds with
      | nil => exact ⟨rfl, rfl, rfl⟩
      | cons => exact h.elim
    | cons m ms => cases m <;> exact h.elim
  | cons v vs ih => intro ms ds h; cases ms with
    | nil => exact h.elim
    | cons m ms => cases ds with
      | nil => cases m <;> exact h.elim
      | cons d ds => cases m with
        | fz => obtain ⟨a, b, c⟩ := ih h.2; exact ⟨by simp [a], by simp [b], by cases v <;> exact c⟩
        | rd => obtain ⟨a, b, c⟩ := ih h.2; exact ⟨by simp [a], by simp [b], by cases v <;> exact c⟩
        | io κ =>
          obtain ⟨⟨a0, rfl, _⟩, h2⟩ := h
          obtain ⟨a, b, c⟩ := ih h2
          exact ⟨by simp [a], by simp [b], by simp [ios, nio, c]⟩
theorem entry_get {O : Addr → Prop} {vs : List V} : ∀ {ms : List Md} {ds : List D} {i : Nat} {s : Slot}, ArgAt K F H O ms vs ds → (entryR ms ds (ios ms vs))[i]? = some s →
    ∃ v, vs[i]? = some v ∧ match s with
      | .fz d => Dp K F v d
      | .rd d => RdN K F H O v d
      | .ow t κ d => ∃ a, v = .ref a ∧ t = some a ∧ OwAt K F H κ a d ∧ F a = none ∧ a ∈ ios ms vs
      | .un => True := by
  induction vs with
  | nil => intro ms ds i s h e; cases ms with
    | nil => cases ds <;> (simp [entryR] at e)
    | cons m ms => cases m <;> exact h.elim
  | cons v vs ih => intro ms ds i s h e; cases ms with
    | nil => exact h.elim
    | cons m ms => cases ds with
      | nil => cases m <;> exact h.elim
      | cons d ds => cases m with
        | fz =>
          have hio : ios (.fz :: ms) (v :: vs) = ios ms vs := by cases v <;> rfl
          rw [hio] at e ⊢
          cases i with
          | zero => simp [entryR] at e; subst e; exact ⟨v, rfl, h.1⟩
          | succ i => exact ih h.2 (by simpa [entryR] using e)
        | rd =>
          have hio : ios (.rd :: ms) (v :: vs) = ios ms vs := by cases v <;> rfl
          rw [hio] at e ⊢
          cases i with
          | zero => simp [entryR] at e; subst e; exact ⟨v, rfl, h.1⟩
          | succ i => exact ih h.2 (by simpa [entryR] using e)
        | io κ =>
          obtain ⟨⟨a0, rfl, h1, h3⟩, h2⟩ := h
          cases i with
          | zero => simp [entryR, ios] at e; subst e; exact ⟨_, rfl, a0, rfl, rfl, h1, h3, List.mem_cons_self⟩
          | succ i =>
            obtain ⟨w, e1, e2⟩ := ih (s := s) h2 (by simpa [entryR, ios] using e)
            refine ⟨w, e1, ?_⟩
            cases s with
            | ow t κ' d' =>
              obtain ⟨a, q1, q2, q3, q4, q5⟩ := e2
              exact ⟨a, q1, q2, q3, q4, List.mem_cons_of_mem _ q5⟩
            | fz d' => exact e2
            | rd d' => exact e2
            | un => trivial
theorem entry_inj {O : Addr → Prop} {vs : List V} {a : Addr} : ∀ {ms : List Md} {ds : List D} {i j : Nat} {t t' : Option Addr} {κ κ' : Kd} {d d' : D}, ArgAt K F H O ms vs ds → (ios ms vs).Nodup →
    (entryR ms ds (ios ms vs))[i]? = some (.ow t κ d) → (entryR ms ds (ios ms vs))[j]? = some (.ow t' κ' d') → vs[i]? = some (.ref a) → vs[j]? = some (.ref a) → i = j := by
  induction vs with
  | nil => intro ms ds i j t t' κ κ' d d' h nd e e' h1 h2; simp at h1
  | cons v vs ih => intro ms ds i j t t' κ κ' d d' h nd e e' h1 h2; cases ms with
    | nil => exact h.elim
    | cons m ms => cases ds with
      | nil => cases m <;> exact h.elim
      | cons d0 ds =>
        have step : ios (m :: ms) (v :: vs) = ios ms vs → (∀ i, (entryR (m :: ms) (d0 :: ds) (ios ms vs))[i + 1]? = (entryR ms ds (ios ms vs))[i]?) → (∀ t κ d, (entryR (m :: ms) (d0 :: ds) (ios ms vs))[0]? ≠ some (.ow t κ d)) → ArgAt K F H O ms vs ds → i = j := fun hio h1' h2' h3' => by
          rw [hio] at e e' nd
          cases i with
          | zero => exact absurd e (h2' _ _ _)
          | succ i => cases j with
            | zero => exact absurd e' (h2' _ _ _)
            | succ j =>
              rw [h1'] at e e'
              exact congrArg (· + 1) (ih h3' nd e e' (by simpa using h1) (by simpa using h2))
        cases m with
        | fz => exact step (by cases v <;> rfl) (fun _ => by simp [entryR]) (fun _ _ _ => by simp [entryR]) h.2
        | rd => exact step (by cases v <;> rfl) (fun _ => by simp [entryR]) (fun _ _ _ => by simp [entryR]) h.2
        | io κ0 =>
          obtain ⟨⟨a0, rfl, h4, h5⟩, h3⟩ := h
          have nd : (a0 :: ios ms vs).Nodup := nd
          obtain ⟨ni, nd'⟩ := List.nodup_cons.mp nd
          cases i with
          | zero => cases j with
            | zero => rfl
            | succ j =>
              simp at h1; subst h1
              obtain ⟨w, q1, a', q2, _, _, _, q3⟩ := entry_get h3 (by simpa [entryR, ios] using e')
              have h2 : vs[j]? = some (.ref a0) := by simpa using h2
              rw [h2] at q1; cases q1; cases q2
              exact absurd q3 ni
          | succ i => cases j with
            | zero =>
              simp at h2; subst h2
              obtain ⟨w, q1, a', q2, _, _, _, q3⟩ := entry_get h3 (by simpa [entryR, ios] using e)
              have h1 : vs[i]? = some (.ref a0) := by simpa using h1
              rw [h1] at q1; cases q1; cases q2
              exact absurd q3 ni
            | succ j => exact congrArg (· + 1) (ih h3 nd' (by simpa [entryR, ios] using e) (by simpa [entryR, ios] using e') (by simpa using h1) (by simpa using h2))
theorem entry_len {O : Addr → Prop} {vs : List V} : ∀ {ms : List Md} {ds : List D}, ArgAt K F H O ms vs ds → (entryR ms ds (ios ms vs)).length = vs.length := by
  induction vs with
  | nil => intro ms ds h; cases ms with
    | nil => cases ds <;> rfl
    | cons m ms => cases m <;> exact h.elim
  | cons v vs ih => intro ms ds h; cases ms with
    | nil => exact h.elim
    | cons m ms => cases ds with
      | nil => cases m <;> exact h.elim
      | cons d ds => cases m with
        | fz =>
          have hio : ios (.fz :: ms) (v :: vs) = ios ms vs := by cases v <;> rfl
          rw [hio]; simp [entryR, ih h.2]
        | rd =>
          have hio : ios (.rd :: ms) (v :: vs) = ios ms vs := by cases v <;> rfl
          rw [hio]; simp [entryR, ih h.2]
        | io κ =>
          obtain ⟨⟨a0, rfl, h4, h5⟩, h3⟩ := h
          simp [entryR, ios, ih h3]
theorem entry_sta {ms : List Md} {vs : List V} {ds : List D} {N : List Str} (s : Ex F H) (tb : TabF F H) (h : ArgAt K F H (· ∈ ios ms vs) ms vs ds) (nd : (ios ms vs).Nodup) :
    Sta K F H (L2.start N vs) (entryR ms ds (ios ms vs) ++ List.replicate (N.length - ms.length) .un) ∧ ∀ b, OA (L2.start N vs) (entryR ms ds (ios ms vs) ++ List.replicate (N.length - ms.length) .un) b → b ∈ ios ms vs := by
  have hl := entry_len h
  obtain ⟨l1, _, _⟩ := arg_len h
  have cs : ∀ {i : Nat} {s : Slot}, (entryR ms ds (ios ms vs) ++ List.replicate (N.length - ms.length) .un)[i]? = some s → s ≠ .un → (entryR ms ds (ios ms vs))[i]? = some s := fun {i s} e n => by
    by_cases hi : i < (entryR ms ds (ios ms vs)).length
    · rw [List.getElem?_append_left hi] at e; exact e
    · rw [List.getElem?_append_right (by omega), List.getElem?_replicate] at e
      split at e
      · cases e; exact absurd rfl n
      · cases e
  have sv : ∀ {i : Nat} {v : V}, vs[i]? = some v → (L2.start N vs)[i]? = some (some v) := fun {i v} e => by
    have hi : i < vs.length := (List.getElem?_eq_some_iff.mp e).1
    unfold L2.start
    rw [List.getElem?_append_left (by simpa using hi), List.getElem?_map, e]
    rfl
  have oa : ∀ b, OA (L2.start N vs) (entryR ms ds (ios ms vs) ++ List.replicate (N.length - ms.length) .un) b → b ∈ ios ms vs := fun b ⟨i, t, κ, d, h1, h2⟩ => by
    obtain ⟨v, e1, a, e2, _, _, _, e3⟩ := entry_get h (cs h1 (fun z => by cases z))
    rw [sv e1] at h2
    cases h2
    cases e2
    exact e3
  refine ⟨⟨s, ?_, fun i d e => ?_, fun i d e => ?_, fun i t κ d e => ?_, fun i j t t' κ κ' d d' a e e' h1 h2 => ?_, tb⟩, oa⟩
  · unfold L2.start
    simp [hl, l1]
  · obtain ⟨v, e1, e2⟩ := entry_get h (cs e (fun z => by cases z))
    exact ⟨v, sv e1, e2⟩
  · obtain ⟨v, e1, e2⟩ := entry_get h (cs e (fun z => by cases z))
    exact ⟨v, sv e1, RdN.imp e2 oa⟩
  · obtain ⟨v, e1, a, e2, e3, e4, e5, _⟩ := entry_get h (cs e (fun z => by cases z))
    subst e2
    exact ⟨a, sv e1, e4, e5, fun b z => by rw [e3] at z; cases z; rfl⟩
  · have q1 := cs e (fun z => by cases z)
    have q2 := cs e' (fun z => by cases z)
    obtain ⟨v, e1, _⟩ := entry_get h q1
    obtain ⟨v', e1', _⟩ := entry_get h q2
    rw [sv e1] at h1; cases h1
    rw [sv e1'] at h2; cases h2
    exact entry_inj h nd q1 q2 e1 e1'
theorem outR_ok {vs : List V} (S : Sta K F' H' σ' ρ') : ∀ {ms : List Md} {p : Nat} {k : List D → Prop}, vs.length = ms.length → (ios ms vs).length = nio ms → outR ms p (ios ms vs) ρ' k →
    ∃ os, k os ∧ OutAt K F' H' ms vs os ∧ ∀ a ∈ ios ms vs, ∃ (q : Nat) (κ : Kd) (d : D), ρ'[q]? = some (Slot.ow (some a) κ d) := by
  induction vs with
  | nil => intro ms p k l l2 h; cases ms with
    | nil => exact ⟨[], h, rfl, fun a z => by cases z⟩
    | cons m ms => simp at l
  | cons v vs ih => intro ms p k l l2 h; cases ms with
    | nil => simp at l
    | cons m ms =>
      have l' : vs.length = ms.length := by simpa using l
      cases m with
      | fz =>
        have hio : ios (.fz :: ms) (v :: vs) = ios ms vs := by cases v <;> rfl
        rw [hio] at h l2 ⊢
        exact ih l' l2 h
      | rd =>
        have hio : ios (.rd :: ms) (v :: vs) = ios ms vs := by cases v <;> rfl
        rw [hio] at h l2 ⊢
        exact ih l' l2 h
      | io κ =>
        have key : ∃ a0, v = .ref a0 := by
          cases v with
          | ref a0 => exact ⟨a0, rfl⟩
          | _ =>
            exfalso
            have l3 : (ios ms vs).length = nio ms + 1 := l2
            have : ∀ {vs : List V} {ms : List Md}, (ios ms vs).length ≤ nio ms := fun {vs} => by
              induction vs with
              | nil => intro ms; cases ms with
                | nil => exact Nat.le_refl _
                | cons m ms => cases m <;> exact Nat.zero_le _
              | cons v vs ih => intro ms; cases ms with
                | nil => exact Nat.le_refl _
                | cons m ms => cases m with
                  | fz => cases v <;> exact ih
                  | rd => cases v <;> exact ih
                  | io κ => cases v with
                    | ref a => exact Nat.succ_le_succ ih
                    | _ => exact Nat.le_succ_of_le ih
            have := @this vs ms
            omega
        obtain ⟨a0, rfl⟩ := key
        have h0 : match ρ'[p]? with
          | some (.ow (some b) κ' d) => b = a0 ∧ κ' = κ ∧ outR ms (p + 1) (ios ms vs) ρ' fun os => k (d :: os)
          | _ => False := h
        clear h
        split at h0
        · rename_i b κ' d e
          obtain ⟨e1, e2, h⟩ := h0
          subst e1 e2
          obtain ⟨os, hk, ho, ha⟩ := ih (k := fun os => k (d :: os)) l' (by simpa [ios, nio] using l2) h
          obtain ⟨a', g1, g2, g3, g4⟩ := S.ow p _ _ _ e
          have := g4 b rfl
          subst this
          refine ⟨d :: os, hk, ⟨⟨b, rfl, g2⟩, ho⟩, fun a z => ?_⟩
          rcases List.mem_cons.mp (show a ∈ b :: ios ms vs from z) with y | y
          · subst y; exact ⟨p, _, _, e⟩
          · exact ha a y
        · exact h0.elim
end
section
variable {P : Program} {w : World} {K : PySem.W.Frag} {mg : Str → Option Value} {base : Heap}
/-- a def by its body, its code known -/
theorem fun_okC {x qual : Str} {st : Stmt} {f : Addr} {fd : FuncData} {N ps : List Str} {k : Nat} {sp : Sp} (F : Fun K x qual st f fd) (S : FnScope N ps (defScope st)) (len : ∀ vs H Q E, sp vs H Q E → vs.length = ps.length)
    (hbody : ∀ (cdv : Value), fd.code = cdv → ∀ (A : Around) (outer : List Env) (s : Shared) (H : Hp) (vs : List V) (Q : VK) (E : XK), Room k (A.deeper (PyProof.Rows.envOfC qual (defScope st) s.heap.objs.size f cdv)) → sp vs H Q E →
      ∃ t, PSs (cxOf CX0 P w K mg base N qual (defScope st) f cdv A outer s H E).nox (defBody st) t ∧ t { nx := fun _ H' => Q .non H', rt := Q } (L2.start N vs) H) : FnOk P w K mg base CX0 (k + 1) f fd ps sp := by
  obtain ⟨ocZ, odZ, kVZ, docZ, pmZ, anZ, cdZ, ctZ, oslZ, rfl, lk, hcd⟩ := F.ex
  refine fn_of lk hcd S len fun A outer s H vs Q E hr hsp => ?_
  obtain ⟨t, h, q⟩ := hbody cdZ rfl A outer s H vs Q E hr hsp
  exact ⟨t, h.nox, q⟩
theorem fn_ok {x qual : Str} {st : Stmt} {f : Addr} {fd : FuncData} {N ps : List Str} {k : Nat} {ms : List Md} {ts : TSp} (Fu : Fun K x qual st f fd) (S : FnScope N ps (defScope st)) (hl : ms.length = ps.length) (b : DTS)
    (hb : ∀ (cdv : Value), fd.code = cdv → ∀ (A : Around) (outer : List Env) (s : Shared) (H : Hp) (E : XK), Room k (A.deeper (PyProof.Rows.envOfC qual (defScope st) s.heap.objs.size f cdv)) → DSs (cxOf CX0 P w K mg base N qual (defScope st) f cdv A outer s H E).nox (defBody st) b)
    (sp : ∀ ds k as, ts ds k → ds.length = ms.length → as.length = nio ms → b { nx := finR ms as k (.fz .none), rt := finR ms as k } (entryR ms ds as ++ List.replicate (N.length - ms.length) .un)) :
    FnOk P w K mg base CX0 (k + 1) f fd ps (spT K ms ts) := by
  refine fun_okC Fu S (fun vs H Q E h => ?_) (fun cdv hcv A outer s H vs Q E hr h => ?_)
  · obtain ⟨F, ds, k, _, ha, _⟩ := h
    rw [(arg_len ha).1, hl]
  · obtain ⟨F, ds, k, se, ha, nd, tb, ht, hq⟩ := h
    obtain ⟨l1, l2, l3⟩ := arg_len ha
    obtain ⟨S0, oa⟩ := entry_sta (N := N) se tb ha nd
    have fin : ∀ r σ' ρ' v F' H', finR ms (ios ms vs) k r ρ' → Sta K F' H' σ' ρ' → Tr F H (L2.start N vs) (entryR ms ds (ios ms vs) ++ List.replicate (N.length - ms.length) .un) F' H' σ' ρ' → Fits K F' H' σ' ρ' H v r → Q v H' := fun r σ' ρ' v F' H' q S' T f => by
      obtain ⟨os, q, ho, ha'⟩ := outR_ok S' l1 l3 q
      have own : ∀ a ∈ ios ms vs, OA σ' ρ' a ∧ F' a = none ∧ ∃ (q : Nat) (κ : Kd) (d : D), ρ'[q]? = some (Slot.ow (some a) κ d) ∧ σ'[q]? = some (some (.ref a)) := fun a z => by
        obtain ⟨q, κ, d, e⟩ := ha' a z
        obtain ⟨a', g1, _, g3, g4⟩ := S'.ow q _ _ _ e
        have := g4 a rfl
        subst this
        exact ⟨⟨q, _, _, _, e, g1⟩, g3, q, κ, d, e, g1⟩
      have mk : ∀ z, k z os → (match z with
          | .fz d => Dp K F' v d
          | .tm κ d => ∃ a, v = .ref a ∧ OwAt K F' H' κ a d ∧ F' a = none ∧ H a = none
          | _ => False) → Q v H' := fun z hk ft => hq z os v F' H' hk ⟨T.fext, S'.sub, fun b o h nt n => T.keep b o h nt fun z => n (oa b z), S'.tab, T.there, (fun b o h => by
            rcases T.fnew b o h with y | y | y
            · exact .inl y
            · exact .inr y
            · rw [(own b (oa b y)).2.1] at h; cases h), ho, ft⟩
      cases r with
      | fz d => exact mk _ q f
      | tm κ d =>
        obtain ⟨a, e, g1, g2, _, g4⟩ := f
        exact mk _ q ⟨a, e, g1, g2, g4⟩
      | rd d => exact q.elim
      | bo i =>
        have f : σ'[i]? = some (some v) := f
        simp only at q
        split at q
        · rename_i κ d e
          obtain ⟨a, g1, g2, g3, g4⟩ := S'.ow i _ _ _ e
          rw [f] at g1; cases g1
          refine mk _ q ⟨a, rfl, g2, g3, ?_⟩
          rcases T.own a ⟨i, _, _, _, e, f⟩ with y | y
          · exfalso
            obtain ⟨_, _, p, κ', d', e1, e2⟩ := own a (oa a y)
            have := S'.inj i p _ _ _ _ _ _ a e e1 f e2
            subst this
            rw [e] at e1; cases e1
          · exact y
        · rename_i d e
          obtain ⟨v', g1, g2⟩ := S'.fz i d e
          rw [f] at g1; cases g1
          exact mk _ q g2
        · exact q.elim
    refine ⟨_, hb cdv hcv A outer s H E hr, F, _, _, S0, sp ds k (ios ms vs) ht l2 l3, fun σ' ρ' F' H' q S' T => fin (.fz .none) σ' ρ' .non F' H' q S' T (show Dp K F' .non .none from .non), fun r σ' ρ' v F' H' q S' T f => fin r σ' ρ' v F' H' q S' T f, fun _ _ _ _ q => q.elim, fun _ _ _ _ q => q.elim⟩
end
end TL

-- part TL8
/-! TL8: operations and built-in functions over trees. -/
namespace TL
open PySem PySem.Spec L2
open Evl (Ex ex_l ex_t)
variable [Lay]

section
variable {K : PySem.W.Frag} {F F' H H' : Hp} {v w : V}
theorem RdAt.int {i : Int} (h : RdAt K F H v (.int i)) : v = .int i := by
  rcases h with h | ⟨κ, a, _, h⟩
  · cases h; rfl
  · cases κ <;> (obtain ⟨_, _, e, _⟩ := h; cases e)
theorem RdAt.bool {i : Bool} (h : RdAt K F H v (.bool i)) : v = .bl i := by
  rcases h with h | ⟨κ, a, _, h⟩
  · cases h; rfl
  · cases κ <;> (obtain ⟨_, _, e, _⟩ := h; cases e)
theorem RdAt.str {i : Str} (h : RdAt K F H v (.str i)) : v = .str i := by
  rcases h with h | ⟨κ, a, _, h⟩
  · cases h; rfl
  · cases κ <;> (obtain ⟨_, _, e, _⟩ := h; cases e)
theorem RdAt.non (h : RdAt K F H v .none) : v = .non := by
  rcases h with h | ⟨κ, a, _, h⟩
  · cases h; rfl
  · cases κ <;> (obtain ⟨_, _, e, _⟩ := h; cases e)
theorem RdAt.list {ds : List D} (s : Ex F H) (h : RdAt K F H v (.list ds)) : ∃ a xs, v = .ref a ∧ Rd H a (.lst xs) ∧ DpAll K F xs ds := by
  rcases h with h | ⟨κ, a, rfl, h⟩
  · cases h with | lst h1 h2 => exact ⟨_, _, rfl, rd_ex s h1, h2⟩
  · cases κ with
    | l => obtain ⟨xs, ds', e, h1, h2⟩ := h; cases e; exact ⟨a, xs, rfl, .inl h1, h2⟩
    | k => obtain ⟨_, _, e, _⟩ := h; cases e
    | t => obtain ⟨_, _, e, _⟩ := h; cases e
theorem RdAt.tuple {ds : List D} (h : RdAt K F H v (.tuple ds)) : ∃ a xs, v = .ref a ∧ SqT K F a xs ∧ DpAll K F xs ds ∧ Dp K F v (.tuple ds) := by
  rcases h with h | ⟨κ, a, _, h⟩
  · cases id h with | tup h1 h2 => exact ⟨_, _, rfl, h1.sq, h2, h⟩
  · cases κ <;> (obtain ⟨_, _, e, _⟩ := h; cases e)
/-- what may be read, as the library's data -/
theorem RdAt.l2 {d : D} (s : Ex F H) (h : RdAt K F H v d) (hd : SeqAt.shaped d = true) : L2.Dp K H v d := by
  have c := SeqAt.canLay_of_shaped hd
  rcases h with h | ⟨κ, a, rfl, h⟩
  · exact dp_l2 s h c
  · cases κ with
    | l => obtain ⟨xs, ds', rfl, h1, h2⟩ := h; exact .lst (Evl.sq_of h1) (dpAll_l2 s h2 (by simpa [PyData.canLay0] using c))
    | k => obtain ⟨_, ps, rfl, _⟩ := h; simp [PyData.canLay0] at c
    | t => obtain ⟨_, ps, rfl, _⟩ := h; simp [PyData.canLay0] at c
end
section
variable {X : Cx}
/-- an answer that is a value without objects -/
theorem r2_val {K : PySem.W.Frag} {F H : Hp} {Q : VK} {k : Res → Prop} {d : D} {v : V} (s : Ex F H) (hk : k (.fz d)) (fin : ∀ z v F' H', k z → New K F H F' H' v z → Q v H') (dp : Dp K F v d) : Q v H := fin _ _ _ _ hk (New.val s dp)

/-- list + list, list * int, over what may be read -/
theorem op_catR : OpR X (binaryOp .Add) (fun x y H Q => ∃ l b xs zs, x = V.ref l ∧ y = V.ref b ∧ Rd H l (.lst xs) ∧ Rd H b (.lst zs) ∧ xs.length + zs.length ≤ sizeLine ∧ ∀ p, H p = none → Q (.ref p) (upd H p (.lst (xs ++ zs)))) := by
  intro pins s σ H x y v u Q I rx ry ⟨l, b, xs, zs, e1, e2, hl, hb, hz, q⟩
  subst e1 e2
  cases rx
  cases ry
  obtain ⟨_, its, n, r, o1⟩ := hl.ok I.hok
  obtain ⟨_, jts, m, r', o2⟩ := hb.ok I.hok
  have n1 := r.length
  have n2 := r'.length
  refine PySem.P.add_list o1 o2 ?_ (by rw [List.size_toArray, List.size_toArray]; omega)
  have ap : its.toArray ++ jts.toArray = (its ++ jts).toArray := by simp
  rw [ap]
  exact ⟨.ref _, _, I.lnew (t' := s.toks) (r.append r') (by rw [List.length_append]; omega), rfl, q _ I.fresh⟩
/-! ### arithmetic -/
def okMul (a b : Int) : Prop := (-(2 ^ 64) < a ∧ a < 2 ^ 64) ∨ (-(2 ^ 64) < b ∧ b < 2 ^ 64)
@[simp] def gAdd : D → D → (Res → Prop) → Prop
  | .int a, .int b, k => k (.fz (.int (a + b)))
  | .str a, .str b, k => a.length + b.length ≤ sizeLine ∧ k (.fz (.str (a ++ b)))
  | .list a, .list b, k => a.length + b.length ≤ sizeLine ∧ k (.tm .l (.list (a ++ b)))
  | .tuple a, .tuple b, k => a.length + b.length ≤ sizeLine ∧ k (.fz (.tuple (a ++ b)))
  | _, _, _ => False
theorem op_gAdd : OpR X (binaryOp .Add) (r2 X.K gAdd) := by
  intro pins s σ H x y v u Q I rx ry ⟨F, dx, dy, k, se, hx, hy, g, fin⟩
  unfold gAdd at g
  split at g
  · rename_i a b
    cases hx.int; cases hy.int
    exact op_add pins s σ H _ _ v u Q I rx ry ⟨a, b, rfl, rfl, r2_val se g fin (.int _)⟩
  · rename_i a b
    cases hx.str; cases hy.str
    exact op_add_str pins s σ H _ _ v u Q I rx ry ⟨a, b, rfl, rfl, g.1, r2_val se g.2 fin (.str _)⟩
  · rename_i a b
    obtain ⟨la, xs, rfl, h1, h2⟩ := hx.list se
    obtain ⟨lb, ys, rfl, h3, h4⟩ := hy.list se
    exact op_catR pins s σ H _ _ v u Q I rx ry ⟨la, lb, xs, ys, rfl, rfl, h1, h3, by rw [dpAll_len h2, dpAll_len h4]; exact g.1, fun p hp => fin _ _ _ _ g.2 (New.list se hp (dpAll_app h2 h4))⟩
  · rename_i a b
    obtain ⟨la, xs, rfl, h1, h2, dx⟩ := hx.tuple
    obtain ⟨lb, ys, rfl, h3, h4, dy⟩ := hy.tuple
    refine op_catA pins s σ H _ _ v u Q I rx ry ⟨la, lb, xs, ys, rfl, rfl, ex_t se h1, ex_t se h3, by rw [dpAll_len h2, dpAll_len h4]; exact g.1, fun e => ?_, fun _ e => ?_, fun _ _ p hp => fin _ _ _ _ g.2 (New.tuple se hp (dpAll_app h2 h4))⟩
    · subst e
      cases h2
      exact fin _ _ _ _ g.2 (New.val se dy)
    · subst e
      cases h4
      rw [List.append_nil] at g
      exact fin _ _ _ _ g.2 (New.val se dx)
  · exact g.elim
theorem iop_of {op : Operator} {g : D → D → (Res → Prop) → Prop} (h : ∀ (pins : List (Addr × Obj)) (s : Shared) (σ : L2.St) (H : Hp) (x y : V) (v u : Value) (Q : VK), Inv X pins σ H s → RelV x v → RelV y u → r2 X.K g x y H Q → wpAny (model X.prog X.w) X.A (inplaceOp op v u) (EP X pins σ Q) X.xe s) : OpR X (inplaceOp op) (r2 X.K g) := h
@[simp] def gAddI : D → D → (Res → Prop) → Prop
  | .int a, .int b, k => k (.fz (.int (a + b)))
  | _, _, _ => False
theorem op_gAddI : OpR X (inplaceOp .Add) (r2 X.K gAddI) := by
  intro pins s σ H x y v u Q I rx ry ⟨F, dx, dy, k, se, hx, hy, g, fin⟩
  unfold gAddI at g
  split at g
  · rename_i a b
    cases hx.int; cases hy.int
    exact iop_add pins s σ H _ _ v u Q I rx ry ⟨a, b, rfl, rfl, r2_val se g fin (.int _)⟩
  · exact g.elim
@[simp] def gSub : D → D → (Res → Prop) → Prop
  | .int a, .int b, k => k (.fz (.int (a - b)))
  | _, _, _ => False
theorem op_gSub : OpR X (binaryOp .Sub) (r2 X.K gSub) := by
  intro pins s σ H x y v u Q I rx ry ⟨F, dx, dy, k, se, hx, hy, g, fin⟩
  unfold gSub at g
  split at g
  · rename_i a b
    cases hx.int; cases hy.int
    exact op_sub pins s σ H _ _ v u Q I rx ry ⟨a, b, rfl, rfl, r2_val se g fin (.int _)⟩
  · exact g.elim
@[simp] def gMul : D → D → (Res → Prop) → Prop
  | .int a, .int b, k => okMul a b ∧ k (.fz (.int (a * b)))
  | _, _, _ => False
theorem dpAll_rep {K : PySem.W.Frag} {F : Hp} {xs : List V} {ds : List D} (h : DpAll K F xs ds) : ∀ n : Nat, DpAll K F (List.replicate n xs).flatten (List.replicate n ds).flatten
  | 0 => .nil
  | n + 1 => by
    rw [List.replicate_succ, List.replicate_succ, List.flatten_cons, List.flatten_cons]
    exact dpAll_app h (dpAll_rep h n)
theorem op_gMul : OpR X (binaryOp .Mult) (r2 X.K gMul) := by
  intro pins s σ H x y v u Q I rx ry ⟨F, dx, dy, k, se, hx, hy, g, fin⟩
  unfold gMul at g
  split at g
  · rename_i a b
    cases hx.int; cases hy.int
    exact op_mul pins s σ H _ _ v u Q I rx ry ⟨a, b, rfl, rfl, g.1, r2_val se g.2 fin (.int _)⟩
  · exact g.elim
/-- a new list * int -/
@[simp] def dRep (da db : DTE) : DTE := fun ρ k => da ρ fun x ρ1 => db ρ1 fun y ρ2 => match x with
  | .tm .l (.list ds) => wc y ρ2 fun d => match d with
    | .int b => (-(2 ^ 63) ≤ b ∧ b < 2 ^ 63 ∧ ds.length * b.toNat ≤ sizeLine) ∧ k (.tm .l (.list (List.replicate b.toNat ds).flatten)) ρ2
    | _ => False
  | _ => False
theorem de_rep {a b : Expr} {da db : DTE} {pos : Pos} (ha : DE X a da) (hb : DE X b db) : DE X (.BinOp a .Mult b pos) (dRep da db) :=
  PE.le (pe_op op_rep ha hb) fun σ H Q ⟨F, ρ, k, S, q, fin⟩ => up2 S q fun x y ρ' v u F' H' q S' T f1 f2 => by
    split at q
    · rename_i ds
      obtain ⟨d, rd, q⟩ := wc_rd S' f2 q
      split at q
      · rename_i n
        cases rd.int
        obtain ⟨p, rfl, ⟨xs, _, hd, h1, h2⟩, _⟩ := f1
        cases hd
        refine ⟨p, n, xs, rfl, rfl, h1, q.1.1, q.1.2.1, by rw [dpAll_len h2]; exact q.1.2.2, fun p hp => ?_⟩
        have nw := New.list (K := X.K) S'.sub hp (dpAll_rep h2 n.toNat)
        exact fin _ _ _ _ _ q.2 (nw.sta S') (T.trans nw.tr) (nw.fits S' fun _ z => T.none z)
      · exact q.elim
    · exact q.elim
/-- by a divisor above 0 -/
@[simp] def gFdiv : D → D → (Res → Prop) → Prop
  | .int a, .int b, k => (0 < b ∧ b < 1073741824) ∧ k (.fz (.int (a / b)))
  | _, _, _ => False
theorem op_gFdiv : OpR X (binaryOp .FloorDiv) (r2 X.K gFdiv) := by
  intro pins s σ H x y v u Q I rx ry ⟨F, dx, dy, k, se, hx, hy, g, fin⟩
  unfold gFdiv at g
  split at g
  · rename_i a b
    cases hx.int; cases hy.int
    exact op_fdiv pins s σ H _ _ v u Q I rx ry ⟨a, b, rfl, rfl, g.1, r2_val se g.2 fin (.int _)⟩
  · exact g.elim
@[simp] def gMod : D → D → (Res → Prop) → Prop
  | .int a, .int b, k => 0 < b ∧ k (.fz (.int (a % b)))
  | _, _, _ => False
theorem op_gMod : OpR X (binaryOp .Mod) (r2 X.K gMod) := by
  intro pins s σ H x y v u Q I rx ry ⟨F, dx, dy, k, se, hx, hy, g, fin⟩
  unfold gMod at g
  split at g
  · rename_i a b
    cases hx.int; cases hy.int
    exact op_mod pins s σ H _ _ v u Q I rx ry ⟨a, b, rfl, rfl, g.1, r2_val se g.2 fin (.int _)⟩
  · exact g.elim
@[simp] def gPow : D → D → (Res → Prop) → Prop
  | .int a, .int b, k => (0 ≤ b ∧ b ≤ 1000000 ∧ a.natAbs < 2 ^ 64) ∧ k (.fz (.int (a ^ b.toNat)))
  | _, _, _ => False
theorem op_gPow : OpR X (binaryOp .Pow) (r2 X.K gPow) := by
  intro pins s σ H x y v u Q I rx ry ⟨F, dx, dy, k, se, hx, hy, g, fin⟩
  unfold gPow at g
  split at g
  · rename_i a b
    cases hx.int; cases hy.int
    exact op_pow pins s σ H _ _ v u Q I rx ry ⟨a, b, rfl, rfl, g.1, r2_val se g.2 fin (.int _)⟩
  · exact g.elim
@[simp] def gNeg : D → (Res → Prop) → Prop
  | .int a, k => k (.fz (.int (-a)))
  | _, _ => False
theorem un_gNeg : UnR X (unaryOp .USub) (r1 X.K gNeg) := by
  intro pins s σ H x v Q I rx ⟨F, dx, k, se, hx, g, fin⟩
  unfold gNeg at g
  split at g
  · rename_i a
    cases hx.int
    exact un_neg pins s σ H _ v Q I rx ⟨a, rfl, r2_val se g fin (.int _)⟩
  · exact g.elim

/-! ### comparisons -/
@[simp] def gCmp (p : Int → Int → Bool) : D → D → (Res → Prop) → Prop
  | .int a, .int b, k => k (.fz (.bool (p a b)))
  | _, _, _ => False
theorem op_gCmp {op : CmpOp} {p : Int → Int → Bool} (h : OpR X (compareOp op) (rI0 fun i j => .bl (p i j))) : OpR X (compareOp op) (r2 X.K (gCmp p)) := by
  intro pins s σ H x y v u Q I rx ry ⟨F, dx, dy, k, se, hx, hy, g, fin⟩
  unfold gCmp at g
  split at g
  · rename_i a b
    cases hx.int; cases hy.int
    exact h pins s σ H _ _ v u Q I rx ry ⟨a, b, rfl, rfl, r2_val se g fin (.bl _)⟩
  · exact g.elim
@[simp] abbrev gLt := gCmp fun i j => decide (i < j)
@[simp] abbrev gLe := gCmp fun i j => decide (i ≤ j)
@[simp] abbrev gGt := gCmp fun i j => decide (j < i)
@[simp] abbrev gGe := gCmp fun i j => decide (j ≤ i)
theorem op_gLt : OpR X (compareOp .Lt) (r2 X.K gLt) := op_gCmp op_lt
theorem op_gLe : OpR X (compareOp .LtE) (r2 X.K gLe) := op_gCmp op_le
theorem op_gGt : OpR X (compareOp .Gt) (r2 X.K gGt) := op_gCmp op_gt
theorem op_gGe : OpR X (compareOp .GtE) (r2 X.K gGe) := op_gCmp op_ge
/-- data without dicts, not too deep -/
def Sh (d : D) : Prop := SeqAt.shaped d = true
theorem Sh.nd {d : D} (h : Sh d) : ∀ ps, d ≠ .dict ps := fun ps e => by
  subst e
  have : (PyData.canLay0 (.dict ps) && decide (PyData.depth (.dict ps) ≤ 64)) = true := h
  simp [PyData.canLay0] at this
@[simp] def gEq (d e : D) (k : Res → Prop) : Prop := Sh d ∧ Sh e ∧ k (.fz (.bool (PyData.eqv d e)))
@[simp] def gNe (d e : D) (k : Res → Prop) : Prop := Sh d ∧ Sh e ∧ k (.fz (.bool (!PyData.eqv d e)))
theorem op_gEq (hu : X.A.units + 64 < cLine) : OpR X (compareOp .Eq) (r2 X.K gEq) := by
  intro pins s σ H x y v u Q I rx ry ⟨F, dx, dy, k, se, hx, hy, ⟨s1, s2, g⟩, fin⟩
  exact op_eqD hu pins s σ H _ _ v u Q I rx ry ⟨dx, dy, hx.l2 se s1, hy.l2 se s2, s1, s2, r2_val se g fin (.bl _)⟩
theorem op_gNe (hu : X.A.units + 64 < cLine) : OpR X (compareOp .NotEq) (r2 X.K gNe) := by
  intro pins s σ H x y v u Q I rx ry ⟨F, dx, dy, k, se, hx, hy, ⟨s1, s2, g⟩, fin⟩
  exact op_neD hu pins s σ H _ _ v u Q I rx ry ⟨dx, dy, hx.l2 se s1, hy.l2 se s2, s1, s2, r2_val se g fin (.bl _)⟩
end
/-! truth values compared by is -/
section
variable {X : Cx}
def gIsB (b : Bool) (d : D) (k : Res → Prop) : Prop := match d with
  | .bool c => k (.fz (.bool (c == b)))
  | _ => k (.fz (.bool false))
end
end TL

-- part TL9
/-! TL9: calls of built-ins, subscripts, slices, methods, stores over trees. -/
namespace TL
open PySem PySem.Spec L2
open Evl (Ex ex_l ex_t)
variable [Lay]

@[simp] def wcs : List Res → List Slot → (List D → Prop) → Prop
  | [], _, k => k []
  | r :: rs, ρ, k => wc r ρ fun d => wcs rs ρ fun ds => k (d :: ds)
section
variable {K : PySem.W.Frag} {F F' F0 H H' H0 H1 : Hp} {σ : L2.St} {ρ ρ' ρ0 : List Slot}
theorem wcs_rd {vs : List V} : ∀ {rs : List Res} {k : List D → Prop}, Sta K F H σ ρ → FitsAll K F H σ ρ H0 vs rs → wcs rs ρ k → ∃ ds, RdAll K F H vs ds ∧ k ds := by
  induction vs with
  | nil => intro rs k S f h; cases rs with
    | nil => exact ⟨[], .nil, h⟩
    | cons => exact f.elim
  | cons v vs ih => intro rs k S f h; cases rs with
    | nil => exact f.elim
    | cons r rs =>
      obtain ⟨d, h1, h⟩ := wc_rd S f.1 h
      obtain ⟨ds, h2, h⟩ := ih S f.2 h
      exact ⟨d :: ds, .cons h1 h2, h⟩
end
/-! ### f(..), f a built-in -/
@[simp] def dFn (g : List D → (Res → Prop) → Prop) (da : DTA) : DTE := fun ρ k => da ρ fun rs ρ1 => wcs rs ρ1 fun ds => g ds fun z => k z ρ1
section
variable {X : Cx} {x : Str} {id T : String} {e : Expr} {es : List Expr} {da : DTA} {d1 d2 : DTE} {p pos : Pos} {g : List D → (Res → Prop) → Prop}
theorem up_fn {K : PySem.W.Frag} {σ : L2.St} {H : Hp} {Q : VK} (h : up K (dFn g da) σ H Q) : tCB (rn K g) (upA K da) σ H Q := by
  obtain ⟨F, ρ, k, S, q, fin⟩ := h
  refine ⟨F, ρ, _, S, q, fun rs ρ1 vs F1 H1 q S1 T1 f => ?_⟩
  obtain ⟨ds, rd, q⟩ := wcs_rd S1 f q
  exact ⟨F1, ds, _, S1.sub, rd, q, fun z v F' H' kz n => fin z ρ1 v F' H' kz (n.sta S1) (T1.trans n.tr) (n.fits S1 fun _ z => T1.none z)⟩
theorem de_fnB (hc : CallR X (.builtin id) (rn X.K g)) (hg : Gl X x) (hm : X.mg x = none) (hv : bootBuiltins x = some (.builtin id)) (ha : DA X (e :: es) da) (hn : x ≠ "__name__" := by decide) (hdb : (x == ("__debug__" : Str)) = false := by decide)
    (he : starEach (e :: es) X.env = (false, eval e X.env) :: starEach es X.env := by rfl) (hpl : (backTo pos (starEach es X.env)).any (·.1) = false := by rfl) : DE X (.Call (.Name x p) (e :: es) [] pos) (dFn g da) :=
  PE.le (pe_callB hc hg hm hv ha hn hdb he hpl) fun σ H Q h => up_fn h
theorem de_fnT (hc : CallR X (.type T) (rn X.K g)) (hg : Gl X x) (hm : X.mg x = none) (hv : bootBuiltins x = some (.type T)) (ha : DA X (e :: es) da) (hn : x ≠ "__name__" := by decide) (hdb : (x == ("__debug__" : Str)) = false := by decide)
    (he : starEach (e :: es) X.env = (false, eval e X.env) :: starEach es X.env := by rfl) (hpl : (backTo pos (starEach es X.env)).any (·.1) = false := by rfl) : DE X (.Call (.Name x p) (e :: es) [] pos) (dFn g da) :=
  PE.le (pe_callTy hc hg hm hv ha hn hdb he hpl) fun σ H Q h => up_fn h
/-- a built-in of the module's own import (from math import gcd) -/
theorem RdAll.one {K : PySem.W.Frag} {F H : Hp} {vs : List V} {d : D} (h : RdAll K F H vs [d]) : ∃ v, vs = [v] ∧ RdAt K F H v d := by
  cases h with | cons h1 h2 => cases h2; exact ⟨_, rfl, h1⟩
theorem RdAll.two {K : PySem.W.Frag} {F H : Hp} {vs : List V} {d e : D} (h : RdAll K F H vs [d, e]) : ∃ v w, vs = [v, w] ∧ RdAt K F H v d ∧ RdAt K F H w e := by
  cases h with | cons h1 h2 => cases h2 with | cons h2 h3 => cases h3; exact ⟨_, _, rfl, h1, h2⟩

@[simp] def gLen : List D → (Res → Prop) → Prop
  | [.list ds], k => k (.fz (.int ds.length))
  | [.tuple ds], k => k (.fz (.int ds.length))
  | [.str z], k => z.length ≤ sizeLine ∧ k (.fz (.int z.length))
  | _, _ => False
theorem cr_gLen : CallR X (.builtin "len") (rn X.K gLen) := by
  intro pins s σ H xs us Q I r ⟨F, ds, k, se, rd, g, fin⟩
  unfold gLen at g
  split at g
  · obtain ⟨v, rfl, h⟩ := rd.one
    obtain ⟨a, ys, rfl, h1, h2⟩ := h.list se
    exact call_len_seq pins s σ H _ us Q I r ⟨a, ys, rfl, .inl (.inl h1), by rw [dpAll_len h2]; exact r2_val se g fin (.int _)⟩
  · obtain ⟨v, rfl, h⟩ := rd.one
    obtain ⟨a, ys, rfl, h1, h2, _⟩ := h.tuple
    exact call_len_seq pins s σ H _ us Q I r ⟨a, ys, rfl, .inr (ex_t se h1), by rw [dpAll_len h2]; exact r2_val se g fin (.int _)⟩
  · obtain ⟨v, rfl, h⟩ := rd.one
    cases h.str
    exact call_len_str pins s σ H _ us Q I r ⟨_, rfl, g.1, r2_val se g.2 fin (.int _)⟩
  · exact g.elim
@[simp] def gListOf : List D → (Res → Prop) → Prop
  | [.list ds], k => k (.tm .l (.list ds))
  | [.tuple ds], k => k (.tm .l (.list ds))
  | _, _ => False
theorem cr_gListOf : CallR X (.type "list") (rn X.K gListOf) := by
  intro pins s σ H xs us Q I r ⟨F, ds, k, se, rd, g, fin⟩
  unfold gListOf at g
  split at g
  · obtain ⟨v, rfl, h⟩ := rd.one
    obtain ⟨a, ys, rfl, h1, h2⟩ := h.list se
    exact call_list_of pins s σ H _ us Q I r ⟨a, ys, rfl, .inl (.inl h1), fun l hl => fin _ _ _ _ g (New.list se hl h2)⟩
  · obtain ⟨v, rfl, h⟩ := rd.one
    obtain ⟨a, ys, rfl, h1, h2, _⟩ := h.tuple
    exact call_list_of pins s σ H _ us Q I r ⟨a, ys, rfl, .inr (ex_t se h1), fun l hl => fin _ _ _ _ g (New.list se hl h2)⟩
  · exact g.elim
@[simp] def gTupleOf : List D → (Res → Prop) → Prop
  | [.list ds], k => k (.fz (.tuple ds))
  | [.tuple ds], k => k (.fz (.tuple ds))
  | _, _ => False
theorem cr_gTupleOf : CallR X (.type "tuple") (rn X.K gTupleOf) := by
  intro pins s σ H xs us Q I r ⟨F, ds, k, se, rd, g, fin⟩
  unfold gTupleOf at g
  split at g
  · obtain ⟨v, rfl, h⟩ := rd.one
    obtain ⟨a, ys, rfl, h1, h2⟩ := h.list se
    exact call_tuple_of pins s σ H _ us Q I r ⟨a, ys, rfl, .inl ⟨(.inl h1), fun l hl => fin _ _ _ _ g (New.tuple se hl h2)⟩⟩
  · obtain ⟨v, rfl, h⟩ := rd.one
    obtain ⟨a, ys, rfl, h1, h2, dp⟩ := h.tuple
    exact call_tuple_of pins s σ H _ us Q I r ⟨a, ys, rfl, .inr ⟨ex_t se h1, r2_val se g fin dp⟩⟩
  · exact g.elim
/-- int(n), int(flag) -/
@[simp] def gInt : List D → (Res → Prop) → Prop
  | [.int i], k => k (.fz (.int i))
  | [.bool b], k => k (.fz (.int (if b then 1 else 0)))
  | _, _ => False
theorem cr_gInt : CallR X (.type "int") (rn X.K gInt) := by
  intro pins s σ H xs us Q I r ⟨F, ds, k, se, rd, g, fin⟩
  unfold gInt at g
  split at g
  · obtain ⟨v, rfl, h⟩ := rd.one
    cases h.int
    exact call_int1 pins s σ H _ us Q I r (.inl ⟨_, rfl, r2_val se g fin (.int _)⟩)
  · obtain ⟨v, rfl, h⟩ := rd.one
    cases h.bool
    exact call_int1 pins s σ H _ us Q I r (.inr ⟨_, rfl, r2_val se g fin (.int _)⟩)
  · exact g.elim
@[simp] def gAbs : List D → (Res → Prop) → Prop
  | [.int i], k => k (.fz (.int (if i < 0 then -i else i)))
  | _, _ => False
theorem cr_gAbs : CallR X (.builtin "abs") (rn X.K gAbs) := by
  intro pins s σ H xs us Q I r ⟨F, ds, k, se, rd, g, fin⟩
  unfold gAbs at g
  split at g
  · obtain ⟨v, rfl, h⟩ := rd.one
    cases h.int
    exact call_abs pins s σ H _ us Q I r ⟨_, rfl, r2_val se g fin (.int _)⟩
  · exact g.elim
@[simp] def gStrI : List D → (Res → Prop) → Prop
  | [.int i], k => i.natAbs.log2 < 1920 ∧ k (.fz (.str (toString i)))
  | [.str z], k => k (.fz (.str z))
  | _, _ => False
theorem cr_gStrI : CallR X (.type "str") (rn X.K gStrI) := by
  intro pins s σ H xs us Q I r ⟨F, ds, k, se, rd, g, fin⟩
  unfold gStrI at g
  split at g
  · obtain ⟨v, rfl, h⟩ := rd.one
    cases h.int
    exact call_str_int pins s σ H _ us Q I r ⟨_, rfl, g.1, r2_val se g.2 fin (.str _)⟩
  · obtain ⟨v, rfl, h⟩ := rd.one
    cases h.str
    exact SkE.call_str_str pins s σ H _ us Q I r ⟨_, rfl, r2_val se g fin (.str _)⟩
  · exact g.elim
/-- the ints of a list, if it holds no other things -/
def intsOf : List D → Option (List Int)
  | [] => some []
  | .int i :: ds => (intsOf ds).map (i :: ·)
  | _ :: _ => none
theorem intsOf_eq : ∀ {ds : List D} {ns : List Int}, intsOf ds = some ns → ds = ns.map .int
  | [], ns, h => by cases h; rfl
  | d :: ds, ns, h => by
    cases d with
    | int i =>
      unfold intsOf at h
      cases e : intsOf ds with
      | none => rw [e] at h; cases h
      | some ms => rw [e] at h; cases h; rw [intsOf_eq e]; rfl
    | _ => cases h
@[simp] theorem intsOf_map : ∀ ns : List Int, intsOf (ns.map .int) = some ns
  | [] => rfl
  | n :: ns => by rw [List.map_cons, intsOf, intsOf_map ns]; rfl
def boolsOf : List D → Option (List Bool)
  | [] => some []
  | .bool i :: ds => (boolsOf ds).map (i :: ·)
  | _ :: _ => none
theorem boolsOf_eq : ∀ {ds : List D} {ns : List Bool}, boolsOf ds = some ns → ds = ns.map .bool
  | [], ns, h => by cases h; rfl
  | d :: ds, ns, h => by
    cases d with
    | bool i =>
      unfold boolsOf at h
      cases e : boolsOf ds with
      | none => rw [e] at h; cases h
      | some ms => rw [e] at h; cases h; rw [boolsOf_eq e]; rfl
    | _ => cases h
@[simp] theorem boolsOf_map : ∀ ns : List Bool, boolsOf (ns.map .bool) = some ns
  | [] => rfl
  | n :: ns => by rw [List.map_cons, boolsOf, boolsOf_map ns]; rfl
theorem dpAll_bools {K : PySem.W.Frag} {F : Hp} : ∀ {vs : List V} {ns : List Bool}, DpAll K F vs (ns.map .bool) → vs = ns.map .bl
  | _, [], .nil => rfl
  | _, n :: ns, .cons h hs => by cases h; rw [dpAll_bools hs]; rfl
@[simp] def gSum : List D → (Res → Prop) → Prop
  | [.list ds], k => ∃ ns, intsOf ds = some ns ∧ k (.fz (.int ns.sum))
  | _, _ => False
theorem cr_gSum (hc : X.calm = true) : CallR X (.builtin "sum") (rn X.K gSum) := by
  intro pins s σ H xs us Q I r ⟨F, ds, k, se, rd, g, fin⟩
  unfold gSum at g
  split at g
  · obtain ⟨v, rfl, h⟩ := rd.one
    obtain ⟨ns, e, g⟩ := g
    obtain ⟨a, ys, rfl, h1, h2⟩ := h.list se
    rw [intsOf_eq e] at h2
    rw [dpAll_ints h2] at h1
    exact cr_sum hc pins s σ H _ us Q I r ⟨a, ns, rfl, (.inl h1), r2_val se g fin (.int _)⟩
  · exact g.elim
@[simp] def gAll : List D → (Res → Prop) → Prop
  | [.list ds], k => ∃ ns, boolsOf ds = some ns ∧ k (.fz (.bool (ns.all fun b => b)))
  | _, _ => False
theorem cr_gAll (hc : X.calm = true) : CallR X (.builtin "all") (rn X.K gAll) := by
  intro pins s σ H xs us Q I r ⟨F, ds, k, se, rd, g, fin⟩
  unfold gAll at g
  split at g
  · obtain ⟨v, rfl, h⟩ := rd.one
    obtain ⟨ns, e, g⟩ := g
    obtain ⟨a, ys, rfl, h1, h2⟩ := h.list se
    rw [boolsOf_eq e] at h2
    rw [dpAll_bools h2] at h1
    exact cr_all hc pins s σ H _ us Q I r ⟨a, ns, rfl, (.inl h1), r2_val se g fin (.bl _)⟩
  · exact g.elim
@[simp] def gAny : List D → (Res → Prop) → Prop
  | [.list ds], k => ∃ ns, boolsOf ds = some ns ∧ k (.fz (.bool (ns.any fun b => b)))
  | _, _ => False
theorem cr_gAny (hc : X.calm = true) : CallR X (.builtin "any") (rn X.K gAny) := by
  intro pins s σ H xs us Q I r ⟨F, ds, k, se, rd, g, fin⟩
  unfold gAny at g
  split at g
  · obtain ⟨v, rfl, h⟩ := rd.one
    obtain ⟨ns, e, g⟩ := g
    obtain ⟨a, ys, rfl, h1, h2⟩ := h.list se
    rw [boolsOf_eq e] at h2
    rw [dpAll_bools h2] at h1
    exact cr_any hc pins s σ H _ us Q I r ⟨a, ns, rfl, (.inl h1), r2_val se g fin (.bl _)⟩
  · exact g.elim
/-- max, min of a list of ints, or of two ints -/
@[simp] def gMax : List D → (Res → Prop) → Prop
  | [.list ds], k => ∃ ns, intsOf ds = some ns ∧ 0 < ns.length ∧ ∀ m, m ∈ ns → (∀ y, y ∈ ns → y ≤ m) → k (.fz (.int m))
  | [.int i, .int j], k => k (.fz (.int (if j > i then j else i)))
  | _, _ => False
theorem cr_gMax (hc : X.calm = true) : CallR X (.builtin "max") (rn X.K gMax) := by
  intro pins s σ H xs us Q I r ⟨F, ds, k, se, rd, g, fin⟩
  unfold gMax at g
  split at g
  · obtain ⟨v, rfl, h⟩ := rd.one
    obtain ⟨ns, e, hl, g⟩ := g
    obtain ⟨a, ys, rfl, h1, h2⟩ := h.list se
    rw [intsOf_eq e] at h2
    rw [dpAll_ints h2] at h1
    exact cr_max hc pins s σ H _ us Q I r ⟨a, ns, rfl, (.inl h1), hl, fun m hm hy => r2_val se (g m hm hy) fin (.int _)⟩
  · obtain ⟨v, w, rfl, h, h'⟩ := rd.two
    cases h.int; cases h'.int
    exact call_max2 hc pins s σ H _ us Q I r ⟨_, _, rfl, r2_val se g fin (.int _)⟩
  · exact g.elim
@[simp] def gMin : List D → (Res → Prop) → Prop
  | [.list ds], k => ∃ ns, intsOf ds = some ns ∧ 0 < ns.length ∧ ∀ m, m ∈ ns → (∀ y, y ∈ ns → m ≤ y) → k (.fz (.int m))
  | [.int i, .int j], k => k (.fz (.int (if j < i then j else i)))
  | _, _ => False
theorem cr_gMin (hc : X.calm = true) : CallR X (.builtin "min") (rn X.K gMin) := by
  intro pins s σ H xs us Q I r ⟨F, ds, k, se, rd, g, fin⟩
  unfold gMin at g
  split at g
  · obtain ⟨v, rfl, h⟩ := rd.one
    obtain ⟨ns, e, hl, g⟩ := g
    obtain ⟨a, ys, rfl, h1, h2⟩ := h.list se
    rw [intsOf_eq e] at h2
    rw [dpAll_ints h2] at h1
    exact cr_min hc pins s σ H _ us Q I r ⟨a, ns, rfl, (.inl h1), hl, fun m hm hy => r2_val se (g m hm hy) fin (.int _)⟩
  · obtain ⟨v, w, rfl, h, h'⟩ := rd.two
    cases h.int; cases h'.int
    exact call_min2 hc pins s σ H _ us Q I r ⟨_, _, rfl, r2_val se g fin (.int _)⟩
  · exact g.elim
/-- sorted of ints -/
@[simp] def gSortI : List D → (Res → Prop) → Prop
  | [.list ds], k => ∃ ns, intsOf ds = some ns ∧ ∀ ms : List Int, ms.Perm ns → ms.Pairwise (· ≤ ·) → k (.tm .l (.list (ms.map .int)))
  | _, _ => False
theorem cr_gSortI : CallR X (.builtin "sorted") (rn X.K gSortI) := by
  intro pins s σ H xs us Q I r ⟨F, ds, k, se, rd, g, fin⟩
  unfold gSortI at g
  split at g
  · obtain ⟨v, rfl, h⟩ := rd.one
    obtain ⟨ns, e, g⟩ := g
    obtain ⟨a, ys, rfl, h1, h2⟩ := h.list se
    rw [intsOf_eq e] at h2
    rw [dpAll_ints h2] at h1
    exact cr_sortedI pins s σ H _ us Q I r ⟨a, ns, rfl, (.inl h1), fun ms p hm hs hp => fin _ _ _ _ (g ms hm hs) (New.list se hp (dpAll_ints_mk ms))⟩
  · exact g.elim

/-! ### subscripts -/
@[simp] def gIx : D → D → (Res → Prop) → Prop
  | .list ds, .int i, k => ∃ d, atI ds i = some d ∧ k (.fz d)
  | .tuple ds, .int i, k => ∃ d, atI ds i = some d ∧ k (.fz d)
  | .str z, .int i, k => z.length ≤ sizeLine ∧ ∃ c, atI z.cps.toList i = some c ∧ k (.fz (.str ⟨#[c]⟩))
  | _, _, _ => False
theorem atI_dp {K : PySem.W.Frag} {F : Hp} {xs : List V} {ds : List D} {i : Int} {d : D} (h : DpAll K F xs ds) (e : atI ds i = some d) : ∃ v, atI xs i = some v ∧ Dp K F v d := by
  unfold atI at e ⊢
  rw [dpAll_len h]
  cases hj : ixN ds.length i with
  | none => rw [hj] at e; cases e
  | some j =>
    rw [hj] at e
    obtain ⟨v, h1, h2⟩ := dpAll_get' h (show ds[j]? = some d from e)
    exact ⟨v, h1, h2⟩
theorem de_ix {a b : Expr} {da db : DTE} (ha : DE X a da) (hb : DE X b db) (hs : PlainIx b := by intro _ _; rfl) : DE X (.Subscript a b pos) (dBin gIx da db) :=
  PE.le (pe_ix ix_seq ha hb hs) fun σ H Q ⟨F, ρ, k, S, q, fin⟩ => up2 S q fun x y ρ' v u F' H' q S' T f1 f2 => by
    obtain ⟨dx, r1, q⟩ := wc_rd S' f1 q
    obtain ⟨dy, r2, q⟩ := wc_rd S' f2 q
    unfold gIx at q
    split at q
    · obtain ⟨d, e, q⟩ := q
      obtain ⟨l, xs, rfl, h1, h2⟩ := r1.list S'.sub
      cases r2.int
      obtain ⟨w, e', dp⟩ := atI_dp h2 e
      exact .inl ⟨l, xs, _, w, rfl, rfl, (.inl h1), e', fin _ _ _ _ _ q S' T dp⟩
    · obtain ⟨d, e, q⟩ := q
      obtain ⟨l, xs, rfl, h1, h2, _⟩ := r1.tuple
      cases r2.int
      obtain ⟨w, e', dp⟩ := atI_dp h2 e
      exact .inr (.inl ⟨l, xs, _, w, rfl, rfl, ex_t S'.sub h1, e', fin _ _ _ _ _ q S' T dp⟩)
    · obtain ⟨z, c, e, q⟩ := q
      cases r1.str
      cases r2.int
      exact .inr (.inr ⟨_, _, c, rfl, rfl, z, e, fin _ _ _ _ _ q S' T (.str _)⟩)
    · exact q.elim
/-! slices -/
abbrev DTO := List Slot → (Option Int → List Slot → Prop) → Prop
def upO (K : PySem.W.Frag) (d : DTO) : TO := fun σ H Q => ∃ F ρ k, Sta K F H σ ρ ∧ d ρ k ∧ ∀ o ρ' F' H', k o ρ' → Sta K F' H' σ ρ' → TrX F H σ ρ F' H' ρ' → Q o H'
def DO (X : Cx) (e : Option Expr) (d : DTO) : Prop := PO X e (upO X.K d)
theorem PO.le {e : Option Expr} {t u : TO} (h : PO X e t) (w : ∀ σ H Q, u σ H Q → t σ H Q) : PO X e u := ⟨fun pins s σ H Q I q => h.run pins s σ H Q I (w _ _ _ q)⟩
@[simp] def dNo : DTO := fun ρ k => k none ρ
@[simp] def dSo (da : DTE) : DTO := fun ρ k => da ρ fun r ρ1 => wc r ρ1 fun d => match d with | .int i => k (some i) ρ1 | _ => False
theorem do_none : DO X none dNo := PO.le po_none fun σ H Q ⟨F, ρ, k, S, q, fin⟩ => fin _ _ F H q S .refl
theorem do_some {da : DTE} (h : DE X e da) : DO X (some e) (dSo da) := PO.le (po_some h) fun σ H Q ⟨F, ρ, k, S, q, fin⟩ => ⟨F, ρ, _, S, q, fun r ρ1 v F1 H1 q S1 T1 f => by
  obtain ⟨d, rd, q⟩ := wc_rd S1 f q
  split at q
  · cases rd.int
    exact ⟨_, rfl, fin _ _ _ _ q S1 T1⟩
  · exact q.elim⟩
def cutD {α : Type} (xs : List α) (lo hi : Option Int) : List α := (xs.drop (HT.sIx xs.length 0 lo)).take (HT.sIx xs.length xs.length hi - HT.sIx xs.length 0 lo)
@[simp] def gSl (d : D) (lo hi : Option Int) (k : Res → Prop) : Prop := match d with
  | .list ds => k (.tm .l (.list (cutD ds lo hi)))
  | .tuple ds => k (.fz (.tuple (cutD ds lo hi)))
  | .str z => z.length ≤ sizeLine ∧ k (.fz (.str (cutS z lo hi)))
  | _ => False
@[simp] def dSl (da : DTE) (dl du : DTO) : DTE := fun ρ k => da ρ fun r ρ1 => dl ρ1 fun l ρ2 => du ρ2 fun u ρ3 => wc r ρ3 fun d => gSl d l u fun z => k z ρ3
theorem dpAll_take {K : PySem.W.Frag} {F : Hp} : ∀ {vs : List V} {ds : List D} (n : Nat), DpAll K F vs ds → DpAll K F (vs.take n) (ds.take n)
  | _, _, 0, _ => by simp; exact .nil
  | _, _, _ + 1, .nil => .nil
  | _, _, n + 1, .cons h hs => .cons h (dpAll_take n hs)
theorem dpAll_drop {K : PySem.W.Frag} {F : Hp} : ∀ {vs : List V} {ds : List D} (n : Nat), DpAll K F vs ds → DpAll K F (vs.drop n) (ds.drop n)
  | _, _, 0, h => h
  | _, _, _ + 1, .nil => .nil
  | _, _, n + 1, .cons h hs => dpAll_drop n hs
theorem dpAll_cut {K : PySem.W.Frag} {F : Hp} {vs : List V} {ds : List D} {lo hi : Option Int} (h : DpAll K F vs ds) : DpAll K F (cutV vs lo hi) (cutD ds lo hi) := by
  unfold cutV cutD
  rw [dpAll_len h]
  exact dpAll_take _ (dpAll_drop _ h)
theorem SlR.or3 {r r' r'' : V → Option Int → Option Int → Hp → VK → Prop} (h : SlR X r) (h' : SlR X r') (h'' : SlR X r'') : SlR X (fun x lo hi H Q => r x lo hi H Q ∨ r' x lo hi H Q ∨ r'' x lo hi H Q) :=
  L2.SlR.or h (L2.SlR.or h' h'')
theorem de_slice {lo hi : Option Expr} {da : DTE} {dl du : DTO} {p2 : Pos} (ha : DE X e da) (hl : DO X lo dl) (hu : DO X hi du) : DE X (.Subscript e (.Slice lo hi none p2) pos) (dSl da dl du) :=
  PE.le (pe_slice (SlR.or3 sl_list sl_tupA sl_str) ha hl hu) fun σ H Q ⟨F, ρ, k, S, q, fin⟩ =>
    ⟨F, ρ, _, S, q, fun r ρ1 v F1 H1 q S1 T1 f => ⟨F1, ρ1, _, S1, q, fun l ρ2 F2 H2 q S2 T2 => ⟨F2, ρ2, _, S2, q, fun u ρ3 F3 H3 q S3 T3 => by
      have T23 := T2.trans T3
      have f3 := f.later T23.toTr
      have T := T1.trans T23
      obtain ⟨d, rd, q⟩ := wc_rd S3 f3 q
      unfold gSl at q
      split at q
      · obtain ⟨a, xs, rfl, h1, h2⟩ := rd.list S3.sub
        refine .inl ⟨a, xs, rfl, (.inl h1), fun p hp => ?_⟩
        have n := New.list (K := X.K) S3.sub hp (dpAll_cut (lo := l) (hi := u) h2)
        exact fin _ _ _ _ _ q (n.sta S3) (T.trans n.tr) (n.fits S3 fun _ z => T.none z)
      · obtain ⟨a, xs, rfl, h1, h2, dp⟩ := rd.tuple
        refine .inr (.inl ⟨a, xs, rfl, ex_t S3.sub h1, fun hw => ?_, fun hw p hp => ?_⟩)
        · rename_i ds
          have e : cutD ds l u = ds := by
            unfold cutD
            rw [← dpAll_len h2, hw.1, hw.2]
            simp [dpAll_len h2]
          rw [e] at q
          exact fin _ _ _ _ _ q S3 T dp
        · have n := New.tuple (K := X.K) S3.sub hp (dpAll_cut (lo := l) (hi := u) h2)
          exact fin _ _ _ _ _ q (n.sta S3) (T.trans n.tr) (n.fits S3 fun _ z => T.none z)
      · cases rd.str
        exact .inr (.inr ⟨_, rfl, q.1, fin _ _ _ _ _ q.2 S3 T (.str _)⟩)
      · exact q.elim⟩⟩⟩
end
end TL

-- part TL10
/-! TL10: methods, stores by place, what is walked. -/
namespace TL
open PySem PySem.Spec L2
open Evl (Ex ex_l ex_t)
variable [Lay]

/-! ### methods that read -/
@[simp] def tyD (T : String) (d : D) : Prop := match d with
  | .list _ => T = "list"
  | .str _ => T = "str"
  | _ => False
@[simp] def dMt (T : String) (g : D → List D → (Res → Prop) → Prop) (dr : DTE) (da : DTA) : DTE := fun ρ k => dr ρ fun r ρ1 => wc r ρ1 (tyD T) ∧ da ρ1 fun rs ρ2 => wc r ρ2 fun d => wcs rs ρ2 fun ds => g d ds fun z => k z ρ2
section
variable {X : Cx} {o e : Expr} {es : List Expr} {dr : DTE} {da : DTA} {name : Str} {apos cpos pos : Pos} {T id : String}
theorem tyD_ok {K : PySem.W.Frag} {F H : Hp} {v : V} {d : D} (s : Ex F H) (r : RdAt K F H v d) (h : tyD T d) : tyV K T v H := by
  unfold tyD at h
  split at h
  · obtain ⟨a, xs, rfl, h1, _⟩ := r.list s
    exact .inl ⟨h, xs, .inl h1⟩
  · cases r.str; exact h
  · exact h.elim
theorem de_mt {g : D → List D → (Res → Prop) → Prop} (pa : PlainAttrs T) (slot : PySem.Slot T name id) (hty : typeOf (.builtin id) = pure (.type "method_descriptor")) (hm : MtR X id (rm X.K g)) (ho : DE X o dr) (ha : DA X (e :: es) da)
    (hbase : attributeBase o name X.env (eval o X.env) = eval o X.env := by rfl)
    (hfew : ((backTo cpos (starEach (e :: es) X.env)).all (fun x => !x.1) && (backToKw cpos (keywordEach [] X.env)).all (fun x => x.1.isSome)
      && decide ((e :: es).length + ([] : List Keyword).length + (if ([] : List Keyword).isEmpty then 0 else 1) < 30)) = true := by rfl)
    (hline : (apos.endLine == cpos.line) = true := by rfl)
    (he : starEach (e :: es) X.env = (false, eval e X.env) :: starEach es X.env := by rfl) (hpl : (backTo cpos (starEach es X.env)).any (·.1) = false := by rfl) :
    DE X (.Call (.Attribute o name apos) (e :: es) [] cpos) (dMt T g dr da) :=
  PE.le (pe_bm pa slot hty hm ho ha hbase hfew hline he hpl) fun σ H Q ⟨F, ρ, k, S, q, fin⟩ => ⟨F, ρ, _, S, q, fun r ρ1 v F1 H1 q S1 T1 f => by
    obtain ⟨q0, q⟩ := q
    obtain ⟨d0, r0, q0⟩ := wc_rd S1 f q0
    refine ⟨tyD_ok S1.sub r0 q0, F1, ρ1, _, S1, q, fun rs ρ2 vs F2 H2 q S2 T2 f2 => ?_⟩
    have f' := f.later T2.toTr
    obtain ⟨d, rd, q⟩ := wc_rd S2 f' q
    obtain ⟨ds, rds, q⟩ := wcs_rd S2 f2 q
    have T := T1.trans T2
    exact ⟨F2, d, ds, _, S2.sub, rd, rds, q, fun z v F' H' kz n => fin z ρ2 v F' H' kz (n.sta S2) (T.trans n.tr) (n.fits S2 fun _ z => T.none z)⟩⟩
/-- xs.count(n), ints -/
@[simp] def gCount : D → List D → (Res → Prop) → Prop
  | .list ds, [.int i], k => ∃ ns, intsOf ds = some ns ∧ k (.fz (.int (ns.count i)))
  | _, _, _ => False
theorem mt_gCount : MtR X "list.count" (rm X.K gCount) := by
  intro pins s σ H x xs v us Q I rx rxs ⟨F, d, ds, k, se, hx, hxs, g, fin⟩
  unfold gCount at g
  split at g
  · obtain ⟨ns, e, g⟩ := g
    obtain ⟨a, ys, rfl, h1, h2⟩ := hx.list se
    rw [intsOf_eq e] at h2
    rw [dpAll_ints h2] at h1
    obtain ⟨w, rfl, hw⟩ := hxs.one
    cases hw.int
    exact mt_lcount pins s σ H _ _ v us Q I rx rxs ⟨a, ns, _, rfl, rfl, .inl h1, r2_val se g fin (.int _)⟩
  · exact g.elim
end

/-! ### methods that change an owned list -/
section
variable (K : PySem.W.Frag)
def rmu (g : D → List D → (D → D → Prop) → Prop) : V → List V → Hp → VK → Prop := fun x xs H Q => ∃ F a d ds k, Ex F H ∧ x = .ref a ∧ OwAt K F H .l a d ∧ F a = none ∧ DpAll K F xs ds ∧ g d ds k ∧
  ∀ d' z v H', k d' z → (∀ b, b ≠ a → H' b = H b) → OwAt K F H' .l a d' → Dp K F v z → Q v H'
end
@[simp] def isOl (ρ : List Slot) (i : Nat) : Prop := match ρ[i]? with | some (.ow _ .l _) => True | _ => False
@[simp] def dMu (i : Nat) (g : D → List D → (D → D → Prop) → Prop) (da : DTA) : DTE := fun ρ k => isOl ρ i ∧ da ρ fun rs ρ1 => fzAll rs ρ1 fun ds ρ2 => match ρ2[i]? with
  | some (.ow t .l d) => g d ds fun d' z => k (.fz z) (ρ2.set i (.ow t .l d'))
  | _ => False
section
variable {K : PySem.W.Frag} {F F0 H H' H0 : Hp} {σ : L2.St} {ρ ρ0 : List Slot}
theorem Sta.updOwn {i : Nat} {t : Option Addr} {κ : Kd} {d d' : D} {a : Addr} (S : Sta K F H σ ρ) (e : ρ[i]? = some (.ow t κ d)) (ea : σ[i]? = some (some (.ref a))) (ne : ∀ b, b ≠ a → H' b = H b) (o : OwAt K F H' κ a d') :
    Sta K F H' σ (ρ.set i (.ow t κ d')) ∧ TrX F H σ ρ F H' (ρ.set i (.ow t κ d')) := by
  obtain ⟨a', e1, ho, fa, tt⟩ := S.ow i t κ d e
  rw [ea] at e1; cases e1
  have lt : i < ρ.length := (List.getElem?_eq_some_iff.mp e).1
  have fne : ∀ b u, F b = some u → b ≠ a := fun b u h z => by rw [z, fa] at h; cases h
  have own : ∀ {j : Nat} {t' : Option Addr} {κ' : Kd} {d'' : D}, (ρ.set i (.ow t κ d'))[j]? = some (Slot.ow t' κ' d'') → ∃ d0, ρ[j]? = some (Slot.ow t' κ' d0) := fun {j t' κ' d''} h => by
    rcases get_sets h with ⟨y, z⟩ | ⟨_, z⟩
    · cases z; exact ⟨d, by rw [← y]; exact e⟩
    · exact ⟨_, z⟩
  have oa : ∀ b, OA σ (ρ.set i (.ow t κ d')) b → OA σ ρ b := fun b ⟨j, t', κ', d'', h1, h2⟩ => by
    obtain ⟨d0, h⟩ := own h1
    exact ⟨j, t', κ', d0, h, h2⟩
  have oaA : OA σ ρ a := ⟨i, t, κ, d, e, ea⟩
  refine ⟨⟨fun b u h => by rw [ne b (fne b u h)]; exact S.sub b u h, by simpa using S.len, fun j d0 h => ?_, fun j d0 h => ?_, fun j t' κ' d0 h => ?_, fun j j' t1 t2 κ1 κ2 d1 d2 b h1 h2 h3 h4 => ?_, ⟨tabs_at S.tab.tabs ho.nc ne, S.tab.free⟩⟩,
    ⟨⟨Ex.refl F, fun b u h _ n => by rw [ne b (fun z => n (by rw [z]; exact oaA))]; exact h, fun b u h => ?_, fun b h => .inl (oa b h), fun _ _ h => .inl h⟩, fun j t' κ' d0 h => own h, fun j d0 h => ?_⟩⟩
  · rcases get_sets h with ⟨_, z⟩ | ⟨_, z⟩
    · cases z
    · exact S.fz j d0 z
  · rcases get_sets h with ⟨_, z⟩ | ⟨_, z⟩
    · cases z
    · obtain ⟨v, g1, g2⟩ := S.rd j d0 z
      refine ⟨v, g1, ?_⟩
      rcases g2 with g2 | ⟨κ', b, e', g2, n⟩
      · exact .inl g2
      · exact .inr ⟨κ', b, e', g2.mono (Ex.refl F) fun u _ q => by rw [ne b (fun z => n (by rw [z]; exact oaA))]; exact q, fun z => n (oa b z)⟩
  · rcases get_sets h with ⟨y, z⟩ | ⟨y, z⟩
    · cases z
      rw [← y]
      exact ⟨a, ea, o, fa, tt⟩
    · obtain ⟨b, g1, g2, g3, g4⟩ := S.ow j t' κ' d0 z
      refine ⟨b, g1, g2.mono (Ex.refl F) fun u _ q => ?_, g3, g4⟩
      rw [ne b (fun w => y (S.inj i j _ _ _ _ _ _ a e z ea (by rw [← w]; exact g1)))]
      exact q
  · obtain ⟨d3, g1⟩ := own h1
    obtain ⟨d4, g2⟩ := own h2
    exact S.inj j j' _ _ _ _ _ _ b g1 g2 h3 h4
  · by_cases z : b = a
    · obtain ⟨u', hu⟩ := o.some
      exact ⟨u', by rw [z]; exact hu⟩
    · exact ⟨u, by rw [ne b z]; exact h⟩
  · rcases get_sets h with ⟨_, z⟩ | ⟨_, z⟩
    · cases z
    · exact .inl z
theorem isOl_get {i : Nat} (h : isOl ρ i) : ∃ t d, ρ[i]? = some (.ow t .l d) := by
  unfold isOl at h
  split at h
  · rename_i t d e; exact ⟨t, d, e⟩
  · exact h.elim
end
section
variable {X : Cx} {o e : Expr} {es : List Expr} {da : DTA} {name : Str} {apos cpos pos : Pos} {id : String} {i : Nat} {g : D → List D → (D → D → Prop) → Prop}
theorem mu_fin {K : PySem.W.Frag} {σ : L2.St} {H0 F1 H1 : Hp} {Q : VK} {k : Res → List Slot → Prop} {F0 : Hp} {ρ0 ρ1 : List Slot} {rs : List Res} {vs : List V} {a : Addr} (ea : σ[i]? = some (some (.ref a)))
    (q : fzAll rs ρ1 fun ds ρ2 => match ρ2[i]? with
      | some (.ow t .l d) => g d ds fun d' z => k (.fz z) (ρ2.set i (.ow t .l d'))
      | _ => False) (S1 : Sta K F1 H1 σ ρ1) (T1 : TrX F0 H0 σ ρ0 F1 H1 ρ1) (f : FitsAll K F1 H1 σ ρ1 H0 vs rs)
    (fin : ∀ r ρ' v F' H', k r ρ' → Sta K F' H' σ ρ' → TrX F0 H0 σ ρ0 F' H' ρ' → Fits K F' H' σ ρ' H0 v r → Q v H') : rmu K g (.ref a) vs H1 Q := by
  obtain ⟨ds, ρ2, F2, q, S2, T2, dp, _⟩ := fzAll_ok S1 f.w T1 q
  split at q
  · rename_i t d e
    obtain ⟨a', e1, ho, fa, _⟩ := S2.ow i t .l d e
    rw [ea] at e1; cases e1
    refine ⟨F2, a, d, ds, _, S2.sub, rfl, ho, fa, dp, q, fun d' z v H' kz ne o' dz => ?_⟩
    obtain ⟨S3, T3⟩ := S2.updOwn e ea ne o'
    exact fin _ _ _ _ _ kz S3 (T2.trans T3) dz
  · exact q.elim
theorem de_mu (slot : PySem.Slot "list" name id) (hty : typeOf (.builtin id) = pure (.type "method_descriptor")) (hm : MtR X id (rmu X.K g)) (ho : DE X o (dName i)) (ha : DA X (e :: es) da)
    (hbase : attributeBase o name X.env (eval o X.env) = eval o X.env := by rfl)
    (hfew : ((backTo cpos (starEach (e :: es) X.env)).all (fun x => !x.1) && (backToKw cpos (keywordEach [] X.env)).all (fun x => x.1.isSome)
      && decide ((e :: es).length + ([] : List Keyword).length + (if ([] : List Keyword).isEmpty then 0 else 1) < 30)) = true := by rfl)
    (hline : (apos.endLine == cpos.line) = true := by rfl)
    (he : starEach (e :: es) X.env = (false, eval e X.env) :: starEach es X.env := by rfl) (hpl : (backTo cpos (starEach es X.env)).any (·.1) = false := by rfl) :
    DE X (.Call (.Attribute o name apos) (e :: es) [] cpos) (dMu i g da) :=
  PE.le (pe_bm PySem.F.plainAttrs_list slot hty hm ho ha hbase hfew hline he hpl) fun σ H Q ⟨F, ρ, k, S, ⟨q0, q⟩, fin⟩ => by
    obtain ⟨t, d, e0⟩ := isOl_get q0
    refine ⟨F, ρ, fun r ρ' => r = .bo i ∧ ρ' = ρ, S, by unfold dName; rw [e0]; exact ⟨rfl, rfl⟩, fun r ρ1 v F1 H1 q1 S1 T1 f1 => ?_⟩
    obtain ⟨rfl, rfl⟩ := q1
    have f1 : σ[i]? = some (some v) := f1
    obtain ⟨a, e1, ho, _⟩ := S1.ow i t .l d e0
    rw [f1] at e1; cases e1
    have ho2 := ho
    obtain ⟨xs, _, _, hx, _⟩ := ho2
    exact ⟨.inl ⟨rfl, xs, Evl.sq_of hx⟩, F1, _, _, S1, q, fun rs ρ2 vs F2 H2 q S2 T2 f2 => mu_fin f1 q S2 (T1.trans T2) (f2.back fun _ z => T1.none z) fin⟩
theorem de_mu0 (slot : PySem.Slot "list" name id) (hty : typeOf (.builtin id) = pure (.type "method_descriptor")) (hm : MtR X id (rmu X.K g)) (ho : DE X o (dName i))
    (hbase : attributeBase o name X.env (eval o X.env) = eval o X.env := by rfl) (hline : (apos.endLine == cpos.line) = true := by rfl) :
    DE X (.Call (.Attribute o name apos) [] [] cpos) (dMu i g dNil) :=
  PE.le (pe_bm0 PySem.F.plainAttrs_list slot hty hm ho hbase hline) fun σ H Q ⟨F, ρ, k, S, ⟨q0, q⟩, fin⟩ => by
    obtain ⟨t, d, e0⟩ := isOl_get q0
    refine ⟨F, ρ, fun r ρ' => r = .bo i ∧ ρ' = ρ, S, by unfold dName; rw [e0]; exact ⟨rfl, rfl⟩, fun r ρ1 v F1 H1 q1 S1 T1 f1 => ?_⟩
    obtain ⟨rfl, rfl⟩ := q1
    have f1 : σ[i]? = some (some v) := f1
    obtain ⟨a, e1, ho, _⟩ := S1.ow i t .l d e0
    rw [f1] at e1; cases e1
    have ho2 := ho
    obtain ⟨xs, _, _, hx, _⟩ := ho2
    exact ⟨.inl ⟨rfl, xs, Evl.sq_of hx⟩, mu_fin (vs := []) (rs := []) f1 q S1 T1 trivial fin⟩
@[simp] def gAppend : D → List D → (D → D → Prop) → Prop
  | .list ds, [d], k => ds.length < sizeLine ∧ k (.list (ds ++ [d])) .none
  | _, _, _ => False
theorem mt_gAppend : MtR X "list.append" (rmu X.K gAppend) := by
  intro pins s σ H x xs v us Q I rx rxs ⟨F, a, d, ds, k, se, hx, ho, fa, dp, g, fin⟩
  subst hx
  obtain ⟨ys, es, rfl, h1, h2⟩ := ho
  unfold gAppend at g
  split at g
  · rename_i _ ds' d' e0
    cases e0
    cases dp with | cons p pr =>
      cases pr
      exact mt_append pins s σ H _ _ v us Q I rx rxs ⟨a, ys, _, rfl, rfl, h1, by rw [dpAll_len h2]; exact g.1, fin _ _ _ _ g.2 (fun b hb => upd_ne hb) ⟨_, _, rfl, upd_same, dpAll_app h2 (.cons p .nil)⟩ .non⟩
  · exact g.elim
@[simp] def gExtend : D → List D → (D → D → Prop) → Prop
  | .list ds, [.list es], k => ds.length + es.length ≤ sizeLine ∧ k (.list (ds ++ es)) .none
  | _, _, _ => False
theorem mt_extendR : MtR X "list.extend" (fun x vs H Q => ∃ l b xs zs, x = V.ref l ∧ vs = [V.ref b] ∧ H l = some (.lst xs) ∧ Rd H b (.lst zs) ∧ xs.length + zs.length ≤ sizeLine ∧ Q .non (upd H l (.lst (xs ++ zs)))) := by
  intro pins s σ H x vs v us Q I rx rv ⟨l, b, xs, zs, e1, e2, hl, hb, hz, q⟩
  subst e1 e2
  cases rx
  obtain ⟨u, rfl, ru⟩ := vals1 rv
  cases ru
  obtain ⟨_, its, n, r, o1⟩ := (Rd.of hl).ok I.hok
  obtain ⟨_, jts, m, r', o2⟩ := hb.ok I.hok
  have n1 := r.length
  have n2 := r'.length
  have size : its.toArray.size + jts.toArray.size ≤ sizeLine := by simp only [List.size_toArray]; omega
  have short : ¬ (!its.toArray.isEmpty && Builtin.List.listTooLong (its.toArray.size + jts.toArray.size)) = true := by
    rw [notLongL size, Bool.and_false]
    exact Bool.false_ne_true
  have look := AutoSeq1.list_extend_list_list_0 l its.toArray n b jts.toArray m short (by simp only [List.size_toArray] at size ⊢; omega) (by simp only [List.size_toArray] at size ⊢; omega)
  exact call_meets F.slot_list_extend ⟨_, o1, rfl⟩ F.entry_list_extend (F.args_list_extend_2 _ _) look ⟨o1, o2, .non, _, I.lset (its' := its ++ jts) hl o1 (by simp) (r.append r') (by rw [List.length_append]; omega), rfl, q⟩
theorem mt_gExtend : MtR X "list.extend" (rmu X.K gExtend) := by
  intro pins s σ H x xs v us Q I rx rxs ⟨F, a, d, ds, k, se, hx, ho, fa, dp, g, fin⟩
  subst hx
  obtain ⟨ys, es, rfl, h1, h2⟩ := ho
  unfold gExtend at g
  split at g
  · rename_i _ _ ds' es' e0
    cases e0
    cases dp with | cons p pr =>
      cases pr
      cases p with | lst p1 p2 =>
        exact mt_extendR pins s σ H _ _ v us Q I rx rxs ⟨a, _, ys, _, rfl, rfl, h1, rd_ex se p1, by rw [dpAll_len h2, dpAll_len p2]; exact g.1, fin _ _ _ _ g.2 (fun b hb => upd_ne hb) ⟨_, _, rfl, upd_same, dpAll_app h2 p2⟩ .non⟩
  · exact g.elim
/-- pop(), pop(i) -/
@[simp] def gPop : D → List D → (D → D → Prop) → Prop
  | .list ds, [], k => ∃ d, ds[ds.length - 1]? = some d ∧ k (.list ds.dropLast) d
  | .list ds, [.int i], k => ∃ d, (-(2 ^ 63) ≤ i ∧ i < 2 ^ 63) ∧ ∃ j, seqIndex? i ds.length = some j ∧ ds[j]? = some d ∧ k (.list (ds.eraseIdx j)) d
  | _, _, _ => False
theorem dpAll_dropLast {K : PySem.W.Frag} {F : Hp} {vs : List V} {ds : List D} (h : DpAll K F vs ds) : DpAll K F vs.dropLast ds.dropLast := by
  rw [List.dropLast_eq_take, List.dropLast_eq_take, dpAll_len h]
  exact dpAll_take _ h
theorem dpAll_erase {K : PySem.W.Frag} {F : Hp} : ∀ {vs : List V} {ds : List D} (j : Nat), DpAll K F vs ds → DpAll K F (vs.eraseIdx j) (ds.eraseIdx j)
  | _, _, _, .nil => .nil
  | _, _, 0, .cons _ h => h
  | _, _, j + 1, .cons p h => .cons p (dpAll_erase j h)
theorem mt_gPop : MtR X "list.pop" (rmu X.K gPop) := by
  intro pins s σ H x xs v us Q I rx rxs ⟨F, a, d, ds, k, se, hx, ho, fa, dp, g, fin⟩
  subst hx
  obtain ⟨ys, es, rfl, h1, h2⟩ := ho
  unfold gPop at g
  split at g
  · rename_i _ _ ds' e0
    cases e0
    cases dp
    obtain ⟨d, e, g⟩ := g
    obtain ⟨w, e', dw⟩ := dpAll_get' h2 e
    exact mt_pop pins s σ H _ _ v us Q I rx rxs ⟨a, ys, w, rfl, rfl, h1, by rw [dpAll_len h2]; exact e', fin _ _ _ _ g (fun b hb => upd_ne hb) ⟨_, _, rfl, upd_same, dpAll_dropLast h2⟩ dw⟩
  · rename_i _ _ ds' i e0
    cases e0
    cases dp with | cons p pr =>
      cases pr
      cases p
      obtain ⟨d, ⟨g1, g2⟩, j, g3, g4, g⟩ := g
      obtain ⟨w, e', dw⟩ := dpAll_get' h2 g4
      exact mt_popAt pins s σ H _ _ v us Q I rx rxs ⟨a, ys, i, j, w, rfl, rfl, h1, g1, g2, by rw [dpAll_len h2]; exact g3, e', fin _ _ _ _ g (fun b hb => upd_ne hb) ⟨_, _, rfl, upd_same, dpAll_erase j h2⟩ dw⟩
  · exact g.elim

/-! ### a store by place -/
end
section
variable (K : PySem.W.Frag)
def rset (g : Kd → D → D → D → (D → Prop) → Prop) : TSet := fun o i v H Q => ∃ F a κ d di dv k, Ex F H ∧ o = .ref a ∧ OwAt K F H κ a d ∧ F a = none ∧ RdAt K F H i di ∧ Dp K F v dv ∧ g κ d di dv k ∧
  ∀ d' H', k d' → (∀ b, b ≠ a → H' b = H b) → OwAt K F H' κ a d' → Q H'
end
@[simp] def dStI (i : Nat) (g : Kd → D → D → D → (D → Prop) → Prop) (da di : DTE) : DTS := fun E ρ => da ρ fun r ρ1 => isOw ρ1 i ∧ di ρ1 fun rj ρ2 => fzR r ρ2 fun dv ρ3 => wc rj ρ3 fun dj => match ρ3[i]? with
  | some (.ow t κ d) => g κ d dj dv fun d' => E.nx (ρ3.set i (.ow t κ d'))
  | _ => False
@[simp] def gSetL : Kd → D → D → D → (D → Prop) → Prop
  | .l, .list ds, .int i, v, k => ∃ j, ixN ds.length i = some j ∧ k (.list (ds.set j v))
  | _, _, _, _, _ => False
section
variable {X : Cx}
theorem dpAll_set {K : PySem.W.Frag} {F : Hp} {v : V} {d : D} (p : Dp K F v d) : ∀ {vs : List V} {ds : List D} (j : Nat), DpAll K F vs ds → DpAll K F (vs.set j v) (ds.set j d)
  | _, _, _, .nil => .nil
  | _, _, 0, .cons _ h => .cons p h
  | _, _, j + 1, .cons q h => .cons q (dpAll_set p j h)
theorem set_gSetL : PSet X (rset X.K gSetL) := by
  intro pins s σ H o i v ov iv u Q I ro ri rv ⟨F, a, κ, d, di, dv, k, se, e, ho, fa, hi, dp, g, fin⟩
  subst e
  unfold gSetL at g
  split at g
  · obtain ⟨xs, ds, e, h1, h2⟩ := ho
    cases e
    cases hi.int
    obtain ⟨j, hj, g⟩ := g
    exact set_list pins s σ H _ _ v ov iv u Q I ro ri rv ⟨a, xs, _, j, rfl, rfl, h1, by rw [dpAll_len h2]; exact hj, fin _ _ g (fun b hb => upd_ne hb) ⟨_, _, rfl, upd_same, dpAll_set dp j h2⟩⟩
  · exact g.elim
theorem ds_stI {o ix e : Expr} {pos spos : Pos} {i : Nat} {g : Kd → D → D → D → (D → Prop) → Prop} {da di : DTE} (he : DE X e da) (ho : DE X o (dName i)) (hi : DE X ix di) (hs : PSet X (rset X.K g))
    (ha : ∀ v, assign (.Subscript o ix pos) X.env v = (do
      let ov ← holding [v] (eval o X.env)
      let iv ← holding [v, ov] (eval ix X.env)
      standAt pos
      holding [v, ov, iv] (setItem ov iv v)
      release [v, ov, iv] []) := by intro _; rfl)
    (hw0 : swapsWithSole [.Subscript o ix pos] e spos.line X.env = pure false := by rfl) (hw : swappedStores [.Subscript o ix pos] e X.env = pure none := by rfl)
    (h1 : (assignEach [.Subscript o ix pos] X.env).map (·.2) = [assign (.Subscript o ix pos) X.env] := by rfl) : DS X (.Assign [.Subscript o ix pos] e spos) (dStI i g da di) :=
  PS.le (ps_asg he (pg_sub ho hi hs ha) hw0 hw h1) fun E σ H ⟨F, ρ, G, S, q, f1, f2, f3, f4⟩ => ⟨F, ρ, _, S, q, fun r ρ1 v F1 H1 q S1 T1 f => by
    obtain ⟨q0, q⟩ := q
    obtain ⟨t, κ, d, e0⟩ := isOw_get q0
    refine ⟨F1, ρ1, fun r' ρ' => r' = .bo i ∧ ρ' = ρ1, S1, by unfold dName; rw [e0]; exact ⟨rfl, rfl⟩, fun r' ρ1' w F2 H2 q1 S2 T2 g1 => ?_⟩
    obtain ⟨rfl, rfl⟩ := q1
    have g1 : σ[i]? = some (some w) := g1
    refine ⟨F2, _, _, S2, q, fun rj ρ3 u F3 H3 q S3 T3 g2 => ?_⟩
    have T13 := T2.trans T3
    have T03 := T1.trans T13
    obtain ⟨dv, ρ4, F4, q, S4, T4, dp, e4, o4⟩ := fzR_ok S3 (f.later T13.toTr).w T03 q
    have g2 : Fits X.K F3 H3 σ ρ3 H2 u rj := g2
    -- the index
    have fj : ∃ dj, RdAt X.K F4 H3 u dj ∧ match ρ4[i]? with
        | some (.ow t κ d) => g κ d dj dv fun d' => G.nx (ρ4.set i (.ow t κ d'))
        | _ => False := by
      have w4 := g2.w.frz (ρ' := ρ4) e4 o4
      cases rj with
      | fz d => exact ⟨d, .inl w4, q⟩
      | tm κ d => obtain ⟨a, e, h, _⟩ := w4; exact ⟨d, .inr ⟨κ, a, e, h⟩, q⟩
      | rd d => exact ⟨d, RdN.at w4, q⟩
      | bo j =>
        exact wc_rd (H0 := H2) S4 (show Fits X.K F4 H3 σ ρ4 H2 u (.bo j) from w4) q
    obtain ⟨dj, rj', q⟩ := fj
    split at q
    · rename_i t' κ' d' e5
      obtain ⟨a, e6, ho, fa, _⟩ := S4.ow i t' κ' d' e5
      rw [g1] at e6; cases e6
      refine ⟨F4, a, κ', d', dj, dv, _, S4.sub, rfl, ho, fa, rj', dp, q, fun d2 H' kd ne o' => ?_⟩
      obtain ⟨S5, T5⟩ := S4.updOwn e5 g1 ne o'
      exact f1 _ _ _ _ kd S5 (T4.trans T5).toTr
    · exact q.elim⟩
end
end TL

-- part TL11
/-! TL11: what is walked. -/
namespace TL
open PySem PySem.Spec L2
open Evl (Ex ex_l ex_t)
variable [Lay]

@[simp] def srcOf (r : Res) (d : D) : List (Nat × D) := match r with
  | .bo i => [(i, d)]
  | _ => []
section
variable {K : PySem.W.Frag} {F F0 H H0 Hs : Hp} {σ σ0 : L2.St} {ρ ρ0 : List Slot}
/-- a walked thing stands as it stood -/
theorem later_rd {v : V} {r : Res} {d : D} (S0 : Sta K F0 H0 σ0 ρ0) (f : Fits K F0 H0 σ0 ρ0 Hs v r) (hw : wc r ρ0 fun d' => d' = d) (S : Sta K F H σ ρ) (T : Tr F0 H0 σ0 ρ0 F H σ ρ)
    (hs : ∀ p ∈ srcOf r d, σ[p.1]? = σ0[p.1]? ∧ cont ρ p.1 = some p.2) : RdAt K F H v d := by
  cases r with
  | fz d' => cases hw; exact .inl (dp_mono T.fext f)
  | tm κ d' =>
    cases hw
    obtain ⟨a, e, h, n, o, _⟩ := f
    exact .inr ⟨κ, a, e, h.mono T.fext fun u nt q => T.keep _ _ q nt o⟩
  | rd d' => cases hw; exact RdN.at (RdN.later f T)
  | bo i =>
    have f : σ0[i]? = some (some v) := f
    obtain ⟨h1, h2⟩ := hs (i, d) (by simp [srcOf])
    have h1 : σ[i]? = σ0[i]? := h1
    have h2 : cont ρ i = some d := h2
    rw [f] at h1
    unfold cont at h2
    split at h2
    · rename_i t κ d' e
      cases h2
      obtain ⟨a, e1, q, _⟩ := S.ow i t κ d e
      rw [h1] at e1; cases e1
      exact .inr ⟨κ, a, rfl, q⟩
    · rename_i d' e
      cases h2
      obtain ⟨w, e1, q⟩ := S.fz i d e
      rw [h1] at e1; cases e1
      exact .inl q
    · rename_i d' e
      cases h2
      obtain ⟨w, e1, q⟩ := S.rd i d e
      rw [h1] at e1; cases e1
      exact RdN.at q
    · cases h2
theorem wc_eq {r : Res} {k : D → Prop} (h : wc r ρ k) : ∃ d, k d ∧ wc r ρ fun d' => d' = d := by
  cases r with
  | fz d => exact ⟨d, h, rfl⟩
  | tm κ d => exact ⟨d, h, rfl⟩
  | rd d => exact ⟨d, h, rfl⟩
  | bo i =>
    unfold wc at h ⊢
    simp only at h ⊢
    split at h
    · rename_i t κ d e; exact ⟨d, h, rfl⟩
    · rename_i d e; exact ⟨d, h, rfl⟩
    · exact h.elim
end
@[simp] def dItL (da : DTE) : DTI := fun ρ k => da ρ fun r ρ1 => wc r ρ1 fun d => match d with
  | .list ds => k ds (srcOf r d) ρ1
  | _ => False
@[simp] def dItT (da : DTE) : DTI := fun ρ k => da ρ fun r ρ1 => wc r ρ1 fun d => match d with
  | .tuple ds => k ds (srcOf r d) ρ1
  | _ => False
def signs (z : Str) : List D := z.cps.toList.map fun c => .str ⟨#[c]⟩
@[simp] def dItS (da : DTE) : DTI := fun ρ k => da ρ fun r ρ1 => wc r ρ1 fun d => match d with
  | .str z => k (signs z) [] ρ1
  | _ => False
def rangeD (lo c : Int) (n : Nat) : List D := (List.range n).map fun (i : Nat) => .int (lo + (i : Int) * c)
def okRg (i : Int) : Prop := -(2 ^ 62) ≤ i ∧ i < 2 ^ 62
@[simp] def dItR1 (da : DTA) : DTI := fun ρ k => da ρ fun rs ρ1 => wcs rs ρ1 fun ds => match ds with
  | [.int n] => okRg n ∧ k (rangeD 0 1 n.toNat) [] ρ1
  | _ => False
@[simp] def dItR2 (da : DTA) : DTI := fun ρ k => da ρ fun rs ρ1 => wcs rs ρ1 fun ds => match ds with
  | [.int a, .int b] => (okRg a ∧ okRg b) ∧ k (rangeD a 1 (b - a).toNat) [] ρ1
  | _ => False
@[simp] def dItR3 (da : DTA) : DTI := fun ρ k => da ρ fun rs ρ1 => wcs rs ρ1 fun ds => match ds with
  | [.int a, .int b, .int c] => ∃ n, RgC a b c n ∧ k (rangeD a c n) [] ρ1
  | _ => False
def enumD (i : Int) : List D → List D
  | [] => []
  | d :: ds => .tuple [.int i, d] :: enumD (i + 1) ds
@[simp] def dItE (da : DTA) : DTI := fun ρ k => da ρ fun rs ρ1 => match rs with
  | [r] => wc r ρ1 fun d => match d with
    | .list ds => k (enumD 0 ds) (srcOf r d) ρ1
    | _ => False
  | _ => False
def zipD : List D → List D → List D
  | a :: as, b :: bs => .tuple [a, b] :: zipD as bs
  | _, _ => []
@[simp] def dItZ (da : DTA) : DTI := fun ρ k => da ρ fun rs ρ1 => match rs with
  | [r, r'] => wc r ρ1 fun d => wc r' ρ1 fun d' => match d, d' with
    | .list ds, .list es => k (zipD ds es) (srcOf r d ++ srcOf r' d') ρ1
    | .tuple ds, .tuple es => k (zipD ds es) (srcOf r d ++ srcOf r' d') ρ1
    | _, _ => False
  | _ => False
/-- reversed of a list -/
@[simp] def dItV (da : DTE) : DTI := fun ρ k => da ρ fun r ρ1 => wc r ρ1 fun d => match d with
  | .list ds => k ds.reverse (srcOf r d) ρ1
  | .tuple ds => k ds.reverse (srcOf r d) ρ1
  | _ => False
/-- a name that a loop walks: the slot is given up -/
@[simp] def dLend (i : Nat) : DTE := fun ρ k => match ρ[i]? with
  | some (.fz d) => k (.fz d) ρ
  | some (.rd d) => k (.rd d) ρ
  | some (.ow none .l d) => k (.fz d) (ρ.set i (.fz d))
  | some (.ow none _ d) => k (.rd d) (ρ.set i (.rd d))
  | _ => False
theorem enumD_get : ∀ {ds : List D} {i : Int} {j : Nat} {d : D}, (enumD i ds)[j]? = some d → ∃ x, ds[j]? = some x ∧ d = .tuple [.int (i + j), x]
  | [], i, j, d, h => by simp [enumD] at h
  | x :: ds, i, 0, d, h => by simp [enumD] at h; subst h; exact ⟨x, rfl, by simp⟩
  | x :: ds, i, j + 1, d, h => by
    obtain ⟨y, h1, h2⟩ := enumD_get (ds := ds) (i := i + 1) (j := j) (d := d) (by simpa [enumD] using h)
    refine ⟨y, by simpa using h1, ?_⟩
    rw [h2]
    have : i + 1 + (j : Int) = i + ((j + 1 : Nat) : Int) := by omega
    rw [this]
theorem enumD_len : ∀ {ds : List D} {i : Int}, (enumD i ds).length = ds.length
  | [], _ => rfl
  | _ :: ds, i => by simp [enumD, enumD_len]
theorem zipD_get : ∀ {ds es : List D} {j : Nat} {d : D}, (zipD ds es)[j]? = some d → ∃ x y, ds[j]? = some x ∧ es[j]? = some y ∧ d = .tuple [x, y]
  | [], es, j, d, h => by simp [zipD] at h
  | _ :: _, [], j, d, h => by simp [zipD] at h
  | x :: ds, y :: es, 0, d, h => by simp [zipD] at h; subst h; exact ⟨x, y, rfl, rfl, rfl⟩
  | x :: ds, y :: es, j + 1, d, h => by
    obtain ⟨x', y', h1, h2, h3⟩ := zipD_get (ds := ds) (es := es) (j := j) (d := d) (by simpa [zipD] using h)
    exact ⟨x', y', by simpa using h1, by simpa using h2, h3⟩
theorem zipD_len : ∀ {ds es : List D}, (zipD ds es).length = min ds.length es.length
  | [], es => by simp [zipD]
  | _ :: _, [] => by simp [zipD]
  | _ :: ds, _ :: es => by simp [zipD, zipD_len (ds := ds) (es := es), Nat.succ_min_succ]
theorem wc_rdeq {K : PySem.W.Frag} {F H H0 : Hp} {σ : L2.St} {ρ : List Slot} {v : V} {r : Res} {d : D} (S : Sta K F H σ ρ) (f : Fits K F H σ ρ H0 v r) (h : wc r ρ fun d' => d' = d) : RdAt K F H v d := by
  obtain ⟨d', h1, rfl⟩ := wc_rd S f h
  exact h1
section
variable {X : Cx} {tg l : Expr} {da : DTE} {ea : DTA} {pos p : Pos}
theorem di_list (h : DE X l da) : DI X tg l (dItL da) := PI.le (pi_list h) fun σ H R ⟨F, ρ, k, S, q, fin⟩ => ⟨F, ρ, _, S, q, fun r ρ1 v F1 H1 q S1 T1 f => by
  obtain ⟨d, q, hw⟩ := wc_eq q
  split at q
  · rename_i ds
    obtain ⟨a, xs, rfl, h1, h2⟩ := (wc_rdeq S1 f hw).list S1.sub
    refine ⟨a, rfl, ⟨xs, (.inl h1)⟩, fin _ _ _ _ _ _ q S1 T1 fun F2 H2 σ2 ρ2 S2 T2 hs => ?_⟩
    obtain ⟨a', ys, e, h3, h4⟩ := (later_rd S1 f hw S2 T2 hs).list S2.sub
    cases e
    refine ⟨fun i hi => ⟨ys, (.inl h3), by rw [dpAll_len h4]; exact hi⟩, fun i d hd => ?_⟩
    obtain ⟨w, e1, dw⟩ := dpAll_get' h4 hd
    refine ⟨⟨ys, w, (.inl h3), e1⟩, fun x H' hy => ?_⟩
    obtain ⟨rfl, hy⟩ := hy
    have := hy ys ((.inl h3))
    rw [e1] at this; cases this
    exact ⟨F2, Ex.refl _, Ex.refl _, S2.sub, fun _ _ z => .inl z, dw⟩
  · exact q.elim⟩
theorem di_tup (h : DE X l da) : DI X tg l (dItT da) := PI.le (pi_tup h) fun σ H R ⟨F, ρ, k, S, q, fin⟩ => ⟨F, ρ, _, S, q, fun r ρ1 v F1 H1 q S1 T1 f => by
  obtain ⟨d, q, hw⟩ := wc_eq q
  split at q
  · rename_i ds
    obtain ⟨a, xs, rfl, h1, h2, _⟩ := (wc_rdeq S1 f hw).tuple
    refine ⟨a, rfl, ⟨xs, (ex_t S1.sub h1)⟩, fin _ _ _ _ _ _ q S1 T1 fun F2 H2 σ2 ρ2 S2 T2 hs => ?_⟩
    obtain ⟨a', ys, e, h3, h4, _⟩ := (later_rd S1 f hw S2 T2 hs).tuple
    cases e
    have h3 := ex_t S2.sub h3
    refine ⟨fun i hi => ⟨ys, h3, by rw [dpAll_len h4]; exact hi⟩, fun i d hd => ?_⟩
    obtain ⟨w, e1, dw⟩ := dpAll_get' h4 hd
    refine ⟨⟨ys, w, h3, e1⟩, fun x H' hy => ?_⟩
    obtain ⟨rfl, hy⟩ := hy
    have := hy ys (h3)
    rw [e1] at this; cases this
    exact ⟨F2, Ex.refl _, Ex.refl _, S2.sub, fun _ _ z => .inl z, dw⟩
  · exact q.elim⟩
theorem di_str (h : DE X l da) : DI X tg l (dItS da) := PI.le (pi_str h) fun σ H R ⟨F, ρ, k, S, q, fin⟩ => ⟨F, ρ, _, S, q, fun r ρ1 v F1 H1 q S1 T1 f => by
  obtain ⟨d, q, hw⟩ := wc_eq q
  split at q
  · rename_i z
    cases (wc_rdeq S1 f hw).str
    refine ⟨z, rfl, fin _ _ _ _ _ _ q S1 T1 fun F2 H2 σ2 ρ2 S2 T2 hs => ⟨fun i hi => (by simpa [signs] using hi : z.cps.size ≤ i), fun i d hd => ?_⟩⟩
    unfold signs at hd
    rw [List.getElem?_map] at hd
    cases e : z.cps.toList[i]? with
    | none => rw [e] at hd; cases hd
    | some c =>
      rw [e] at hd
      cases hd
      have e' : z.cps[i]? = some c := by simpa using e
      refine ⟨(Array.getElem?_eq_some_iff.mp e').1, fun x H' hy => ?_⟩
      obtain ⟨rfl, c', h1, rfl⟩ := hy
      rw [e'] at h1; cases h1
      exact ⟨F2, Ex.refl _, Ex.refl _, S2.sub, fun _ _ z => .inl z, .str _⟩
  · exact q.elim⟩
theorem wk_range {K : PySem.W.Frag} {F H : Hp} {σ : L2.St} {ρ : List Slot} {lo c : Int} {n : Nat} {J : It} (h1 : ∀ i H, n ≤ i → J.stop i H) (h2 : ∀ i H, i < n → J.go i H ∧ ∀ x H', J.yld i H x H' → H' = H ∧ x = .int (lo + (i : Int) * c)) : Wk K J (rangeD lo c n) [] F H σ ρ := by
  intro F2 H2 σ2 ρ2 S2 T2 _
  refine ⟨fun i hi => h1 i H2 (by simpa [rangeD] using hi), fun i d hd => ?_⟩
  unfold rangeD at hd
  rw [List.getElem?_map] at hd
  cases e : (List.range n)[i]? with
  | none => rw [e] at hd; cases hd
  | some j =>
    rw [e] at hd
    obtain ⟨hl, e'⟩ := List.getElem?_eq_some_iff.mp e
    rw [List.getElem_range] at e'
    subst e'
    cases hd
    have hi : i < n := by simpa using hl
    refine ⟨(h2 i H2 hi).1, fun x H' hy => ?_⟩
    obtain ⟨rfl, rfl⟩ := (h2 i H2 hi).2 x H' hy
    exact ⟨F2, Ex.refl _, Ex.refl _, S2.sub, fun _ _ z => .inl z, .int _⟩
theorem wk_Itr {K : PySem.W.Frag} {F H : Hp} {σ : L2.St} {ρ : List Slot} {lo : Int} {n : Nat} : Wk K (Itr lo n) (rangeD lo 1 n) [] F H σ ρ :=
  wk_range (fun i H h => h) fun i H h => ⟨h, fun x H' hy => ⟨hy.1, by rw [hy.2, Int.mul_one]⟩⟩
theorem RdAll.three {K : PySem.W.Frag} {F H : Hp} {vs : List V} {d e f : D} (h : RdAll K F H vs [d, e, f]) : ∃ v w u, vs = [v, w, u] ∧ RdAt K F H v d ∧ RdAt K F H w e ∧ RdAt K F H u f := by
  cases h with | cons h1 h2 => cases h2 with | cons h2 h3 => cases h3 with | cons h3 h4 => cases h4; exact ⟨_, _, _, rfl, h1, h2, h3⟩
theorem di_range1 {a : Expr} (hg : Gl X "range") (hm : X.mg "range" = none) (ha : DA X [a] ea) (hs : starEach [a] X.env = [(false, eval a X.env)] := by rfl) : DI X tg (.Call (.Name "range" p) [a] [] pos) (dItR1 ea) :=
  PI.le (pi_range1 hg hm ha hs) fun σ H R ⟨F, ρ, k, S, q, fin⟩ => ⟨F, ρ, _, S, q, fun rs ρ1 vs F1 H1 q S1 T1 f => by
    obtain ⟨ds, rd, q⟩ := wcs_rd S1 f q
    split at q
    · obtain ⟨v, rfl, h⟩ := rd.one
      cases h.int
      exact ⟨_, rfl, q.1.1, q.1.2, fin _ _ _ _ _ _ q.2 S1 T1 wk_Itr⟩
    · exact q.elim⟩
theorem di_range2 {a b : Expr} (hg : Gl X "range") (hm : X.mg "range" = none) (ha : DA X [a, b] ea) (hs : starEach [a, b] X.env = [(false, eval a X.env), (false, eval b X.env)] := by rfl) (hs2 : starEach [b] X.env = [(false, eval b X.env)] := by rfl) :
    DI X tg (.Call (.Name "range" p) [a, b] [] pos) (dItR2 ea) :=
  PI.le (pi_range2 hg hm ha hs hs2) fun σ H R ⟨F, ρ, k, S, q, fin⟩ => ⟨F, ρ, _, S, q, fun rs ρ1 vs F1 H1 q S1 T1 f => by
    obtain ⟨ds, rd, q⟩ := wcs_rd S1 f q
    split at q
    · obtain ⟨v, w, rfl, h, h'⟩ := rd.two
      cases h.int; cases h'.int
      exact ⟨_, _, rfl, ⟨q.1.1.1, q.1.1.2, q.1.2.1, q.1.2.2⟩, fin _ _ _ _ _ _ q.2 S1 T1 wk_Itr⟩
    · exact q.elim⟩
theorem di_range3 {a b c : Expr} (hg : Gl X "range") (hm : X.mg "range" = none) (ha : DA X [a, b, c] ea)
    (hs : starEach [a, b, c] X.env = (false, eval a X.env) :: starEach [b, c] X.env := by rfl) (hpl : (backTo pos (starEach [b, c] X.env)).any (·.1) = false := by rfl) :
    DI X tg (.Call (.Name "range" p) [a, b, c] [] pos) (dItR3 ea) :=
  PI.le (pi_range3 hg hm ha hs hpl) fun σ H R ⟨F, ρ, k, S, q, fin⟩ => ⟨F, ρ, _, S, q, fun rs ρ1 vs F1 H1 q S1 T1 f => by
    obtain ⟨ds, rd, q⟩ := wcs_rd S1 f q
    split at q
    · obtain ⟨v, w, u, rfl, h, h', h''⟩ := rd.three
      cases h.int; cases h'.int; cases h''.int
      obtain ⟨n, q1, q⟩ := q
      exact ⟨_, _, _, n, rfl, q1, fin _ _ _ _ _ _ q S1 T1 (wk_range (fun i H h => h) fun i H h => ⟨h, fun x H' hy => hy⟩)⟩
    · exact q.elim⟩
/-- a new pair of two frozen things -/
theorem pair_new {K : PySem.W.Frag} {F H : Hp} {T : Addr} {x y : V} {d e : D} (s : Ex F H) (hT : H T = none) (dx : Dp K F x d) (dy : Dp K F y e) :
    ∃ F', Ex F F' ∧ Ex H (upd H T (.tup [x, y])) ∧ Ex F' (upd H T (.tup [x, y])) ∧ (∀ b o, F' b = some o → F b = some o ∨ H b = none) ∧ Dp K F' (.ref T) (.tuple [d, e]) := by
  have n := New.tuple (K := K) s hT (.cons dx (.cons dy .nil))
  exact ⟨_, n.fext, n.hext, n.sub, n.fnew, n.fit⟩
theorem di_enum {e : Expr} {tpos : Pos} {elts : List Expr} {kk : Nat} (hg : Gl X "enumerate") (hm : X.mg "enumerate" = none) (ha : DA X [e] ea) (hs : starEach [e] X.env = [(false, eval e X.env)] := by rfl) :
    DI X (.Tuple elts kk tpos) (.Call (.Name "enumerate" p) [e] [] pos) (dItE ea) :=
  PI.le (pi_enum hg hm ha hs) fun σ H R ⟨F, ρ, k, S, q, fin⟩ => ⟨F, ρ, _, S, q, fun rs ρ1 vs F1 H1 q S1 T1 f => by
    split at q
    · rename_i r
      obtain ⟨d, q, hw⟩ := wc_eq q
      match vs, f with
      | [v], ⟨f, _⟩ =>
        split at q
        · rename_i ds
          obtain ⟨a, xs, rfl, h1, h2⟩ := (wc_rdeq S1 f hw).list S1.sub
          refine ⟨a, xs, rfl, (.inl h1), fin _ _ _ _ _ _ q S1 T1 fun F2 H2 σ2 ρ2 S2 T2 hs => ?_⟩
          obtain ⟨a', ys, e, h3, h4⟩ := (later_rd S1 f hw S2 T2 hs).list S2.sub
          cases e
          refine ⟨fun i hi => ⟨ys, (.inl h3), by rw [dpAll_len h4]; rw [enumD_len] at hi; exact hi⟩, fun i d hd => ?_⟩
          obtain ⟨x, e1, rfl⟩ := enumD_get hd
          obtain ⟨w, e2, dw⟩ := dpAll_get' h4 e1
          refine ⟨⟨ys, w, (.inl h3), e2⟩, fun x' H' hy => ?_⟩
          obtain ⟨T, x2, rfl, hT, rfl, hy⟩ := hy
          have := hy ys ((.inl h3))
          rw [e2] at this; cases this
          have e0 : (0 : Int) + (i : Int) = (i : Int) := by omega
          rw [e0]
          exact pair_new S2.sub hT (.int _) dw
        · exact q.elim
    · exact q.elim⟩
theorem di_zip {e e2 : Expr} {tpos : Pos} {elts : List Expr} {kk : Nat} (hg : Gl X "zip") (hm : X.mg "zip" = none) (ha : DA X [e, e2] ea)
    (hs : starEach [e, e2] X.env = (false, eval e X.env) :: starEach [e2] X.env := by rfl) (hpl : (backTo pos (starEach [e2] X.env)).any (·.1) = false := by rfl) :
    DI X (.Tuple elts kk tpos) (.Call (.Name "zip" p) [e, e2] [] pos) (dItZ ea) :=
  PI.le (RZ.pi_zipA hg hm ha hs hpl) fun σ H R ⟨F, ρ, k, S, q, fin⟩ => ⟨F, ρ, _, S, q, fun rs ρ1 vs F1 H1 q S1 T1 f => by
    split at q
    · rename_i r r'
      obtain ⟨d, q, hw⟩ := wc_eq q
      obtain ⟨d', q, hw'⟩ := wc_eq q
      match vs, f with
      | [v, w], ⟨f, f', _⟩ =>
        split at q
        · rename_i ds es
          obtain ⟨a, xs, rfl, h1, h2⟩ := (wc_rdeq S1 f hw).list S1.sub
          obtain ⟨b, zs, rfl, g1, g2⟩ := (wc_rdeq S1 f' hw').list S1.sub
          refine ⟨a, b, xs, zs, rfl, .inl ⟨(.inl h1), (.inl g1), fin _ _ _ _ _ _ q S1 T1 fun F2 H2 σ2 ρ2 S2 T2 hs => ?_⟩⟩
          obtain ⟨a', xs', e, h3, h4⟩ := (later_rd S1 f hw S2 T2 fun p hp => hs p (List.mem_append_left _ hp)).list S2.sub
          cases e
          obtain ⟨b', zs', e, g3, g4⟩ := (later_rd S1 f' hw' S2 T2 fun p hp => hs p (List.mem_append_right _ hp)).list S2.sub
          cases e
          refine ⟨fun i hi => ⟨xs', zs', (.inl h3), (.inl g3), by rw [dpAll_len h4, dpAll_len g4]; rw [zipD_len] at hi; omega⟩, fun i d hd => ?_⟩
          obtain ⟨x, y, e1, e2, rfl⟩ := zipD_get hd
          obtain ⟨x1, e3, dx⟩ := dpAll_get' h4 e1
          obtain ⟨y1, e4, dy⟩ := dpAll_get' g4 e2
          refine ⟨⟨xs', zs', x1, y1, (.inl h3), (.inl g3), e3, e4⟩, fun x' H' hy => ?_⟩
          obtain ⟨T, x2, y2, rfl, hT, rfl, hx, hy⟩ := hy
          have := hx xs' ((.inl h3))
          rw [e3] at this; cases this
          have := hy zs' ((.inl g3))
          rw [e4] at this; cases this
          exact pair_new S2.sub hT dx dy
        · rename_i ds es
          obtain ⟨a, xs, rfl, h1, h2, _⟩ := (wc_rdeq S1 f hw).tuple
          obtain ⟨b, zs, rfl, g1, g2, _⟩ := (wc_rdeq S1 f' hw').tuple
          refine ⟨a, b, xs, zs, rfl, .inr ⟨(ex_t S1.sub h1), (ex_t S1.sub g1), fin _ _ _ _ _ _ q S1 T1 fun F2 H2 σ2 ρ2 S2 T2 hs => ?_⟩⟩
          obtain ⟨a', xs', e, h3, h4, _⟩ := (later_rd S1 f hw S2 T2 fun p hp => hs p (List.mem_append_left _ hp)).tuple
          cases e
          obtain ⟨b', zs', e, g3, g4, _⟩ := (later_rd S1 f' hw' S2 T2 fun p hp => hs p (List.mem_append_right _ hp)).tuple
          cases e
          have h3 := ex_t S2.sub h3
          have g3 := ex_t S2.sub g3
          refine ⟨fun i hi => ⟨xs', zs', h3, g3, by rw [dpAll_len h4, dpAll_len g4]; rw [zipD_len] at hi; omega⟩, fun i d hd => ?_⟩
          obtain ⟨x, y, e1, e2, rfl⟩ := zipD_get hd
          obtain ⟨x1, e3, dx⟩ := dpAll_get' h4 e1
          obtain ⟨y1, e4, dy⟩ := dpAll_get' g4 e2
          refine ⟨⟨xs', zs', x1, y1, h3, g3, e3, e4⟩, fun x' H' hy => ?_⟩
          obtain ⟨T, x2, y2, rfl, hT, rfl, hx, hy⟩ := hy
          have := hx xs' (h3)
          rw [e3] at this; cases this
          have := hy zs' (g3)
          rw [e4] at this; cases this
          exact pair_new S2.sub hT dx dy
        · exact q.elim
    · exact q.elim⟩
theorem di_rev {e : Expr} (hg : Gl X "reversed") (hm : X.mg "reversed" = none) (he : DE X e da) (hs : starEach [e] X.env = (false, eval e X.env) :: starEach [] X.env := by rfl) : DI X tg (.Call (.Name "reversed" p) [e] [] pos) (dItV da) :=
  PI.le (RT.pi_revA hg hm he hs) fun σ H R ⟨F, ρ, k, S, q, fin⟩ => ⟨F, ρ, _, S, q, fun r ρ1 v F1 H1 q S1 T1 f => by
    obtain ⟨d, q, hw⟩ := wc_eq q
    have rv : ∀ {ys : List V} {ds : List D} {i : Nat} {d : D}, ys.length = ds.length → ds.reverse[i]? = some d → i < ds.length ∧ ds[ds.length - 1 - i]? = some d := fun {ys ds i d} _ h => by
      have hi : i < ds.length := by
        have := (List.getElem?_eq_some_iff.mp h).1
        simpa using this
      rw [List.getElem?_reverse hi] at h
      exact ⟨hi, h⟩
    split at q
    · rename_i ds
      obtain ⟨a, xs, rfl, h1, h2⟩ := (wc_rdeq S1 f hw).list S1.sub
      refine ⟨a, xs, rfl, .inl ⟨(.inl h1), fin _ _ _ _ _ _ q S1 T1 fun F2 H2 σ2 ρ2 S2 T2 hs => ?_⟩⟩
      obtain ⟨a', ys, e, h3, h4⟩ := (later_rd S1 f hw S2 T2 hs).list S2.sub
      cases e
      refine ⟨fun i hi => (by rw [dpAll_len h2]; simpa using hi : xs.length ≤ i), fun i d hd => ?_⟩
      obtain ⟨hi, hd⟩ := rv (dpAll_len h4) hd
      obtain ⟨w, e1, dw⟩ := dpAll_get' h4 hd
      refine ⟨⟨by rw [dpAll_len h2]; exact hi, ys, w, (.inl h3), by rw [dpAll_len h2]; exact e1⟩, fun x H' hy => ?_⟩
      obtain ⟨rfl, hy⟩ := hy
      have := hy ys ((.inl h3))
      rw [dpAll_len h2, e1] at this; cases this
      exact ⟨F2, Ex.refl _, Ex.refl _, S2.sub, fun _ _ z => .inl z, dw⟩
    · rename_i ds
      obtain ⟨a, xs, rfl, h1, h2, _⟩ := (wc_rdeq S1 f hw).tuple
      refine ⟨a, xs, rfl, .inr ⟨(ex_t S1.sub h1), fin _ _ _ _ _ _ q S1 T1 fun F2 H2 σ2 ρ2 S2 T2 hs => ?_⟩⟩
      obtain ⟨a', ys, e, h3, h4, _⟩ := (later_rd S1 f hw S2 T2 hs).tuple
      cases e
      have h3 := ex_t S2.sub h3
      refine ⟨fun i hi => (by rw [dpAll_len h2]; simpa using hi : xs.length ≤ i), fun i d hd => ?_⟩
      obtain ⟨hi, hd⟩ := rv (dpAll_len h4) hd
      obtain ⟨w, e1, dw⟩ := dpAll_get' h4 hd
      refine ⟨⟨by rw [dpAll_len h2]; exact hi, ys, w, h3, by rw [dpAll_len h2]; exact e1⟩, fun x H' hy => ?_⟩
      obtain ⟨rfl, hy⟩ := hy
      have := hy ys (h3)
      rw [dpAll_len h2, e1] at this; cases this
      exact ⟨F2, Ex.refl _, Ex.refl _, S2.sub, fun _ _ z => .inl z, dw⟩
    · exact q.elim⟩
/-- a name that a loop walks -/
theorem de_lend {x : Str} {i : Nat} (h : PE X (.Name x pos) (tVar i)) : DE X (.Name x pos) (dLend i) := PE.le h fun σ H Q ⟨F, ρ, k, S, q, fin⟩ => by
  unfold dLend at q
  split at q
  · rename_i d e
    obtain ⟨v, e1, r⟩ := S.fz i d e
    exact ⟨v, e1, fin _ _ v F H q S .refl r⟩
  · rename_i d e
    obtain ⟨v, e1, r⟩ := S.rd i d e
    exact ⟨v, e1, fin _ _ v F H q S .refl r⟩
  · rename_i d e
    obtain ⟨a, e1, _⟩ := S.ow i _ _ d e
    have fr : fzR (.bo i) ρ fun d' ρ' => d' = d ∧ ρ' = ρ.set i (.fz d) := by unfold fzR; simp [e]
    obtain ⟨d', ρ', F', ⟨rfl, rfl⟩, S', T', dp, _⟩ := fzR_ok S (show FitsW X.K F H σ ρ H (.ref a) (.bo i) from e1) .refl fr
    exact ⟨.ref a, e1, fin _ _ _ F' H q S' T' dp⟩
  · rename_i κ d _ e
    obtain ⟨a, e1, ho, fa, _⟩ := S.ow i _ _ d e
    have hs : ∀ t κ' d', Slot.rd d ≠ .ow t κ' d' := fun _ _ _ z => by cases z
    have n : ¬ OA σ (ρ.set i (.rd d)) a := fun ⟨j, t, κ', d', q1, q2⟩ => by
      rcases get_set_cases q1 with ⟨e', z⟩ | ⟨e', z⟩
      · cases z
      · exact e' (S.inj i j _ _ _ _ _ _ a e z e1 q2)
    have rd : RdN X.K F H (OA σ (ρ.set i (.rd d))) (.ref a) d := .inr ⟨κ, a, rfl, ho, n⟩
    have S' : Sta X.K F H σ (ρ.set i (.rd d)) := S.drop hs (fun _ z => by cases z) (fun d' z => by cases z; exact ⟨_, e1, rd⟩)
    refine ⟨.ref a, e1, fin _ _ _ F H q S' ⟨⟨Ex.refl F, fun b u h _ _ => ?_, fun b u h => ⟨u, h⟩, fun b z => .inl (oa_set hs z), fun _ _ z => .inl z⟩, fun j t κ' d' z => ?_, fun j d' z => ?_⟩ rd⟩
    · exact h
    · rcases get_set_cases z with ⟨_, y⟩ | ⟨_, y⟩
      · cases y
      · exact ⟨d', y⟩
    · rcases get_set_cases z with ⟨y1, y⟩ | ⟨_, y⟩
      · cases y; exact .inr ⟨_, _, _, by rw [← y1]; exact e⟩
      · exact .inl y
  · exact q.elim
end
end TL

-- part TL12
/-! TL12: callees in one word; scopes of a text; the end of a law; gcd; the script's cells; more stores. -/
namespace TL
open PySem PySem.Spec L2
open Evl (Ex ex_l ex_t)
variable [Lay]

/-- a def of the module, its promise, its place -/
structure Cal (P : Program) (w : World) (K : PySem.W.Frag) (mg : Str → Option Value) (base : Heap) (k : Nat) (x : Str) (ms : List Md) (ts : TSp) : Prop where
  ex : ∃ (f : Addr) (fd : FuncData) (ps : List Str), FnOk P w K mg base CX0 k f fd ps (spT K ms ts) ∧ mg x = some (.ref f) ∧ PySem.W.keepIn K (.ref f) = true ∧ Binds K fd ps []
section
variable {X : Cx} {k : Nat} {x : Str} {ms : List Md} {ts : TSp} {e : Expr} {es : List Expr} {da : DTA} {p pos : Pos}
theorem de_own (C : Cal X.prog X.w X.K X.mg X.base k x ms ts) (hr : Room k X.A) (hg : Gl X x) (ha : DA X (e :: es) da) (hdb : (x == ("__debug__" : Str)) = false := by decide)
    (he : starEach (e :: es) X.env = (false, eval e X.env) :: starEach es X.env := by rfl) (hpl : (backTo pos (starEach es X.env)).any (·.1) = false := by rfl) : DE X (.Call (.Name x p) (e :: es) [] pos) (dCall ms ts da) := by
  obtain ⟨f, fd, ps, F, hm, hk, hb⟩ := C.ex
  exact de_call F hr hg hm hk hb ha hdb he hpl
end
section
variable {P : Program} {w : World} {K : PySem.W.Frag} {mg : Str → Option Value} {base : Heap}
theorem Cal.weak {k j : Nat} {x : Str} {ms : List Md} {ts : TSp} (C : Cal P w K mg base k x ms ts) (h : k ≤ j) : Cal P w K mg base j x ms ts := by
  obtain ⟨f, fd, ps, F, r⟩ := C.ex
  exact ⟨f, fd, ps, F.mono h, r⟩
theorem cal_mk {x : Str} {st : Stmt} {f : Addr} {fd : FuncData} {N ps : List Str} {k : Nat} {ms : List Md} {ts : TSp} (Fu : Fun K x x st f fd) (hm : mg x = some (.ref f)) (hb0 : Binds K fd ps []) (S : FnScope N ps (defScope st)) (hl : ms.length = ps.length) (b : DTS)
    (hb : ∀ cdv, fd.code = cdv → ∀ A outer s H E, Room k (A.deeper (PyProof.Rows.envOfC x (defScope st) s.heap.objs.size f cdv)) → DSs (cxOf CX0 P w K mg base N x (defScope st) f cdv A outer s H E).nox (defBody st) b)
    (sp : ∀ ds k as, ts ds k → ds.length = ms.length → as.length = nio ms → b { nx := finR ms as k (.fz .none), rt := finR ms as k } (entryR ms ds as ++ List.replicate (N.length - ms.length) .un)) : Cal P w K mg base (k + 1) x ms ts :=
  ⟨f, fd, ps, fn_ok Fu S hl b hb sp, hm, Fu.kp, hb0⟩
end
/-! ### scopes of a text, in the order in which they stand -/
def colE : Nat → Expr → List Scope
  | 0, _ => []
  | n + 1, e => match e with
    | .BoolOp _ es _ => es.flatMap (colE n)
    | .BinOp a _ b _ => colE n a ++ colE n b
    | .UnaryOp _ a _ => colE n a
    | .Lambda _ b s _ => s :: colE n b
    | .IfExp c a b _ => colE n c ++ (colE n a ++ colE n b)
    | .Dict ks vs _ => ks.flatMap (fun o => match o with | some e => colE n e | none => []) ++ vs.flatMap (colE n)
    | .ListComp e gs s _ => s :: (colE n e ++ gs.flatMap fun g => colE n g.iter ++ g.ifs.flatMap (colE n))
    | .SetComp e gs s _ => s :: (colE n e ++ gs.flatMap fun g => colE n g.iter ++ g.ifs.flatMap (colE n))
    | .DictComp a b gs s _ => s :: (colE n a ++ (colE n b ++ gs.flatMap fun g => colE n g.iter ++ g.ifs.flatMap (colE n)))
    | .Compare a _ bs _ => colE n a ++ bs.flatMap (colE n)
    | .Call f as ks _ => colE n f ++ (as.flatMap (colE n) ++ ks.flatMap fun k => colE n k.value)
    | .Attribute a _ _ => colE n a
    | .Subscript a b _ => colE n a ++ colE n b
    | .List es _ => es.flatMap (colE n)
    | .Tuple es _ _ => es.flatMap (colE n)
    | .Starred a _ => colE n a
    | .Slice a b c _ => (match a with | some e => colE n e | none => []) ++ ((match b with | some e => colE n e | none => []) ++ (match c with | some e => colE n e | none => []))
    | .JoinedStr es _ => es.flatMap (colE n)
    | .FormattedValue a _ _ _ => colE n a
    | _ => []
def colS : Nat → Stmt → List Scope
  | 0, _ => []
  | n + 1, s => match s with
    | .Return (some e) _ => colE 40 e
    | .Assign ts e _ => colE 40 e ++ ts.flatMap (colE 40)
    | .AugAssign t _ e _ => colE 40 t ++ colE 40 e
    | .For _ it b o _ => colE 40 it ++ (b.flatMap (colS n) ++ o.flatMap (colS n))
    | .While c b o _ => colE 40 c ++ (b.flatMap (colS n) ++ o.flatMap (colS n))
    | .If c b o _ => colE 40 c ++ (b.flatMap (colS n) ++ o.flatMap (colS n))
    | .Expr e _ => colE 40 e
    | _ => []
def scopeAt (st : Stmt) (i : Nat) : Scope := ((defBody st).flatMap (colS 20)).getD i (defScope st)

/-! ### gcd, imported by its name -/
@[simp] def gGcd : List D → (Res → Prop) → Prop
  | [.int a, .int b], k => k (.fz (.int (Nat.gcd a.natAbs b.natAbs)))
  | _, _ => False
section
variable {X : Cx} {x : Str} {id : String} {e : Expr} {es : List Expr} {da : DTA} {p pos : Pos} {g : List D → (Res → Prop) → Prop}
theorem cr_gGcd : CallR X (.builtin "math.gcd") (rn X.K gGcd) := by
  intro pins s σ H xs us Q I r ⟨F, ds, k, se, rd, g, fin⟩
  unfold gGcd at g
  split at g
  · obtain ⟨v, w, rfl, h, h'⟩ := rd.two
    cases h.int; cases h'.int
    exact cr_gcd pins s σ H _ us Q I r ⟨_, _, rfl, r2_val se g fin (.int _)⟩
  · exact g.elim
/-! ### the script -/
@[simp] def scrD (ns : List Int) : D := .dict [(.list (ns.map .int), .none)]
theorem scr_get {K : PySem.W.Frag} {F H : Hp} {v : V} {ns : List Int} (h : Dp K F v (scrD ns)) : ∃ a ms, v = .ref a ∧ ms = ns ∧ SqL K F a (ms.map V.int) := by
  unfold scrD at h
  generalize e : PyData.dict [(.list (ns.map .int), .none)] = d at h
  cases h with
  | @scr a ms h =>
    refine ⟨a, ms, rfl, ?_, h⟩
    injection e with e
    injection e with e _
    injection e with e _
    injection e with e
    have : ∀ l m : List Int, l.map PyData.int = m.map PyData.int → m = l := fun l => by
      induction l with
      | nil => intro m h; cases m with
        | nil => rfl
        | cons => simp at h
      | cons a l ih => intro m h; cases m with
        | nil => simp at h
        | cons b m =>
          simp only [List.map_cons, List.cons.injEq, PyData.int.injEq] at h
          rw [h.1, ih m h.2]
    exact this _ _ e
  | _ => cases e
end
end TL

-- part TL13
/-! TL13: list(reversed(..)), list(range(..)), names of the module that are built-ins, op= by place. -/
namespace TL
open PySem PySem.Spec L2
open Evl (Ex ex_l ex_t)
variable [Lay]
section
variable {prog : Program} {w : World} {A : Around} {E : Value → Shared → Prop} {s : Shared}
/-- a reversed list runs into an empty new list at S -/
theorem ext_rev {R : Result → Shared → Prop} {it l S : Addr} {items : Array Value} {c₀ : Nat} {res : Value} (hh : A.handled = none) (hit : s.heap.IsRevIter it l ((items.size : Int) - 1)) (hl : s.heap.IsList l items) (hne : l ≠ it) (hn : items.size ≤ sizeLine)
    (hSi : S ≠ it) (hSl : S ≠ l) (hS : s.heap.get? S = some { cls := .type "list", data := .seq #[] c₀ })
    (hR : ∀ (h' : Heap) (tk : Nat) (acc : Array Value) (c' : Nat), (∀ b o, b ≠ it → b ≠ S → s.heap.get? b = some o → h'.get? b = some o) → h'.get? S = some { cls := .type "list", dict := none, data := .seq acc c', slots := #[] } →
      ItemsOf (fun i v => items[items.size - 1 - i]? = some v) acc items.size → R (.ok (.ret res)) { s with heap := h', toks := tk }) :
    wpAny (model prog w) A.in1 (Builtin.List.listExtendWith (.ref S) (.ref it) res)
      (fun fin s' => match fin with | .done f => R (.ok f) s' | .again c' => c'.quiet = true ∧ codeAny (model prog w) A c' R s') (fun e s' => R (.error e) s') s := by
  have W := (Walks.listRev (prog := prog) (w := w) (A := A.in1) hh it l hne items).toS
  have hSf : S ∉ [it, l] := by
    intro z
    rcases List.mem_cons.mp z with z | z
    · exact hSi z
    · exact hSl (List.mem_singleton.mp z)
  have hT : s.TypeIs (.ref it) "list_reverseiterator" := hit.typeIs
  have hx : Builtin.List.listSameRef (.ref S) (.ref it) = false := by simp [Builtin.List.listSameRef, hSi]
  unfold Builtin.List.listExtendWith
  refine wpAny_bind (wpAny_typeOf hT ?_)
  rw [if_neg (by rw [hx]; decide)]
  refine wpAny_bind (wpAny_pyIter_revIter hit (wpAny_bind (wpAny_holding ?_)))
  unfold Builtin.List.listLengthHint
  refine wpAny_bind (wpAny_specialOf hT RT.nolen_lri ?_)
  show wpAny _ _ (specialOf (Value.ref it) (Str.ofString "__length_hint__") >>= _) _ _ s
  refine wpAny_bind (wpAny_specialOf hT RT.hint_lri ?_)
  generalize hq : ("list_reverseiterator.__length_hint__" : String) = q0
  wp_delta
  rw [show splitId q0 = some ("list_reverseiterator", "__length_hint__") from by subst hq; decide +kernel]
  subst hq
  refine wpAny_bind (wpAny_isInstance (b := true) hT (by rw [isSubtype_type]; kernel_rfl) (wpAny_pure ?_))
  rw [if_neg (by decide)]
  have e0 : ((items.size : Nat) : Int) - 1 - ((0 : Nat) : Int) = (items.size : Int) - 1 := by omega
  refine wpAny_pure ⟨plainId_quiet F.plain_extend_loop _, codeAny_extend_loopS W hn _ hSf _ items.size 0 _ _ _ rfl (Nat.zero_le _) ⟨Nat.zero_le _, by rw [e0]; exact hit, hl⟩ hS (ItemsOf.nil _) fun s' acc' c' hm hS' hacc => ?_⟩
  rw [Moved.eq_with hm]
  refine hR s'.heap s'.toks acc' c' (fun b o hb hbS e => hm.heap b o (fun z => ?_) e) hS' hacc
  rcases List.mem_cons.mp z with z | z
  · exact hbS z
  · exact hb (List.mem_singleton.mp z)
theorem call_list_rev {Q : Value → Shared → Prop} {it l : Addr} {items : Array Value} (hh : A.handled = none) (hit : s.heap.IsRevIter it l ((items.size : Int) - 1)) (hl : s.heap.IsList l items) (hne : l ≠ it) (hn : items.size ≤ sizeLine)
    (hQ : ∀ (h' : Heap) (tk : Nat) (acc : Array Value) (c' : Nat), (∀ b o, b ≠ it → s.heap.get? b = some o → h'.get? b = some o) → h'.get? s.heap.objs.size = some { cls := .type "list", dict := none, data := .seq acc c', slots := #[] } →
      ItemsOf (fun i v => items[items.size - 1 - i]? = some v) acc items.size → Q (.ref s.heap.objs.size) { s with heap := h', toks := tk }) : wpAny (model prog w) A (call (.type "list") [.ref it]) Q E s := by
  have hit0 := hit
  have hl0 := hl
  obtain ⟨oi, hoi, _⟩ := hit0
  obtain ⟨ol, hol, _⟩ := hl0
  refine callType_codes (Q₁ := fun obj s₁ => obj = .ref s.heap.objs.size ∧ s₁ = { s with heap := s.heap.push { cls := .type "list", data := .seq #[] } }) F.called_list (F.typeCall_list_1 _) F.entry_list_init (code_list_new _ ⟨rfl, rfl⟩) fun obj s₁ ⟨e1, e2⟩ => ?_
  subst e1 e2
  have hS : (s.heap.push { cls := .type "list", data := .seq #[] }).get? s.heap.objs.size = some { cls := .type "list", data := .seq #[] } := Heap.get?_push_size _ rfl
  refine ⟨⟨_, hS, rfl⟩, F.args_list_init_2 _ _, ?_⟩
  show wpAny _ A.in1.in1 (Builtin.List.listItems (.ref s.heap.objs.size) >>= fun old => Builtin.List.listUpdate (.ref s.heap.objs.size) (fun _ => #[]) >>= fun _ => letGo old.toList.reverse >>= fun _ => Builtin.List.listExtendWith (.ref s.heap.objs.size) (.ref it) .none) _ _ _
  refine wpAny_bind ?_
  unfold Builtin.List.listItems
  refine wpAny_bind (wpAny_seqItems hS rfl (wpAny_pure ?_))
  show wpAny _ A.in1.in1 (updateSeq s.heap.objs.size (fun _ => #[]) >>= fun _ => letGo (#[] : Array Value).toList.reverse >>= fun _ => Builtin.List.listExtendWith (.ref s.heap.objs.size) (.ref it) .none) _ _ _
  refine wpAny_bind (wpAny_updateSeq hS rfl ?_)
  have hS₂ := Heap.get?_update_self (Obj.mapSeq (fun _ => (#[] : Array Value))) hS rfl
  have oth : ∀ b o, b ≠ s.heap.objs.size → s.heap.get? b = some o → ((s.heap.push { cls := .type "list", data := .seq #[] }).update s.heap.objs.size (Obj.mapSeq (fun _ => (#[] : Array Value)))).get? b = some o :=
    fun b o hb e => (Heap.get?_update_other _ _ (Ne.symm hb)).trans (Heap.get?_push_of_some _ e)
  have n1 : s.heap.objs.size ≠ it := Nat.ne_of_gt (Heap.lt_size hoi)
  have n2 : s.heap.objs.size ≠ l := Nat.ne_of_gt (Heap.lt_size hol)
  refine wpAny_bind (wpAny_letGo (ext_rev (A := A.in1) hh (hit.at fun o e => oth _ o (Ne.symm n1) e) (hl.at fun o e => oth _ o (Ne.symm n2) e) hne hn n1 n2 hS₂ fun h' tk acc c' hk hS' hi => ?_))
  exact ⟨rfl, hQ h' tk acc c' (fun b o hb e => hk b o hb (Nat.ne_of_lt (Heap.lt_size e)) (oth b o (Nat.ne_of_lt (Heap.lt_size e)) e)) hS' hi⟩
end
section
variable {X : Cx} {x : Str} {id : String} {e : Expr} {es : List Expr} {da : DTE} {ea : DTA} {p p2 pos pos2 : Pos} {g : List D → (Res → Prop) → Prop}
/-- list(reversed(x)), x a list -/
@[simp] def dRevL (da : DTE) : DTE := fun ρ k => da ρ fun r ρ1 => wc r ρ1 fun d => match d with
  | .list ds => k (.tm .l (.list ds.reverse)) ρ1
  | _ => False
theorem dpAll_rev {K : PySem.W.Frag} {F : Hp} {vs : List V} {ds : List D} (h : DpAll K F vs ds) : DpAll K F vs.reverse ds.reverse := by
  induction vs generalizing ds with
  | nil => cases h; exact .nil
  | cons v vs ih => cases h with | cons p r => rw [List.reverse_cons, List.reverse_cons]; exact dpAll_app (ih r) (.cons p .nil)
theorem pe_listRev {te : TE} (hc : X.calm = true) (hg : Gl X "list") (hm : X.mg "list" = none) (hg2 : Gl X "reversed") (hm2 : X.mg "reversed" = none) (he : PE X e te)
    (hs : starEach [e] X.env = (false, eval e X.env) :: starEach [] X.env := by rfl)
    (hs2 : starEach [.Call (.Name "reversed" p2) [e] [] pos2] X.env = (false, eval (.Call (.Name "reversed" p2) [e] [] pos2) X.env) :: starEach [] X.env := by rfl) :
    PE X (.Call (.Name "list" p) [.Call (.Name "reversed" p2) [e] [] pos2] [] pos) (fun σ H Q => te σ H fun v H1 => ∃ (a : Addr) (xs : List V), v = .ref a ∧ SqL X.K H1 a xs ∧ ∀ q, H1 q = none → Q (.ref q) (upd H1 q (.lst xs.reverse))) := by
  refine ⟨fun pins s σ H Q I h => PyProof.Rows.Call_ (ld_blt I hg hm PyProof.Rows.boot_list (PyProof.Rows.callWith_type1 (PyProof.Rows.args_cons (PyProof.Rows.Call_ (ld_blt I hg2 hm2 PyProof.Rows.boot_reversed (PyProof.Rows.callWith_type1 (PyProof.Rows.args_cons (thn (he.run pins s σ H _ I h) fun u s1 ⟨v, H1, I1, r1, a, xs, ev, hq, q⟩ => PyProof.Rows.args_nil ?_) hs) hs rfl))) hs2) hs2 rfl))⟩
  subst ev
  obtain rfl : u = Value.ref a := r1
  obtain ⟨its, rv, p', hz⟩ := I1.list hq
  refine call_reversed_list p'.isList (PyProof.Rows.args_nil ?_)
  have k0 : ∀ b o, s1.heap.get? b = some o → (s1.heap.push (revObj a ((its.toArray.size : Int) - 1))).get? b = some o := fun b o e => Heap.get?_push_of_some _ e
  have I2 : Inv X pins σ H1 { s1 with heap := s1.heap.push (revObj a ((its.toArray.size : Int) - 1)) } := I1.kept (t' := s1.toks) k0
  obtain ⟨f0, f1, f2, f3, f4, f5⟩ := I1.fpOk (H' := H1) (b := s1.heap.objs.size) (Nat.le_refl _) (I1.hok.fresh (Nat.le_refl _))
  have hl := p'.isList
  have hl0 := hl
  obtain ⟨ol, hol, _⟩ := hl0
  have hn : its.toArray.size ≤ sizeLine := by rw [List.size_toArray, ← rv.length]; exact hz
  refine call_list_rev (s := { s1 with heap := s1.heap.push (revObj a ((its.toArray.size : Int) - 1)) }) (I1.ok.hd hc) ⟨_, Heap.get?_push_size _ rfl, rfl, rfl⟩ (hl.push _) (Nat.ne_of_lt (Heap.lt_size hol)) hn fun h' tk acc c' hk hS hi => ?_
  have hT : (s1.heap.push (revObj a ((its.toArray.size : Int) - 1))).objs.size ≤ (s1.heap.push (revObj a ((its.toArray.size : Int) - 1))).objs.size := Nat.le_refl _
  have nw : ObjOk X.prog X.w (upd H1 (s1.heap.push (revObj a ((its.toArray.size : Int) - 1))).objs.size (.lst xs.reverse)) h' (s1.heap.push (revObj a ((its.toArray.size : Int) - 1))).objs.size (.lst xs.reverse) :=
    ⟨by rw [List.length_reverse]; exact hz, acc.toList, c', RT.vals_rev rv hi, by rw [Array.toArray_toList]; exact hS⟩
  have I3 := I2.turnedNew (t' := tk) (ch := [s1.heap.objs.size]) (fun b o hb e => hk b o (fun z => hb (by rw [z]; exact List.mem_singleton.mpr rfl)) e) (fun b hb => by
    obtain rfl := List.mem_singleton.mp hb
    exact ⟨f0, f1, f2, f3, f4, f5⟩) hT nw
  exact ⟨.ref _, _, I3, rfl, q _ (I2.hok.fresh (Nat.le_refl _))⟩
theorem de_listRev (hc : X.calm = true) (hg : Gl X "list") (hm : X.mg "list" = none) (hg2 : Gl X "reversed") (hm2 : X.mg "reversed" = none) (he : DE X e da)
    (hs : starEach [e] X.env = (false, eval e X.env) :: starEach [] X.env := by rfl)
    (hs2 : starEach [.Call (.Name "reversed" p2) [e] [] pos2] X.env = (false, eval (.Call (.Name "reversed" p2) [e] [] pos2) X.env) :: starEach [] X.env := by rfl) :
    DE X (.Call (.Name "list" p) [.Call (.Name "reversed" p2) [e] [] pos2] [] pos) (dRevL da) :=
  PE.le (pe_listRev hc hg hm hg2 hm2 he hs hs2) fun σ H Q ⟨F, ρ, k, S, q, fin⟩ => ⟨F, ρ, _, S, q, fun r ρ1 v F1 H1 q S1 T1 f => by
    obtain ⟨d, rd, q⟩ := wc_rd S1 f q
    split at q
    · obtain ⟨a, xs, rfl, h1, h2⟩ := rd.list S1.sub
      refine ⟨a, xs, rfl, .inl h1, fun p hp => ?_⟩
      have n := New.list (K := X.K) S1.sub hp (dpAll_rev h2)
      exact fin _ _ _ _ _ q (n.sta S1) (T1.trans n.tr) (n.fits S1 fun _ z => T1.none z)
    · exact q.elim⟩
/-- list(range(n)), list(range(a, b)) -/
def okLen (a b : Int) : Prop := okRg a ∧ okRg b ∧ (b - a).toNat ≤ 16777216
@[simp] def dRgL1 (da : DTE) : DTE := fun ρ k => da ρ fun r ρ1 => wc r ρ1 fun d => match d with
  | .int n => okLen 0 n ∧ k (.tm .l (.list (rangeD 0 1 (n - 0).toNat))) ρ1
  | _ => False
@[simp] def dRgL2 (da db : DTE) : DTE := fun ρ k => da ρ fun r ρ1 => db ρ1 fun r' ρ2 => wc r ρ2 fun d => wc r' ρ2 fun d' => match d, d' with
  | .int a, .int b => okLen a b ∧ k (.tm .l (.list (rangeD a 1 (b - a).toNat))) ρ2
  | _, _ => False
theorem dp_rg {K : PySem.W.Frag} {F : Hp} (a : Int) (n : Nat) : DpAll K F ((List.range n).map fun (i : Nat) => V.int (a + (i : Int))) (rangeD a 1 n) := by
  unfold rangeD
  have : ∀ l : List Nat, DpAll K F (l.map fun (i : Nat) => V.int (a + (i : Int))) (l.map fun (i : Nat) => .int (a + (i : Int) * 1)) := fun l => by
    induction l with
    | nil => exact .nil
    | cons i l ih => rw [List.map_cons, List.map_cons]; exact .cons (by rw [Int.mul_one]; exact .int _) ih
  exact this _
theorem de_listRg1 {a : Expr} (hc : X.calm = true) (hg : Gl X "list") (hm : X.mg "list" = none) (hg2 : Gl X "range") (hm2 : X.mg "range" = none) (ha : DE X a da) (na : starEach [a] X.env = (false, eval a X.env) :: starEach [] X.env := by rfl)
    (nb : starEach [.Call (.Name "range" p2) [a] [] pos2] X.env = (false, eval (.Call (.Name "range" p2) [a] [] pos2) X.env) :: starEach [] X.env := by rfl) : DE X (.Call (.Name "list" p) [.Call (.Name "range" p2) [a] [] pos2] [] pos) (dRgL1 da) :=
  PE.le (pe_listRg hc hg hm (prg_1 hg2 hm2 ha na) nb) fun σ H Q ⟨F, ρ, k, S, q, fin⟩ => ⟨F, ρ, _, S, q, fun r ρ1 v F1 H1 q S1 T1 f => by
    obtain ⟨d, rd, q⟩ := wc_rd S1 f q
    split at q
    · rename_i m
      cases rd.int
      obtain ⟨⟨o1, o2, o3⟩, q⟩ := q
      refine ⟨_, rfl, ⟨o1.1, o1.2, o2.1, o2.2, o3⟩, fun p hp => ?_⟩
      have n := New.list (K := X.K) S1.sub hp (dp_rg 0 (m - 0).toNat)
      exact fin _ _ _ _ _ q (n.sta S1) (T1.trans n.tr) (n.fits S1 fun _ z => T1.none z)
    · exact q.elim⟩
theorem de_listRg2 {a b : Expr} {db : DTE} (hc : X.calm = true) (hg : Gl X "list") (hm : X.mg "list" = none) (hg2 : Gl X "range") (hm2 : X.mg "range" = none) (ha : DE X a da) (hb : DE X b db) (na : starEach [a, b] X.env = (false, eval a X.env) :: starEach [b] X.env := by rfl)
    (nb : starEach [b] X.env = (false, eval b X.env) :: starEach [] X.env := by rfl) (hp : (backTo pos2 (starEach [b] X.env)).any (·.1) = false := by rfl)
    (nc : starEach [.Call (.Name "range" p2) [a, b] [] pos2] X.env = (false, eval (.Call (.Name "range" p2) [a, b] [] pos2) X.env) :: starEach [] X.env := by rfl) : DE X (.Call (.Name "list" p) [.Call (.Name "range" p2) [a, b] [] pos2] [] pos) (dRgL2 da db) :=
  PE.le (pe_listRg hc hg hm (prg_2 hg2 hm2 ha hb na nb hp) nc) fun σ H Q ⟨F, ρ, k, S, q, fin⟩ => up2 S q fun x y ρ' v u F1 H1 q S1 T1 f1 f2 => by
    obtain ⟨d, rd, q⟩ := wc_rd S1 f1 q
    obtain ⟨d', rd', q⟩ := wc_rd S1 f2 q
    split at q
    · rename_i i j _
      cases rd.int; cases rd'.int
      obtain ⟨⟨o1, o2, o3⟩, q⟩ := q
      refine ⟨_, _, rfl, rfl, ⟨o1.1, o1.2, o2.1, o2.2, o3⟩, fun p hp => ?_⟩
      have n := New.list (K := X.K) S1.sub hp (dp_rg i (j - i).toNat)
      exact fin _ _ _ _ _ q (n.sta S1) (T1.trans n.tr) (n.fits S1 fun _ z => T1.none z)
    · exact q.elim
/-- f(..), f the module's name of a built-in function -/
theorem de_fnG (hc : CallR X (.builtin id) (rn X.K g)) (hg : Gl X x) (hm : X.mg x = some (.builtin id)) (ha : DA X (e :: es) ea) (hdb : (x == ("__debug__" : Str)) = false := by decide)
    (he : starEach (e :: es) X.env = (false, eval e X.env) :: starEach es X.env := by rfl) (hpl : (backTo pos (starEach es X.env)).any (·.1) = false := by rfl) : DE X (.Call (.Name x p) (e :: es) [] pos) (dFn g ea) :=
  PE.le (pe_callBfun hc hg hm ha hdb he hpl) fun σ H Q h => up_fn h
end
end TL

-- part TL14
/-! TL14: isinstance, repr, is of bools, the script's cells, x[i] op= e. -/
namespace TL
open PySem PySem.Spec L2
open Evl (Ex ex_l ex_t)
variable [Lay]

/-! ### isinstance(x, T) -/
def tyS : D → String
  | .none => "NoneType"
  | .bool _ => "bool"
  | .int _ => "int"
  | .str _ => "str"
  | .list _ => "list"
  | .tuple _ => "tuple"
  | .dict _ => "dict"
@[irreducible] def isT (T : String) (d : D) : Option Bool := match d with
  | .dict _ => none
  | _ => kitB (tyS d) T
@[simp] theorem isT_int_int {i : Int} : isT "int" (.int i) = some true := by unfold isT; show kitB "int" "int" = _; decide +kernel
@[simp] theorem isT_int_bool {i : Bool} : isT "int" (.bool i) = some true := by unfold isT; show kitB "bool" "int" = _; decide +kernel
@[simp] theorem isT_int_str {i : Str} : isT "int" (.str i) = some false := by unfold isT; show kitB "str" "int" = _; decide +kernel
@[simp] theorem isT_int_list {i : List D} : isT "int" (.list i) = some false := by unfold isT; show kitB "list" "int" = _; decide +kernel
@[simp] theorem isT_int_tuple {i : List D} : isT "int" (.tuple i) = some false := by unfold isT; show kitB "tuple" "int" = _; decide +kernel
@[simp] theorem isT_int_none : isT "int" .none = some false := by unfold isT; show kitB "NoneType" "int" = _; decide +kernel
@[simp] theorem isT_bool_int {i : Int} : isT "bool" (.int i) = some false := by unfold isT; show kitB "int" "bool" = _; decide +kernel
@[simp] theorem isT_bool_bool {i : Bool} : isT "bool" (.bool i) = some true := by unfold isT; show kitB "bool" "bool" = _; decide +kernel
@[simp] theorem isT_str_int {i : Int} : isT "str" (.int i) = some false := by unfold isT; show kitB "int" "str" = _; decide +kernel
@[simp] theorem isT_str_bool {i : Bool} : isT "str" (.bool i) = some false := by unfold isT; show kitB "bool" "str" = _; decide +kernel
@[simp] theorem isT_str_str {i : Str} : isT "str" (.str i) = some true := by unfold isT; show kitB "str" "str" = _; decide +kernel
@[simp] theorem isT_str_list {i : List D} : isT "str" (.list i) = some false := by unfold isT; show kitB "list" "str" = _; decide +kernel
@[simp] theorem isT_str_tuple {i : List D} : isT "str" (.tuple i) = some false := by unfold isT; show kitB "tuple" "str" = _; decide +kernel
@[simp] theorem isT_str_none : isT "str" .none = some false := by unfold isT; show kitB "NoneType" "str" = _; decide +kernel
@[simp] theorem isT_list_list {i : List D} : isT "list" (.list i) = some true := by unfold isT; show kitB "list" "list" = _; decide +kernel
@[simp] theorem isT_list_tuple {i : List D} : isT "list" (.tuple i) = some false := by unfold isT; show kitB "tuple" "list" = _; decide +kernel
@[simp] theorem isT_list_int {i : Int} : isT "list" (.int i) = some false := by unfold isT; show kitB "int" "list" = _; decide +kernel
@[simp] theorem isT_list_str {i : Str} : isT "list" (.str i) = some false := by unfold isT; show kitB "str" "list" = _; decide +kernel
@[simp] theorem isT_list_none : isT "list" .none = some false := by unfold isT; show kitB "NoneType" "list" = _; decide +kernel
@[simp] theorem isT_tuple_list {i : List D} : isT "tuple" (.list i) = some false := by unfold isT; show kitB "list" "tuple" = _; decide +kernel
@[simp] theorem isT_tuple_tuple {i : List D} : isT "tuple" (.tuple i) = some true := by unfold isT; show kitB "tuple" "tuple" = _; decide +kernel
@[simp] theorem isT_tuple_int {i : Int} : isT "tuple" (.int i) = some false := by unfold isT; show kitB "int" "tuple" = _; decide +kernel
@[simp] theorem isT_tuple_str {i : Str} : isT "tuple" (.str i) = some false := by unfold isT; show kitB "str" "tuple" = _; decide +kernel
@[simp] theorem isT_tuple_none : isT "tuple" .none = some false := by unfold isT; show kitB "NoneType" "tuple" = _; decide +kernel
@[simp] def dIsI (T : String) (da : DTE) : DTE := fun ρ k => da ρ fun r ρ1 => wc r ρ1 fun d => match isT T d with
  | some b => k (.fz (.bool b)) ρ1
  | none => False
section
variable {X : Cx} {e : Expr} {es : List Expr} {da db : DTE} {p p2 pos : Pos} {T : String}
theorem rd_ty {K : PySem.W.Frag} {F H : Hp} {v : V} {d : D} (s : Ex F H) (h : RdAt K F H v d) (hd : ∀ ps, d ≠ .dict ps) : TyX K H v (.type (tyS d)) := by
  rcases h with h | ⟨κ, a, rfl, h⟩
  · cases h with
    | non => exact .base .non
    | bl b => exact .base (.bl b)
    | int i => exact .base (.int i)
    | str x => exact .base (.str x)
    | lst h _ =>
      rcases h with h | ⟨o, h⟩
      · exact .base (.lst (s _ _ h))
      · exact .base (.frz (s _ _ h))
    | tup h _ =>
      rcases h.sq with (h | ⟨o, h⟩) | ⟨o, its, n, h, hc, _⟩
      · exact .base (.tup (s _ _ h))
      · exact .fTuple (s _ _ h)
      · exact .kTuple h hc
    | scr h => exact absurd rfl (hd _)
  · cases κ with
    | l => obtain ⟨xs, ds, rfl, h1, _⟩ := h; exact .base (.lst h1)
    | k => obtain ⟨_, ps, rfl, _⟩ := h; exact absurd rfl (hd _)
    | t => obtain ⟨_, ps, rfl, _⟩ := h; exact absurd rfl (hd _)
theorem de_isI {x : Str} {y : Str} (hg : Gl X x) (hm : X.mg x = none) (hv : bootBuiltins x = some (.builtin "isinstance")) (hg2 : Gl X y) (hm2 : X.mg y = none) (hv2 : bootBuiltins y = some (.type T)) (ha : DE X e da)
    (hn : x ≠ "__name__" := by decide) (hdb : (x == ("__debug__" : Str)) = false := by decide) (hn2 : y ≠ "__name__" := by decide) (hdb2 : (y == ("__debug__" : Str)) = false := by decide)
    (he : starEach [e, .Name y p2] X.env = (false, eval e X.env) :: starEach [.Name y p2] X.env := by rfl) (he2 : starEach [.Name y p2] X.env = (false, eval (.Name y p2) X.env) :: starEach [] X.env := by rfl) (hpl : (backTo pos (starEach [.Name y p2] X.env)).any (·.1) = false := by rfl) :
    DE X (.Call (.Name x p) [e, .Name y p2] [] pos) (dIsI T da) :=
  PE.le (pe_callB call_isi hg hm hv (pa_cons ha (pa_cons (pe_bltn (v := .ty T) hg2 hm2 hv2 rfl hn2 hdb2) pa_nil he2) he) hn hdb he hpl) fun σ H Q ⟨F, ρ, k, S, q, fin⟩ => ⟨F, ρ, _, S, q, fun r ρ1 v F1 H1 q S1 T1 f => by
    obtain ⟨d, rd, q⟩ := wc_rd S1 f q
    split at q
    · rename_i b e0
      have hd : ∀ ps, d ≠ .dict ps := fun ps z => by subst z; unfold isT at e0; cases e0
      refine ⟨v, .ty T, .type (tyS d), .type T, b, rfl, .ty T, rd_ty S1.sub rd hd, kit_ty ?_, fin _ _ _ _ _ q S1 T1 (.bl b)⟩
      unfold isT at e0
      split at e0
      · cases e0
      · exact e0
    · exact q.elim⟩
/-- repr of an int, of a text -/
@[simp] def gRepr : List D → (Res → Prop) → Prop
  | [.int i], k => i.natAbs.log2 < 1920 ∧ k (.fz (.str (toString i)))
  | [.str z], k => (reprText z).length ≤ sizeLine ∧ k (.fz (.str (reprText z)))
  | [.bool b], k => k (.fz (.str (if b = true then "True" else "False")))
  | _, _ => False
theorem call_repr_str : CallR X (.builtin "repr") (fun xs H Q => ∃ i, xs = [.str i] ∧ (reprText i).length ≤ sizeLine ∧ Q (.str (reprText i)) H) := by
  intro pins s σ H xs us Q I r h
  obtain ⟨i, rfl, hz, q⟩ := h
  obtain ⟨u, rfl, t, rfl⟩ := vals1 r
  exact PySem.P.repr_of_str ⟨.str _, H, I.tok _, ⟨_, rfl⟩, q⟩ hz
/-! ### is True, is False -/
theorem cr_gRepr : CallR X (.builtin "repr") (rn X.K gRepr) := by
  intro pins s σ H xs us Q I r ⟨F, ds, k, se, rd, g, fin⟩
  unfold gRepr at g
  split at g
  · obtain ⟨v, rfl, h⟩ := rd.one
    cases h.int
    exact SkE.call_repr_int pins s σ H _ us Q I r ⟨_, rfl, g.1, r2_val se g.2 fin (.str _)⟩
  · obtain ⟨v, rfl, h⟩ := rd.one
    cases h.str
    exact call_repr_str pins s σ H _ us Q I r ⟨_, rfl, g.1, r2_val se g.2 fin (.str _)⟩
  · rename_i b
    obtain ⟨v, rfl, h⟩ := rd.one
    cases h.bool
    obtain ⟨u, rfl, ru⟩ := vals1 r
    cases (show u = Value.bool b from ru)
    exact PySem.P.repr_of_bool ⟨.str _, H, I.tok _, by cases b <;> exact ⟨_, rfl⟩, r2_val se g fin (.str _)⟩
  · exact g.elim
theorem val_isB {v : V} {u : Value} {b : Bool} (r : RelV v u) (hv : ∀ c, v ≠ .bl c) : plainIs u (.bool b) = true ∧ u ≠ .bool b := by
  cases v with
  | non => cases (show u = Value.none from r); exact ⟨rfl, fun z => by cases z⟩
  | bl c => exact absurd rfl (hv c)
  | int i => obtain ⟨t, q⟩ := (show ∃ t, u = Value.int i t from r); cases q; exact ⟨rfl, fun z => by cases z⟩
  | str i => obtain ⟨t, q⟩ := (show ∃ t, u = Value.str i t from r); cases q; exact ⟨rfl, fun z => by cases z⟩
  | byt i => obtain ⟨t, q⟩ := (show ∃ t, u = Value.bytes i t from r); cases q; exact ⟨rfl, fun z => by cases z⟩
  | flt i => obtain ⟨t, q⟩ := (show ∃ t, u = Value.float i t from r); cases q; exact ⟨rfl, fun z => by cases z⟩
  | ref a => cases (show u = Value.ref a from r); exact ⟨rfl, fun z => by cases z⟩
  | ty n => cases (show u = Value.type n from r); exact ⟨rfl, fun z => by cases z⟩
@[simp] def isBl (d : D) (b : Bool) : Bool := match d with | .bool c => c == b | _ => false
@[simp] def gIs : D → D → (Res → Prop) → Prop
  | d, .bool b, k => k (.fz (.bool (isBl d b)))
  | _, _, _ => False
@[simp] def gIsNot : D → D → (Res → Prop) → Prop
  | d, .bool b, k => k (.fz (.bool (!isBl d b)))
  | _, _, _ => False
theorem RdAt.notB {K : PySem.W.Frag} {F H : Hp} {v : V} {d : D} (h : RdAt K F H v d) (hd : ∀ c, d ≠ .bool c) : ∀ c, v ≠ .bl c := by
  intro c e
  subst e
  rcases h with h | ⟨κ, a, e, _⟩
  · cases h; exact hd _ rfl
  · cases e
theorem op_gIs : OpR X (compareOp .Is) (r2 X.K gIs) := by
  intro pins s σ H x y v u Q I rx ry ⟨F, dx, dy, k, se, hx, hy, g, fin⟩
  unfold gIs at g
  split at g
  · rename_i b
    cases hy.bool
    cases (show u = Value.bool b from ry)
    have go : ∀ c, c = isBl dx b → EP X pins σ Q (.bool c) s := fun c hc => ⟨.bl c, H, I, rfl, r2_val se g fin (by rw [hc]; exact .bl _)⟩
    by_cases hb : ∃ c, dx = .bool c
    · obtain ⟨c, rfl⟩ := hb
      cases hx.bool
      cases (show v = Value.bool c from rx)
      by_cases e : c = b
      · subst e
        exact wpAny_is_self rfl (go true (by simp [isBl]))
      · exact wpAny_is_other rfl (fun z => e (Value.bool.inj z)) (go false (by simp [isBl, e]))
    · obtain ⟨h1, h2⟩ := val_isB (b := b) rx (hx.notB fun c z => hb ⟨c, z⟩)
      refine wpAny_is_other h1 h2 (go false ?_)
      cases dx with
      | bool c => exact absurd ⟨c, rfl⟩ hb
      | _ => rfl
  · exact g.elim
theorem op_gIsNot : OpR X (compareOp .IsNot) (r2 X.K gIsNot) := by
  intro pins s σ H x y v u Q I rx ry ⟨F, dx, dy, k, se, hx, hy, g, fin⟩
  unfold gIsNot at g
  split at g
  · rename_i b
    cases hy.bool
    cases (show u = Value.bool b from ry)
    have go : ∀ c, c = !isBl dx b → EP X pins σ Q (.bool c) s := fun c hc => ⟨.bl c, H, I, rfl, r2_val se g fin (by rw [hc]; exact .bl _)⟩
    by_cases hb : ∃ c, dx = .bool c
    · obtain ⟨c, rfl⟩ := hb
      cases hx.bool
      cases (show v = Value.bool c from rx)
      by_cases e : c = b
      · subst e
        exact wpAny_isNot_self rfl (go false (by simp [isBl]))
      · exact wpAny_isNot_other rfl (fun z => e (Value.bool.inj z)) (go true (by simp [isBl, e]))
    · obtain ⟨h1, h2⟩ := val_isB (b := b) rx (hx.notB fun c z => hb ⟨c, z⟩)
      refine wpAny_isNot_other h1 h2 (go true ?_)
      cases dx with
      | bool c => exact absurd ⟨c, rfl⟩ hb
      | _ => rfl
  · exact g.elim
/-! ### the script -/
@[simp] def gLenS : List D → (Res → Prop) → Prop
  | [.dict [(.list ds, .none)]], k => ∃ ns, intsOf ds = some ns ∧ k (.fz (.int ns.length))
  | _, _ => False
theorem RdAt.scr {K : PySem.W.Frag} {F H : Hp} {v : V} {ns : List Int} (s : Ex F H) (h : RdAt K F H v (scrD ns)) (hn : ∀ κ a, ¬ OwAt K F H κ a (scrD ns)) : ∃ a, v = .ref a ∧ SqL K H a (ns.map V.int) := by
  rcases h with h | ⟨κ, a, _, h⟩
  · obtain ⟨a, ms, e1, e2, h'⟩ := scr_get (H := H) h
    rw [e2] at h'
    exact ⟨a, e1, ex_l s h'⟩
  · exact absurd h (hn κ a)
theorem no_ow {K : PySem.W.Frag} {F H : Hp} {κ : Kd} {a : Addr} {ns : List Int} : ¬ OwAt K F H κ a (scrD ns) := fun h => by
  cases κ with
  | l => obtain ⟨_, _, e, _⟩ := h; cases e
  | k =>
    obtain ⟨kvs, ps, e, _, h⟩ := h
    unfold scrD at e
    cases e
    cases h with | cons h1 _ =>
      have h1 := h1.1
      revert h1
      generalize (_ : Key × V).1 = k
      intro h1
      cases k <;> cases h1
  | t =>
    obtain ⟨kvs, ps, e, _, h⟩ := h
    unfold scrD at e
    cases e
    cases h with | cons h1 _ => exact absurd h1.1 (by intro z; cases z)
theorem cr_gLenS : CallR X (.builtin "len") (rn X.K gLenS) := by
  intro pins s σ H xs us Q I r ⟨F, ds, k, se, rd, g, fin⟩
  unfold gLenS at g
  split at g
  · obtain ⟨ns, e, g⟩ := g
    cases intsOf_eq e
    obtain ⟨v, rfl, h⟩ := rd.one
    obtain ⟨a, rfl, h1⟩ := RdAt.scr se h fun _ _ => no_ow
    exact call_len_seq pins s σ H _ us Q I r ⟨a, _, rfl, .inl h1, by rw [List.length_map]; exact r2_val se g fin (.int _)⟩
  · exact g.elim
@[simp] def gIxS : D → D → (Res → Prop) → Prop
  | .dict [(.list ds, .none)], .int i, k => ∃ ns, intsOf ds = some ns ∧ ∃ n, atI ns i = some n ∧ k (.fz (.int n))
  | _, _, _ => False
theorem atI_map {α β : Type} {f : α → β} {xs : List α} {i : Int} {n : α} (h : atI xs i = some n) : atI (xs.map f) i = some (f n) := by
  unfold atI at h ⊢
  rw [List.length_map]
  cases hj : ixN xs.length i with
  | none => rw [hj] at h; cases h
  | some j =>
    rw [hj] at h
    show (xs.map f)[j]? = _
    rw [List.getElem?_map, show xs[j]? = some n from h]
    rfl
theorem de_ixS {a b : Expr} (ha : DE X a da) (hb : DE X b db) (hs : PlainIx b := by intro _ _; rfl) : DE X (.Subscript a b pos) (dBin gIxS da db) :=
  PE.le (pe_ix ix_list ha hb hs) fun σ H Q ⟨F, ρ, k, S, q, fin⟩ => up2 S q fun x y ρ' v u F' H' q S' T f1 f2 => by
    obtain ⟨dx, r1, q⟩ := wc_rd S' f1 q
    obtain ⟨dy, r2', q⟩ := wc_rd S' f2 q
    unfold gIxS at q
    split at q
    · obtain ⟨ns, e, n, hn, q9⟩ := q
      cases intsOf_eq e
      obtain ⟨a, rfl, h1⟩ := RdAt.scr S'.sub r1 fun _ _ => no_ow
      cases r2'.int
      exact ⟨a, _, _, _, rfl, rfl, h1, atI_map hn, fin _ _ _ _ _ q9 S' T (.int _)⟩
    · exact q.elim
/-! ### x[i] op= e: x a name that owns a list -/
def rGetL (K : PySem.W.Frag) : V → V → Hp → VK → Prop := fun o i H Q => ∃ a xs n z, o = .ref a ∧ i = .int n ∧ SqL K H a xs ∧ atI xs n = some z ∧ Q z H
theorem get_list : PGet X (rGetL X.K) := by
  intro pins s σ H o i ov iv Q I ro ri h
  obtain ⟨p, xs, i, z, rfl, rfl, hq, he, q⟩ := h
  cases ro
  obtain ⟨t, rfl⟩ := ri
  obtain ⟨its, r, pl, hz⟩ := I.list hq
  obtain ⟨j, h1, h2, h3, h4, h5⟩ := atI_get he
  obtain ⟨w, ew, rw'⟩ := r.get h2
  have hl := r.length
  have hn := line63
  have fin : EP X pins σ Q w s := ⟨z, H, I, rw', q⟩
  by_cases h0 : 0 ≤ i
  · have hj : i.toNat = j := by
      rw [seqIndex_of h0 h5] at h1
      exact Option.some.inj h1
    exact wpAny_getItem_list pl.isList h0 (by omega) (by simpa [hj] using ew) fin
  · have hj : (i + (its.toArray.size : Int)).toNat = j := by
      rw [seqIndex_neg (by omega) h4] at h1
      rw [List.size_toArray, ← hl]
      exact Option.some.inj h1
    exact wpAny_getItem_list_neg pl.isList (by omega) (by rw [List.size_toArray] <;> omega) (by omega) (by rw [hj]; simpa using ew) fin
@[simp] def dAugI (i : Nat) (f : Int → Int → Int) (di da : DTE) : DTS := fun E ρ => isOl ρ i ∧ di ρ fun rj ρ1 => wc rj ρ1 fun dj => match dj, ρ1[i]? with
  | .int j, some (.ow _ .l (.list ds)) => ∃ n, atI ds j = some (.int n) ∧ da ρ1 fun r ρ2 => wc r ρ2 fun d => match d, ρ2[i]? with
    | .int m, some (.ow t .l (.list es)) => ∃ jj, ixN es.length j = some jj ∧ E.nx (ρ2.set i (.ow t .l (.list (es.set jj (.int (f n m))))))
    | _, _ => False
  | _, _ => False
theorem ds_augI {o ix : Expr} {pos tpos : Pos} {op : Operator} {i : Nat} {f : Int → Int → Int} {di : DTE} (ho : DE X o (dName i)) (hi : DE X ix di) (he : DE X e da) (hp : PIp X op (ipI f)) 
    (ha : ∀ ov iv new, augStore ix ov iv new = (do holding [new, ov, iv] (setItem ov iv new); release [new, ov, iv] []; pure .next) := by intros; rfl) : DS X (.AugAssign (.Subscript o ix tpos) op e pos) (dAugI i f di da) :=
  PS.le (ps_augS ho hi get_list he hp set_list ha) fun E σ H ⟨F, ρ, G, S, ⟨q0, q⟩, f1, f2, f3, f4⟩ => by
    obtain ⟨t, d, e0⟩ := isOl_get q0
    refine ⟨F, ρ, fun r' ρ' => r' = .bo i ∧ ρ' = ρ, S, by unfold dName; rw [e0]; exact ⟨rfl, rfl⟩, fun r' ρ1' w F1 H1 q1 S1 T1 g1 => ?_⟩
    obtain ⟨rfl, rfl⟩ := q1
    have g1 : σ[i]? = some (some w) := g1
    refine ⟨F1, _, _, S1, q, fun rj ρ1 v F2 H2 q S2 T2 fj => ?_⟩
    obtain ⟨dj, rd, q⟩ := wc_rd S2 fj q
    split at q
    · rename_i j t' ds e2
      cases rd.int
      obtain ⟨n, hn, q⟩ := q
      obtain ⟨a, g3, ⟨xs, _, hd, h1, h2⟩, _⟩ := S2.ow i _ _ _ e2
      cases hd
      rw [g1] at g3; cases g3
      obtain ⟨z, ez, dz⟩ := atI_dp h2 hn
      cases dz
      refine ⟨a, xs, j, _, rfl, rfl, Evl.sq_of h1, ez, F2, ρ1, _, S2, q, fun r ρ2 u F3 H3 q S3 T3 f' => ?_⟩
      obtain ⟨d, rd', q⟩ := wc_rd S3 f' q
      split at q
      · rename_i m t2 es e3
        cases rd'.int
        obtain ⟨jj, hj, q⟩ := q
        refine ⟨n, m, rfl, rfl, ?_⟩
        obtain ⟨a', g3, ⟨ys, _, hd, h3, h4⟩, _⟩ := S3.ow i _ _ _ e3
        cases hd
        rw [g1] at g3; cases g3
        refine ⟨a, ys, j, jj, rfl, rfl, h3, by rw [dpAll_len h4]; exact hj, ?_⟩
        obtain ⟨S5, T5⟩ := S3.updOwn e3 g1 (fun b hb => upd_ne hb) (show OwAt X.K F3 (upd H3 a (.lst (ys.set jj (.int (f n m))))) .l a (.list (es.set jj (.int (f n m)))) from ⟨_, _, rfl, upd_same, dpAll_set (.int _) jj h4⟩)
        exact f1 _ _ _ _ q S5 (T1.trans (T2.trans (T3.trans T5))).toTr
      · exact q.elim
    · exact q.elim
end
end TL

-- part TL15
/-! TL15: more tests, op=, callees without a promise. -/
namespace TL
open PySem PySem.Spec L2
open Evl (Ex ex_l ex_t)
variable [Lay]
section
variable {X : Cx} {a b c e : Expr} {es : List Expr} {da db dc : DTE} {p p2 pos : Pos} {T : String}
theorem dt_isN {j pos'} (ha : DE X a da) : DT X (.Compare a [.Is] [.Constant .none j pos'] pos) (dTest (dUn gIsN da)) :=
  PT.le (pt_cmp (pc_isN ha) rfl) fun σ H Q h => by
    obtain ⟨F, ρ, k, S, q, fin⟩ := h
    refine ⟨F, ρ, _, S, q, fun x ρ1 v F1 H1 q1 S1 T1 f1 => ?_⟩
    obtain ⟨dx, r1, q1⟩ := wc_rd S1 f1 q1
    rw [r1.non_iff]
    exact ⟨_, rfl, fin _ _ _ _ q1 S1 T1⟩
theorem dt_notN {j pos'} (ha : DE X a da) : DT X (.Compare a [.IsNot] [.Constant .none j pos'] pos) (dTest (dUn gNotN da)) :=
  PT.le (pt_cmp (pc_notN ha) rfl) fun σ H Q h => by
    obtain ⟨F, ρ, k, S, q, fin⟩ := h
    refine ⟨F, ρ, _, S, q, fun x ρ1 v F1 H1 q1 S1 T1 f1 => ?_⟩
    obtain ⟨dx, r1, q1⟩ := wc_rd S1 f1 q1
    rw [r1.non_iff]
    exact ⟨_, rfl, fin _ _ _ _ q1 S1 T1⟩
theorem dt_chain {op op' : CmpOp} {g g' : D → D → (Res → Prop) → Prop} (ho : OpR X (compareOp op) (r2 X.K g)) (ho' : OpR X (compareOp op') (r2 X.K g')) (ha : DE X a da) (hb : DE X b db) (hc : DE X c dc)
    (hm : lastMarks [op, op'] [b, c] = false := by with_unfolding_all rfl) : DT X (.Compare a [op, op'] [b, c] pos) (dTest (dChain g g' da db dc)) :=
  PT.le (pt_chain ho ho' ha hb hc hm) fun σ H Q h => by
    obtain ⟨F, ρ, k, S, q, fin⟩ := up_test h
    refine up2 S q fun x y ρ1 v u F1 H1 q S1 T1 f1 f2 => ?_
    obtain ⟨dx, r1, q⟩ := wc_rd S1 f1 q
    obtain ⟨dy, r2, q⟩ := wc_rd S1 f2 q
    refine ⟨F1, dx, dy, _, S1.sub, r1, r2, q, fun z w F2 H2 kz n => ?_⟩
    have S2 := n.sta S1
    have T2 := T1.trans n.tr
    have f3 := n.fit
    split at kz
    · rename_i bb
      have f3 : Dp X.K F2 w (.bool bb) := f3
      cases f3
      refine ⟨bb, rfl, ?_⟩
      cases bb with
      | true =>
        refine ⟨F2, ρ1, _, S2, kz, fun z ρ3 w3 F3 H3 q3 S3 T3 f4 => ?_⟩
        exact op2_fin q3 S3 (T2.trans T3) ((f2.later n.tr.toTr).later T3.toTr) (f4.back fun _ z => T2.none z) fin
      | false => exact fin _ _ _ _ _ kz S2 T2 (.bl false)
    · exact kz.elim
@[simp] def gSubI : D → D → (Res → Prop) → Prop
  | .int a, .int b, k => k (.fz (.int (a - b)))
  | _, _, _ => False
theorem op_gSubI : OpR X (inplaceOp .Sub) (r2 X.K gSubI) := by
  intro pins s σ H x y v u Q I rx ry ⟨F, dx, dy, k, se, hx, hy, g, fin⟩
  unfold gSubI at g
  split at g
  · rename_i a b
    cases hx.int; cases hy.int
    exact iop_sub pins s σ H _ _ v u Q I rx ry ⟨a, b, rfl, rfl, r2_val se g fin (.int _)⟩
  · exact g.elim
@[simp] def gMulI : D → D → (Res → Prop) → Prop
  | .int a, .int b, k => okMul a b ∧ k (.fz (.int (a * b)))
  | _, _, _ => False
theorem op_gMulI : OpR X (inplaceOp .Mult) (r2 X.K gMulI) := by
  intro pins s σ H x y v u Q I rx ry ⟨F, dx, dy, k, se, hx, hy, g, fin⟩
  unfold gMulI at g
  split at g
  · rename_i a b
    cases hx.int; cases hy.int
    exact iop_mul pins s σ H _ _ v u Q I rx ry ⟨a, b, rfl, rfl, g.1, r2_val se g.2 fin (.int _)⟩
  · exact g.elim
@[simp] def gFdivI : D → D → (Res → Prop) → Prop
  | .int a, .int b, k => (0 < b ∧ b < 1073741824) ∧ k (.fz (.int (a / b)))
  | _, _, _ => False
theorem op_gFdivI : OpR X (inplaceOp .FloorDiv) (r2 X.K gFdivI) := by
  intro pins s σ H x y v u Q I rx ry ⟨F, dx, dy, k, se, hx, hy, g, fin⟩
  unfold gFdivI at g
  split at g
  · rename_i a b
    cases hx.int; cases hy.int
    exact iop_fdiv pins s σ H _ _ v u Q I rx ry ⟨a, b, rfl, rfl, g.1, r2_val se g.2 fin (.int _)⟩
  · exact g.elim
/-- texts -/
@[simp] def gEqS : D → D → (Res → Prop) → Prop
  | .str a, .str b, k => k (.fz (.bool (decide (a = b))))
  | _, _, _ => False
theorem op_gEqS : OpR X (compareOp .Eq) (r2 X.K gEqS) := by
  intro pins s σ H x y v u Q I rx ry ⟨F, dx, dy, k, se, hx, hy, g, fin⟩
  unfold gEqS at g
  split at g
  · rename_i a b
    cases hx.str; cases hy.str
    have e : decide (V.str a = V.str b) = decide (a = b) := by simp
    exact op_eq pins s σ H _ _ v u Q I rx ry ⟨rfl, by rw [e]; exact r2_val se g fin (.bl _)⟩
  · exact g.elim
@[simp] def gNeS : D → D → (Res → Prop) → Prop
  | .str a, .str b, k => k (.fz (.bool (!decide (a = b))))
  | _, _, _ => False
theorem op_gNeS : OpR X (compareOp .NotEq) (r2 X.K gNeS) := by
  intro pins s σ H x y v u Q I rx ry ⟨F, dx, dy, k, se, hx, hy, g, fin⟩
  unfold gNeS at g
  split at g
  · rename_i a b
    cases hx.str; cases hy.str
    have e : decide (V.str a = V.str b) = decide (a = b) := by simp
    exact op_ne pins s σ H _ _ v u Q I rx ry ⟨rfl, by rw [e]; exact r2_val se g fin (.bl _)⟩
  · exact g.elim
end
section
variable {P : Program} {w : World} {K : PySem.W.Frag} {mg : Str → Option Value} {base : Heap}
theorem cal_no {x : Str} {st : Stmt} {f : Addr} {fd : FuncData} {ps : List Str} {ms : List Md} (Fu : Fun K x x st f fd) (hm : mg x = some (.ref f)) (hb0 : Binds K fd ps []) : Cal P w K mg base 0 x ms (fun _ _ => False) :=
  ⟨f, fd, ps, ⟨fun vs H Q E h => by obtain ⟨_, _, _, _, _, _, _, h, _⟩ := h; exact h.elim, fun A outer s H args us vs Q E hr he hb hv h => by obtain ⟨_, _, _, _, _, _, _, h, _⟩ := h; exact h.elim⟩, hm, Fu.kp, hb0⟩
theorem Cal.imp {k : Nat} {x : Str} {ms : List Md} {ts ts' : TSp} (C : Cal P w K mg base k x ms ts) (h : ∀ ds k, ts' ds k → ts ds k) : Cal P w K mg base k x ms ts' := by
  obtain ⟨f, fd, ps, F, r⟩ := C.ex
  exact ⟨f, fd, ps, F.imp fun vs H Q E ⟨F, ds, k, a, b, c, t, d, e⟩ => ⟨F, ds, k, a, b, c, t, h _ _ d, e⟩, r⟩
end
end TL

-- part TL16
/-! TL16: loops and comprehensions by invariants. -/
namespace TL
open PySem PySem.Spec L2
variable [Lay]
section
variable {g : DTG} {s : DTS} {E : DEnds} {t : DTT} {tt : DTT} {te : DTE} {src : List (Nat × D)} {vs : List Nat} {k : List D → List Slot → Prop}
theorem loop_ind {items : List D} {ρ : List Slot} (I : List D → List D → List Slot → Prop) (h0 : I [] items ρ) (hnil : ∀ ρ, I items [] ρ → E.nx ρ)
    (hcons : ∀ done d rest ρ, items = done ++ d :: rest → I done (d :: rest) ρ → (∀ ρ', I (done ++ [d]) rest ρ' → dLoop g s E rest ρ') → g d ρ fun ρ1 => s { nx := dLoop g s E rest, rt := E.rt, bk := E.nx, ct := dLoop g s E rest } ρ1) : dLoop g s E items ρ := by
  have key : ∀ rest done ρ, items = done ++ rest → I done rest ρ → dLoop g s E rest ρ := fun rest => by
    induction rest with
    | nil => intro done ρ e h; rw [List.append_nil] at e; subst e; exact hnil ρ h
    | cons d rest ih => exact fun done ρ e h => hcons done d rest ρ e h fun ρ' h' => ih (done ++ [d]) ρ' (by rw [e]; simp) h'
  exact key items [] ρ rfl h0
theorem comp_ind {items : List D} {ρ : List Slot} (I : List D → List D → List D → List Slot → Prop) (h0 : I [] [] items ρ) (hnil : ∀ acc ρ, I acc items [] ρ → stl src ρ ∧ k acc ρ)
    (hcons : ∀ acc done d rest ρ, items = done ++ d :: rest → I acc done (d :: rest) ρ → (∀ acc' ρ', I acc' (done ++ [d]) rest ρ' → dCompL g tt te src vs k rest acc' ρ') → stl src ρ ∧ g d ρ fun ρ1 => tt ρ1 fun b ρ2 => if b = true then te ρ2 fun r ρ3 => fzR r ρ3 fun v ρ4 => acc.length < sizeLine ∧ dCompL g tt te src vs k rest (acc ++ [v]) (wipeR ρ4 vs)
      else dCompL g tt te src vs k rest acc (wipeR ρ2 vs)) : dCompL g tt te src vs k items [] ρ := by
  have key : ∀ rest done acc ρ, items = done ++ rest → I acc done rest ρ → dCompL g tt te src vs k rest acc ρ := fun rest => by
    induction rest with
    | nil => intro done acc ρ e h; rw [List.append_nil] at e; subst e; exact hnil acc ρ h
    | cons d rest ih => exact fun done acc ρ e h => hcons acc done d rest ρ e h fun acc' ρ' h' => ih (done ++ [d]) acc' ρ' (by rw [e]; simp) h'
  exact key items [] [] ρ rfl h0
theorem comp_pure {items : List D} {ρ : List Slot} (p : D → Bool) (f : D → D) (hl : items.length ≤ sizeLine) (hs : stl src ρ)
    (step : ∀ d, d ∈ items → ∀ (kk : D → List Slot → Prop) (kn : List Slot → Prop), (p d = true → kk (f d) ρ) → (p d = false → kn ρ) → g d ρ fun ρ1 => tt ρ1 fun b ρ2 => if b = true then te ρ2 fun r ρ3 => fzR r ρ3 fun v ρ4 => kk v (wipeR ρ4 vs) else kn (wipeR ρ2 vs))
    (fin : k ((items.filter p).map f) ρ) : dCompL g tt te src vs k items [] ρ := by
  refine comp_ind (fun acc done rest ρ' => ρ' = ρ ∧ acc = (done.filter p).map f) ⟨rfl, rfl⟩ (fun acc ρ' ⟨e, e'⟩ => by rw [e, e']; exact ⟨hs, fin⟩) fun acc done d rest ρ' he ⟨e, e'⟩ ih => ?_
  subst e
  refine ⟨hs, step d (by rw [he]; simp) (fun v ρ4 => acc.length < sizeLine ∧ dCompL g tt te src vs k rest (acc ++ [v]) ρ4) (fun ρ2 => dCompL g tt te src vs k rest acc ρ2) (fun hp => ⟨?_, ih _ _ ⟨rfl, ?_⟩⟩) fun hp => ih _ _ ⟨rfl, ?_⟩⟩
  · rw [e', List.length_map]
    have h1 := List.length_filter_le p done
    have h2 : items.length = done.length + (rest.length + 1) := by rw [he]; simp
    omega
  · rw [e', List.filter_append, List.map_append]; simp [hp]
  · rw [e', List.filter_append, List.map_append]; simp [hp]
theorem comp_of {α : Type} {items : List D} {ρ : List Slot} {l : List α} {c : α → D} (he : items = l.map c) (p : α → Bool) (f : α → D) (hl : l.length ≤ sizeLine) (hs : stl src ρ)
    (step : ∀ x, x ∈ l → ∀ (kk : D → List Slot → Prop) (kn : List Slot → Prop), (p x = true → kk (f x) ρ) → (p x = false → kn ρ) → g (c x) ρ fun ρ1 => tt ρ1 fun b ρ2 => if b = true then te ρ2 fun r ρ3 => fzR r ρ3 fun v ρ4 => kk v (wipeR ρ4 vs) else kn (wipeR ρ2 vs))
    (fin : k ((l.filter p).map f) ρ) : dCompL g tt te src vs k items [] ρ := by
  subst he
  have key : ∀ (rest done : List α), l = done ++ rest → dCompL g tt te src vs k (rest.map c) ((done.filter p).map f) ρ := fun rest => by
    induction rest with
    | nil => intro done e; rw [List.append_nil] at e; subst e; exact ⟨hs, fin⟩
    | cons x rest ih =>
      intro done e
      have n : dCompL g tt te src vs k (rest.map c) (((done ++ [x]).filter p).map f) ρ := ih (done ++ [x]) (by rw [e]; simp)
      refine ⟨hs, step x (by rw [e]; simp) (fun v ρ4 => ((done.filter p).map f).length < sizeLine ∧ dCompL g tt te src vs k (rest.map c) ((done.filter p).map f ++ [v]) ρ4) (fun ρ2 => dCompL g tt te src vs k (rest.map c) ((done.filter p).map f) ρ2) (fun hp => ⟨?_, ?_⟩) fun hp => ?_⟩
      · rw [List.length_map]
        have h1 := List.length_filter_le p done
        have h2 : l.length = done.length + (rest.length + 1) := by rw [e]; simp
        omega
      · rw [List.filter_append, List.map_append] at n
        simpa [hp] using n
      · rw [List.filter_append, List.map_append] at n
        simpa [hp] using n
  exact key l [] rfl
/-- no test, ints -/
theorem comp_ints {α : Type} {items : List D} {ρ : List Slot} {l : List α} {c : α → D} (he : items = l.map c) (f : α → Int) (hl : l.length ≤ sizeLine) (hs : stl src ρ)
    (step : ∀ x, x ∈ l → ∀ (kk : D → List Slot → Prop), kk (.int (f x)) ρ → g (c x) ρ fun ρ1 => te ρ1 fun r ρ3 => fzR r ρ3 fun v ρ4 => kk v (wipeR ρ4 vs))
    (fin : k ((l.map f).map .int) ρ) : dCompL g dYes te src vs k items [] ρ := by
  refine comp_of he (fun _ => true) (fun x => .int (f x)) hl hs (fun x hx kk kn hk _ => step x hx kk (hk rfl)) ?_
  rw [List.filter_eq_self.mpr fun _ _ => rfl]
  rw [List.map_map] at fin
  exact fin
/-- a test, ints -/
theorem comp_fints {α : Type} {items : List D} {ρ : List Slot} {l : List α} {c : α → D} (he : items = l.map c) (p : α → Bool) (f : α → Int) (hl : l.length ≤ sizeLine) (hs : stl src ρ)
    (step : ∀ x, x ∈ l → ∀ (kk : D → List Slot → Prop) (kn : List Slot → Prop), (p x = true → kk (.int (f x)) ρ) → (p x = false → kn ρ) → g (c x) ρ fun ρ1 => tt ρ1 fun b ρ2 => if b = true then te ρ2 fun r ρ3 => fzR r ρ3 fun v ρ4 => kk v (wipeR ρ4 vs) else kn (wipeR ρ2 vs))
    (fin : k (((l.filter p).map f).map .int) ρ) : dCompL g tt te src vs k items [] ρ := by
  refine comp_of he p (fun x => .int (f x)) hl hs step ?_
  rw [List.map_map] at fin
  exact fin
theorem while_ind {ρ : List Slot} (I : Nat → List Slot → Prop) (h0 : ∃ m, I m ρ)
    (step : ∀ m ρ (kk : List Slot → Prop), I m ρ → (∀ ρ' m', m' < m → I m' ρ' → kk ρ') → t ρ fun b ρ1 => if b = true then s { nx := kk, rt := E.rt, bk := E.nx, ct := kk } ρ1 else E.nx ρ1) : dWhile t s E ρ := by
  have key : ∀ n m ρ, I m ρ → m < n → dWhileN t s E n ρ := fun n => by
    induction n with
    | zero => intro m ρ _ h; omega
    | succ n ih => exact fun m ρ h hm => step m ρ _ h fun ρ' m' h1 h2 => ih m' ρ' h2 (by omega)
  obtain ⟨m, h⟩ := h0
  exact ⟨m + 1, key _ m ρ h (Nat.lt_succ_self m)⟩
end
end TL

-- part TL17
/-! TL17: small words for the pure proofs. -/
namespace TL
open PySem PySem.Spec L2
variable [Lay]
theorem ifd {c A B : Prop} [Decidable c] (h1 : c → A) (h2 : ¬ c → B) : if decide c = true then A else B := by
  by_cases h : c
  · rw [if_pos (decide_eq_true h)]; exact h1 h
  · rw [if_neg (by simpa using h)]; exact h2 h
theorem ifnd {c A B : Prop} [Decidable c] (h1 : ¬ c → A) (h2 : c → B) : if (!decide c) = true then A else B := by
  by_cases h : c
  · rw [if_neg (by simpa using h)]; exact h2 h
  · rw [if_pos (by simpa using h)]; exact h1 h
theorem ifb {b : Bool} {A B : Prop} (h1 : b = true → A) (h2 : b = false → B) : if b = true then A else B := by
  cases b with
  | true => exact h1 rfl
  | false => exact h2 rfl
theorem ifnb {b : Bool} {A B : Prop} (h1 : b = false → A) (h2 : b = true → B) : if (!b) = true then A else B := by
  cases b with
  | true => exact h2 rfl
  | false => exact h1 rfl
theorem atI_of {α : Type} {xs : List α} {i : Int} {d : α} (h0 : 0 ≤ i) (h : xs[i.toNat]? = some d) : atI xs i = some d := by
  have hl := (List.getElem?_eq_some_iff.mp h).1
  unfold atI ixN
  rw [if_pos h0, if_pos (by omega)]
  exact h
theorem atI_ints {ns : List Int} {i : Int} {n : Int} (h0 : 0 ≤ i) (h : ns[i.toNat]? = some n) : atI (ns.map PyData.int) i = some (.int n) :=
  atI_of h0 (by rw [List.getElem?_map, h]; rfl)
theorem ixN_of {n : Nat} {i : Int} (h0 : 0 ≤ i) (h : i < n) : ixN n i = some i.toNat := by
  unfold ixN
  rw [if_pos h0, if_pos h]
theorem get_lt {ns : List Int} {i : Int} (h0 : 0 ≤ i) (h : i < ns.length) : ∃ n, ns[i.toNat]? = some n ∧ n ∈ ns := by
  have hl : i.toNat < ns.length := by omega
  exact ⟨_, List.getElem?_eq_getElem hl, List.getElem_mem hl⟩
/-- behind a statement any state that fits M -/
theorem seq_join {s u : DTS} {E : DEnds} {ρ : List Slot} (M : List Slot → Prop) (hs : ∀ kk : List Slot → Prop, (∀ ρ, M ρ → kk ρ) → s { E with nx := kk } ρ) (hu : ∀ ρ, M ρ → u E ρ) : dSeq s u E ρ := hs _ hu
theorem seq_to {s u : DTS} {E : DEnds} {ρ : List Slot} (ρ' : List Slot) (hs : ∀ kk : List Slot → Prop, kk ρ' → s { E with nx := kk } ρ) (hu : u E ρ') : dSeq s u E ρ := hs _ hu
theorem okio0 {ms : List Md} {rs : List Res} {ρ : List Slot} (h : idx ms rs = []) : okIo ms rs ρ := by
  unfold okIo
  rw [h]
  exact ⟨List.nodup_nil, fun _ _ => List.not_mem_nil, fun _ z => absurd z List.not_mem_nil⟩
theorem okio1 {ms : List Md} {rs : List Res} {ρ : List Slot} {i : Nat} (h : idx ms rs = [i]) (h2 : i ∉ rbo ms rs) (h3 : isOw ρ i) : okIo ms rs ρ := by
  unfold okIo
  rw [h]
  refine ⟨by simp, fun j hj z => ?_, fun j z => ?_⟩
  · rw [List.mem_singleton.mp z] at hj; exact h2 hj
  · rw [List.mem_singleton.mp z]; exact h3
theorem as1 {as : List Addr} (h : as.length = 1) : ∃ a, as = [a] := by
  match as, h with
  | [a], _ => exact ⟨a, rfl⟩
theorem as0 {as : List Addr} (h : as.length = 0) : as = [] := by
  match as, h with
  | [], _ => rfl
theorem mulSmall {a b : Int} (h : -(2 ^ 64) < b ∧ b < 2 ^ 64) : okMul a b := .inr h
theorem mulSmall' {a b : Int} (h : -(2 ^ 64) < a ∧ a < 2 ^ 64) : okMul a b := .inl h
theorem sh_int {i : Int} : Sh (.int i) := by show (PyData.canLay0 (.int i) && decide (PyData.depth (.int i) ≤ 64)) = true; simp [PyData.canLay0, PyData.depth]
theorem sh_bool {i : Bool} : Sh (.bool i) := by show (PyData.canLay0 (.bool i) && decide (PyData.depth (.bool i) ≤ 64)) = true; simp [PyData.canLay0, PyData.depth]
theorem sh_none : Sh .none := by show (PyData.canLay0 .none && decide (PyData.depth .none ≤ 64)) = true; simp [PyData.canLay0, PyData.depth]
/-- data without dicts of a depth of at most n -/
def ShN (n : Nat) (d : D) : Prop := PyData.canLay0 d = true ∧ PyData.depth d ≤ n
theorem ShN.sh {n : Nat} {d : D} (h : ShN n d) (hn : n ≤ 64 := by decide) : Sh d := by
  show (PyData.canLay0 d && decide (PyData.depth d ≤ 64)) = true
  rw [h.1, Bool.true_and, decide_eq_true_eq]
  exact Nat.le_trans h.2 hn
theorem shn_int {i : Int} {n : Nat} : ShN n (.int i) := ⟨by simp [PyData.canLay0], by simp [PyData.depth]⟩
theorem shn_bool {i : Bool} {n : Nat} : ShN n (.bool i) := ⟨by simp [PyData.canLay0], by simp [PyData.depth]⟩
theorem shn_none {n : Nat} : ShN n .none := ⟨by simp [PyData.canLay0], by simp [PyData.depth]⟩
theorem shn_str {n : Nat} {z : Str} (h : PyData.strOk z = true) : ShN n (.str z) := ⟨by simpa [PyData.canLay0] using h, by simp [PyData.depth]⟩
theorem shn_all {n : Nat} : ∀ {ds : List D}, (∀ d ∈ ds, ShN n d) → PyData.canLayAll0 ds = true ∧ PyData.depthAll ds ≤ n
  | [], _ => ⟨by simp [PyData.canLayAll0], by simp [PyData.depthAll]⟩
  | d :: ds, h => by
    obtain ⟨h1, h2⟩ := shn_all (ds := ds) fun e he => h e (List.mem_cons_of_mem _ he)
    obtain ⟨h3, h4⟩ := h d List.mem_cons_self
    refine ⟨by simp [PyData.canLayAll0, h1, h3], ?_⟩
    simp only [PyData.depthAll]
    exact Nat.max_le.mpr ⟨h4, h2⟩
theorem shn_list {n : Nat} {ds : List D} (h : ∀ d ∈ ds, ShN n d) : ShN (n + 1) (.list ds) := by
  obtain ⟨h1, h2⟩ := shn_all h
  exact ⟨by simpa [PyData.canLay0] using h1, by simp only [PyData.depth]; omega⟩
theorem shn_tuple {n : Nat} {ds : List D} (h : ∀ d ∈ ds, ShN n d) : ShN (n + 1) (.tuple ds) := by
  obtain ⟨h1, h2⟩ := shn_all h
  exact ⟨by simpa [PyData.canLay0] using h1, by simp only [PyData.depth]; omega⟩
theorem shn_ints {n : Nat} {ns : List Int} : ShN (n + 1) (.list (ns.map .int)) := shn_list fun d hd => by
  obtain ⟨i, _, rfl⟩ := List.mem_map.mp hd
  exact shn_int
theorem sh_ints {ns : List Int} : Sh (.list (ns.map .int)) := (shn_ints (n := 0)).sh
/-! data without bools and dicts: == is = -/
mutual
def Nb : D → Bool
  | .none => true
  | .bool _ => false
  | .int _ => true
  | .str _ => true
  | .list ds => NbAll ds
  | .tuple ds => NbAll ds
  | .dict _ => false
def NbAll : List D → Bool
  | [] => true
  | d :: ds => Nb d && NbAll ds
end
mutual
theorem eqv_iff : ∀ {d e : D}, Nb d = true → Nb e = true → (PyData.eqv d e = true ↔ d = e)
  | .none, e, _, h => by cases e <;> simp [PyData.eqv, Nb] at h ⊢
  | .bool _, _, h, _ => by simp [Nb] at h
  | .int i, e, _, h => by cases e <;> simp [PyData.eqv, Nb] at h ⊢
  | .str i, e, _, h => by cases e <;> simp [PyData.eqv, Nb] at h ⊢
  | .list ds, e, h, h' => by
    cases e with
    | list es =>
      simp only [PyData.eqv, PyData.list.injEq]
      exact eqvAll_iff (by simpa [Nb] using h) (by simpa [Nb] using h')
    | _ => simp [PyData.eqv, Nb] at h' ⊢
  | .tuple ds, e, h, h' => by
    cases e with
    | tuple es =>
      simp only [PyData.eqv, PyData.tuple.injEq]
      exact eqvAll_iff (by simpa [Nb] using h) (by simpa [Nb] using h')
    | _ => simp [PyData.eqv, Nb] at h' ⊢
  | .dict _, _, h, _ => by simp [Nb] at h
theorem eqvAll_iff : ∀ {ds es : List D}, NbAll ds = true → NbAll es = true → (PyData.eqvAll ds es = true ↔ ds = es)
  | [], [], _, _ => by simp [PyData.eqvAll]
  | [], _ :: _, _, _ => by simp [PyData.eqvAll]
  | _ :: _, [], _, _ => by simp [PyData.eqvAll]
  | d :: ds, e :: es, h, h' => by
    simp only [NbAll, Bool.and_eq_true] at h h'
    simp only [PyData.eqvAll, Bool.and_eq_true, List.cons.injEq]
    rw [eqv_iff h.1 h'.1, eqvAll_iff h.2 h'.2]
end
theorem nbAll_of : ∀ {ds : List D}, (∀ d ∈ ds, Nb d = true) → NbAll ds = true
  | [], _ => rfl
  | d :: ds, h => by simp only [NbAll, Bool.and_eq_true]; exact ⟨h d List.mem_cons_self, nbAll_of fun e he => h e (List.mem_cons_of_mem _ he)⟩
theorem nb_list {ds : List D} (h : ∀ d ∈ ds, Nb d = true) : Nb (.list ds) = true := by simp only [Nb]; exact nbAll_of h
theorem nb_tuple {ds : List D} (h : ∀ d ∈ ds, Nb d = true) : Nb (.tuple ds) = true := by simp only [Nb]; exact nbAll_of h
theorem nb_int {i : Int} : Nb (.int i) = true := by simp [Nb]
theorem nb_str {i : Str} : Nb (.str i) = true := by simp [Nb]
theorem nb_none : Nb .none = true := by simp [Nb]
theorem nb_ints {ns : List Int} : Nb (.list (ns.map .int)) = true := nb_list fun d hd => by
  obtain ⟨i, _, rfl⟩ := List.mem_map.mp hd
  exact nb_int
theorem eqv_self {d : D} (h : Nb d = true) : PyData.eqv d d = true := (eqv_iff h h).mpr rfl
theorem eqv_int {i j : Int} : PyData.eqv (.int i) (.int j) = decide (i = j) := by
  by_cases h : i = j
  · simp [PyData.eqv, h]
  · simp [PyData.eqv, h]
theorem mem_range {lo : Int} {n : Nat} {d : D} (h : d ∈ rangeD lo 1 n) : ∃ i : Nat, i < n ∧ d = .int (lo + i) := by
  unfold rangeD at h
  obtain ⟨i, hi, rfl⟩ := List.mem_map.mp h
  exact ⟨i, List.mem_range.mp hi, by rw [Int.mul_one]⟩
theorem rangeD_len {lo c : Int} {n : Nat} : (rangeD lo c n).length = n := by unfold rangeD; simp
/-- an item of a range by its place -/
theorem range_at {lo : Int} {n : Nat} {done rest : List D} {d : D} (h : rangeD lo 1 n = done ++ d :: rest) : d = .int (lo + done.length) ∧ done.length < n := by
  have hl : done.length < n := by
    have := congrArg List.length h
    rw [rangeD_len] at this
    simp at this
    omega
  have h1 : (rangeD lo 1 n)[done.length]? = some d := by rw [h]; simp
  unfold rangeD at h1
  rw [List.getElem?_map, List.getElem?_range hl] at h1
  simp at h1
  exact ⟨h1.symm, hl⟩
theorem zipD_ints (ns ws : List Int) : zipD (ns.map .int) (ws.map .int) = (List.zip ns ws).map fun p => .tuple [.int p.1, .int p.2] := by
  induction ns generalizing ws with
  | nil => simp [zipD]
  | cons n ns ih => cases ws with
    | nil => simp [zipD]
    | cons w ws => simp [zipD, ih]
theorem enumD_map {α : Type} (c : α → D) (l : List α) : ∀ i : Nat, enumD (i : Int) (l.map c) = (l.zipIdx i).map fun p => .tuple [.int (p.2 : Int), c p.1] := by
  induction l with
  | nil => intro i; rfl
  | cons x l ih => intro i; simp only [List.map_cons, enumD, List.zipIdx_cons, List.cons.injEq, true_and]; exact ih (i + 1)
theorem range_map (lo : Int) (n : Nat) : rangeD lo 1 n = (List.range n).map fun i => .int (lo + (i : Int)) := by
  unfold rangeD
  simp
theorem cut_to {α : Type} {xs : List α} {i : Int} (h : 0 ≤ i) : cutD xs none (some i) = xs.take i.toNat := by
  unfold cutD HT.sIx
  simp only [List.drop_zero, Nat.sub_zero]
  rw [if_neg (by omega)]
  by_cases hl : i.toNat ≤ xs.length
  · rw [Nat.min_eq_left hl]
  · rw [Nat.min_eq_right (by omega), List.take_of_length_le (Nat.le_refl _), List.take_of_length_le (by omega)]
theorem cut_from {α : Type} {xs : List α} {i : Int} (h : 0 ≤ i) : cutD xs (some i) none = xs.drop i.toNat := by
  unfold cutD HT.sIx
  simp only
  rw [if_neg (by omega)]
  by_cases hl : i.toNat ≤ xs.length
  · rw [Nat.min_eq_left hl, List.take_of_length_le (by rw [List.length_drop]; omega)]
  · rw [Nat.min_eq_right (by omega), Nat.sub_self, List.take_zero, List.drop_eq_nil_of_le (by omega)]
theorem cut_mid {α : Type} {xs : List α} {i j : Int} (h : 0 ≤ i) (h' : i ≤ j) (hl : j ≤ xs.length) : cutD xs (some i) (some j) = (xs.drop i.toNat).take (j - i).toNat := by
  unfold cutD HT.sIx
  simp only
  rw [if_neg (by omega), if_neg (by omega), Nat.min_eq_left (by omega), Nat.min_eq_left (by omega)]
  congr 1
  omega
/-- sorted ints -/
def srt (ns : List Int) : List Int := ns.mergeSort (fun a b => decide (a ≤ b))
theorem srt_perm (ns : List Int) : (srt ns).Perm ns := List.mergeSort_perm ..
theorem srt_le (ns : List Int) : (srt ns).Pairwise (· ≤ ·) := by
  have := List.pairwise_mergeSort (le := fun a b : Int => decide (a ≤ b)) (fun a b c h1 h2 => by simp at *; omega) (fun a b => by simp; omega) ns
  exact this.imp fun h => by simpa using h
theorem sorted_uniq : ∀ {l m : List Int}, l.Perm m → l.Pairwise (· ≤ ·) → m.Pairwise (· ≤ ·) → l = m
  | [], m, p, _, _ => (List.Perm.nil_eq p)
  | x :: l, [], p, _, _ => absurd p.length_eq (by simp)
  | x :: l, y :: m, p, h, h' => by
    rw [List.pairwise_cons] at h h'
    have e : x = y := by
      have h1 : x ∈ y :: m := p.mem_iff.mp List.mem_cons_self
      have h2 : y ∈ x :: l := p.mem_iff.mpr List.mem_cons_self
      rcases List.mem_cons.mp h1 with z | z
      · exact z
      · rcases List.mem_cons.mp h2 with z' | z'
        · exact z'.symm
        · have := h.1 y z'; have := h'.1 x z; omega
    subst e
    rw [sorted_uniq (List.Perm.cons_inv p) h.2 h'.2]
theorem srt_eq {ms ns : List Int} (p : ms.Perm ns) (h : ms.Pairwise (· ≤ ·)) : ms = srt ns := sorted_uniq (p.trans (srt_perm ns).symm) h (srt_le ns)
theorem srt_len (ns : List Int) : (srt ns).length = ns.length := (srt_perm ns).length_eq
theorem srt_mem {ns : List Int} {x : Int} : x ∈ srt ns ↔ x ∈ ns := (srt_perm ns).mem_iff
theorem perm_sum {a b : List Int} (p : a.Perm b) : a.sum = b.sum := by
  induction p with
  | nil => rfl
  | cons x _ ih => simp [ih]
  | swap x y l => simp only [List.sum_cons]; omega
  | trans _ _ h1 h2 => exact h1.trans h2
theorem srt_sum (ns : List Int) : (srt ns).sum = ns.sum := perm_sum (srt_perm ns)
theorem map_int_inj {a b : List Int} (h : a.map PyData.int = b.map PyData.int) : a = b := by
  induction a generalizing b with
  | nil => cases b with
    | nil => rfl
    | cons => simp at h
  | cons x a ih => cases b with
    | nil => simp at h
    | cons y b => simp only [List.map_cons, List.cons.injEq, PyData.int.injEq] at h; rw [h.1, ih h.2]
end TL

-- part TL18
/-! TL18: {e for x in xs if t}, e an int, as the one argument of a built-in function. -/
namespace TL
open PySem PySem.Spec L2 PyProof.Rows PpSet
open Evl (Ex ex_l ex_t)
variable [Lay]
section
variable {X : Cx}
/-- the set of ints that grows at D -/
def tSi (w : World) (wi : TI) (g : TG) (tt : TT) (te : TE) (vs : List Nat) : TE := fun σ H Q => wi σ H fun J H1 => ∀ D, H1 D = none → ∃ W : Nat → Nat → Hp → Prop, (∃ m, W 0 m (upd H1 D (SetO w D (fun _ => false) 0))) ∧ ∀ i m H, W i m H →
  (J.stop i H ∧ Q (.ref D) H) ∨ (J.go i H ∧ ∃ Nx : Hp → Prop, (∀ H', Nx H' → ∃ m', m' < m ∧ W (i + 1) m' H') ∧ ∀ x H', J.yld i H x H' → g x (wipe σ vs) H' fun σ2 H2 => wipe σ2 vs = wipe σ vs ∧ tt σ2 H2 fun b H3 =>
    if b = true then te σ2 H3 fun y H4 => ∃ (c : Int) (S : Int → Bool) (n : Nat), y = .int c ∧ H4 D = some (SetO w D S n) ∧ n + 1 < scanBound ∧ Nx (upd H4 D (SetO w D (fun j => S j || decide (j = c)) (if S c = true then n else n + 1))) else Nx H3)
theorem addI_ok {pins : List (Addr × Obj)} {σ : L2.St} {H : Hp} {s : Shared} {E : Value → Shared → Prop} {D : Addr} {S : Int → Bool} {n : Nat} {y : Int} {tk : Tok} {Q : Value → Shared → Prop} (I : Inv X pins σ H s) (hD : H D = some (SetO X.w D S n)) (room : n + 1 < scanBound)
    (h : ∀ s', Inv X pins σ (upd H D (SetO X.w D (fun j => S j || decide (j = y)) (if S y = true then n else n + 1))) s' → Q .none s') : wpAny (model X.prog X.w) X.A (call (.builtin "set.add") [.ref D, .int y tk]) Q E s := by
  refine setR_add (setO_get I hD) room fun h' sb new => ?_
  have he : ∃ u, h'.get? D = some u := by
    obtain ⟨o, _, _, _, ho, _⟩ := new
    exact ⟨o, ho⟩
  exact h _ (I.write (e := D) (t' := s.toks + 1) (by rw [hD]; trivial) (.inl rfl) (fun b u hb hu => (sb.2 b hb).trans hu) he (setO_new new))
/-- the comprehension as a value: the set stands at D -/
theorem pe_si {elt tg iter : Expr} {ifs : List Expr} {scope : Scope} {own : List (PySem.Str × Nat)} {pos : Pos} {wi : TI} {g : TG} {tt : TT} {te : TE} (hc : X.calm = true) (hN : X.N.Nodup) (hi : PI X tg iter wi) (ok : BlkOk X.N X.env.scope scope own)
    (hg : ∀ (s : Shared) (H : Hp) (C : Addr) (cl : List (PySem.Str × Addr)) (fp : List Addr), PG (X.blk s H scope (compEnvC scope cl C X.env) fp) tg g) (ht : ∀ (s : Shared) (H : Hp) (C : Addr) (cl : List (PySem.Str × Addr)) (fp : List Addr), PTs (X.blk s H scope (compEnvC scope cl C X.env) fp) ifs tt)
    (he : ∀ (s : Shared) (H : Hp) (C : Addr) (cl : List (PySem.Str × Addr)) (fp : List Addr), PE (X.blk s H scope (compEnvC scope cl C X.env) fp) elt te) (hs : ∀ x, foldedSetIterable iter X.env x = pure x := by intro _; rfl) :
    PE X (.SetComp elt [⟨tg, iter, ifs, 0⟩] scope pos) (tSi X.w wi g tt te (own.map (·.2))) := by
  refine ⟨fun pins z0 σ H Q I0 h => ?_⟩
  rw [eval_SetComp]
  have clo : ∀ y ∈ scope.names, y.2 = .free → ∃ c, X.env.cells.lookup y.1 = some c := fun y hy e => I0.ok.has _ (ok.free y hy e)
  refine wpAny_comprehension_free (use := none) rfl hs (closure_ok clo) ok.kind (fun y hy e => (ok.uniq y hy).trans (congrArg some e)) (thn (hi.run pins z0 σ H _ I0 h) fun xv z1 hx => thn hx fun itv z2 made => ?_)
  obtain ⟨it, fp, tn, J, Ha, e, Ia, T, turnAt, free, q⟩ := made
  subst e
  refine newSet_ok (newEnv_comp ?_)
  have young : Ha z2.heap.objs.size = none := Ia.hok.fresh (Nat.le_refl _)
  obtain ⟨W, ⟨m0, w0⟩, turns⟩ := q _ young
  let zb : Shared := { z2 with heap := z2.heap.push { cls := .type "set", dict := none, data := .set #[] 0 (.fresh 0 0 (!X.w.params.followText "set-order")) } }
  let D : Addr := z2.heap.objs.size
  let Hb : Hp := upd Ha D (SetO X.w D (fun _ => false) 0)
  have Ib : Inv X pins σ Hb zb := Ia.laid (t' := z2.toks) (fun b o e => Heap.get?_push_of_some _ e) (Nat.le_refl _) (setO_new (setR_fresh X.w))
  have below : ∀ b ∈ fp, b < z2.heap.objs.size := fun b hb => Heap.lt_size (T.obj _ _ turnAt b hb).choose_spec.1
  have fpb : ∀ b ∈ fp, FpOk X pins Hb b ∧ b < zb.heap.objs.size := fun b hb =>
    ⟨⟨(upd_ne (Nat.ne_of_lt (below b hb))).trans (free b hb).1, (free b hb).2⟩, by rw [Heap.size_push]; exact Nat.lt_succ_of_lt (below b hb)⟩
  have turnB : tn 0 zb.heap := T.keep _ _ _ turnAt fun b _ o e => Heap.get?_push_of_some _ e
  have Ic := block_start Ib ok hN fpb
  let cl := cellsFrom (zb.heap.objs.size + 1) scope.names (cloFrom X.env.cells scope.names [])
  have pg := hg zb Hb zb.heap.objs.size cl fp
  have pt := ht zb Hb zb.heap.objs.size cl fp
  have pe := he zb Hb zb.heap.objs.size cl fp
  have none0 : ∀ b ∈ fp, Hb b = none := fun b hb => (fpb b hb).1.1
  show codeAny _ _ (.compStart (.SetComp elt [⟨tg, iter, ifs, 0⟩] scope pos) 0 (.ref it) (.ref D) (compEnvC scope cl zb.heap.objs.size X.env)) (compPost (model X.prog X.w) X.A X.xe none (EP X pins σ Q) (.ref D) zb.heap.objs.size) { zb with heap := pushCells (zb.heap.push { cls := .type "dict", data := .dict #[] }) scope.names }
  have cL : (compEnvC scope cl zb.heap.objs.size X.env).locals = zb.heap.objs.size := rfl
  have turnC : tn 0 (pushCells (zb.heap.push { cls := .type "dict", data := .dict #[] }) scope.names) := T.keep _ _ _ turnB fun b _ o e => pushCells_keeps _ _ _ _ (Heap.get?_push_of_some _ e)
  have st0 : ∀ {σ' : L2.St} {H' : Hp} {s' : Shared}, Inv (X.blk zb Hb scope (compEnvC scope cl zb.heap.objs.size X.env) fp) [] σ' H' s' → (∀ b ∈ fp, H' b = none) → ∀ b ∈ fp, FpOk (X.blk zb Hb scope (compEnvC scope cl zb.heap.objs.size X.env) fp) [] H' b := fun {σ' H' s'} I' hn b hb =>
    ⟨hn b hb, (I'.ok.exf b hb).1, I'.ok.exfs b hb, .inl hb, fun x c e => (I'.ok.exf b hb).2 x c e, fun p hp => by cases hp⟩
  have loop : codeAny (model X.prog X.w) X.A (.compLoop (.SetComp elt [⟨tg, iter, ifs, 0⟩] scope pos) 0 (.ref it) (.ref D) (compEnvC scope cl zb.heap.objs.size X.env)) (compPost (model X.prog X.w) X.A X.xe none (EP X pins σ Q) (.ref D) zb.heap.objs.size) { zb with heap := pushCells (zb.heap.push { cls := .type "dict", data := .dict #[] }) scope.names } := by
    refine compLoopS_any (fun n s' => ∃ i H', Inv (X.blk zb Hb scope (compEnvC scope cl zb.heap.objs.size X.env) fp) [] (wipe σ (own.map (·.2))) H' s' ∧ tn i s'.heap ∧ (∀ b ∈ fp, H' b = none) ∧ W i n H') (fun n z5 ⟨i, H5, I5, t5, n5, w5⟩ => ?_) m0 ⟨0, Hb, Ic, turnC, none0, w0⟩
    rcases turns i n H5 w5 with ⟨stop, qq⟩ | ⟨go, Nx, hNx, step⟩
    · refine thnF (T.done (X.blk zb Hb scope (compEnvC scope cl zb.heap.objs.size X.env) fp) rfl rfl rfl hc i [] z5 _ H5 (fun _ _ => False) I5 (st0 I5 n5) t5 stop) fun r z6 ⟨hr, I6⟩ => ?_
      subst hr
      have I7 : Inv X pins σ H5 z6 := Ib.call' (ch := fp) I6.os I6.base I6.hok I6.bare fun b hb => ⟨(fpb b hb).1.2.2.2.1, (fpb b hb).1.2.1, (fpb b hb).1.2.2.2.2.1, (fpb b hb).1.2.2.2.2.2⟩
      have nC : H5 zb.heap.objs.size = none := I6.free
      obtain ⟨m, hn, _⟩ := I6.loc
      obtain ⟨f0, f1, f2, f3, f4, f5⟩ := Ib.fpOk (Nat.le_refl _) nC
      exact ⟨m, hn, fun h'' sb => ⟨.ref D, H5, I7.turned (t' := z6.toks) (fun b o hb e => (sb.2 b hb).trans e) f0 f1 f3 f4 f5, rfl, qq⟩⟩
    · refine thnF (T.item (X.blk zb Hb scope (compEnvC scope cl zb.heap.objs.size X.env) fp) rfl rfl rfl hc i [] z5 _ H5 (fun _ _ => False) I5 (st0 I5 n5) t5 go) fun r z6 ⟨u, hr, h6⟩ => ?_
      subst hr
      refine thnF h6 fun _ z7 ⟨x, H7, I7, r7, y7, t7, n7⟩ => ?_
      have I7' := I7.pinned (st0 I7 n7) (T.obj _ _ t7)
      refine thnF (pg.run _ z7 _ H7 x u _ I7' r7 (step x H7 y7)) fun _ z8 ⟨σ8, H8, I8, hw8, q8⟩ => ?_
      refine thnF (pt.run _ z8 σ8 H8 _ I8 q8) fun b z9 ⟨H9, I9, q9⟩ => ?_
      have again : ∀ {s' : Shared} {H' : Hp}, Inv (X.blk zb Hb scope (compEnvC scope cl zb.heap.objs.size X.env) fp) ([] ++ pinsAt fp z7.heap) σ8 H' s' → Nx H' → ∃ m, m < n ∧ ∃ i H', Inv (X.blk zb Hb scope (compEnvC scope cl zb.heap.objs.size X.env) fp) [] (wipe σ (own.map (·.2))) H' s' ∧ tn i s'.heap ∧ (∀ b ∈ fp, H' b = none) ∧ W i m H' := fun {s' H'} I' nx => by
        obtain ⟨m', hm, w'⟩ := hNx H' nx
        have held : ∀ b ∈ fp, ∀ o, z7.heap.get? b = some o → s'.heap.get? b = some o ∧ H' b = none := fun b hb o e => by
          have z := I'.pin (b, o) (List.mem_append_right _ (List.mem_append_right _ (mem_pinsAt hb e)))
          exact ⟨z.1, z.2.1⟩
        have same : (wipe σ (own.map (·.2))).length = σ8.length := (congrArg List.length hw8).symm.trans (wipe_length σ8 _)
        refine ⟨m', hm, i + 1, H', (I'.unpinned (pins := [])).weak same (fun j v e => (wipe_some (by rw [hw8]; exact e)).1), T.keep _ _ _ t7 fun b hb o e => (held b hb o e).1, fun b hb => ?_, w'⟩
        obtain ⟨o, e, _⟩ := T.obj _ _ t7 b hb
        exact (held b hb o e).2
      cases b with
      | false => exact again I9 q9
      | true =>
        refine thnF (pe.run _ z9 σ8 H9 _ I9 q9) fun z z10 ⟨yv, H10, I10, r10, c, S0, n0, ey, hD10, hz10, nx⟩ => ?_
        subst ey
        obtain ⟨tk, rfl⟩ := (show ∃ t, z = Value.int c t from r10)
        exact addI_ok (X := X.blk zb Hb scope (compEnvC scope cl zb.heap.objs.size X.env) fp) I10 hD10 hz10 fun z11 I11 => again I11 nx
  exact codeAny_compStart_set loop (T.self X.A 0 _ _ _ turnC loop)
end
/-- without repeats, first ones kept -/
def nub (l : List Int) : List Int := l.foldl (fun a x => if x ∈ a then a else a ++ [x]) []
theorem nub_snoc_mem {c : Int} : ∀ {l a : List Int}, c ∈ l.foldl (fun a x => if x ∈ a then a else a ++ [x]) a ↔ c ∈ a ∨ c ∈ l
  | [], a => by simp
  | x :: l, a => by
    rw [List.foldl_cons, nub_snoc_mem]
    by_cases h : x ∈ a
    · rw [if_pos h, List.mem_cons]
      constructor
      · rintro (z | z)
        · exact .inl z
        · exact .inr (.inr z)
      · rintro (z | z | z)
        · exact .inl z
        · exact .inl (z ▸ h)
        · exact .inr z
    · rw [if_neg h, List.mem_append, List.mem_singleton, List.mem_cons, or_assoc]
theorem mem_nub {c : Int} {l : List Int} : c ∈ nub l ↔ c ∈ l := by
  unfold nub
  rw [nub_snoc_mem]
  simp
theorem nub_snoc (l : List Int) (c : Int) : nub (l ++ [c]) = if c ∈ l then nub l else nub l ++ [c] := by
  have e : nub (l ++ [c]) = if c ∈ nub l then nub l else nub l ++ [c] := by
    unfold nub
    rw [List.foldl_append]
    rfl
  rw [e]
  by_cases h : c ∈ l
  · rw [if_pos h, if_pos (mem_nub.mpr h)]
  · rw [if_neg h, if_neg fun z => h (mem_nub.mp z)]
theorem nub_le (l : List Int) : (nub l).length ≤ l.length := by
  have key : ∀ m : List Int, ∀ l, l = m.reverse → (nub l).length ≤ l.length := fun m => by
    induction m with
    | nil => intro l e; subst e; exact Nat.le_refl _
    | cons x m ih =>
      intro l e
      subst e
      rw [List.reverse_cons, nub_snoc, List.length_append]
      have := ih _ rfl
      split
      · omega
      · rw [List.length_append]; simp at *; omega
  exact key l.reverse l (by simp)
def dSiL (g : DTG) (tt : DTT) (te : DTE) (src : List (Nat × D)) (vs : List Nat) (k : List Int → List Slot → Prop) : List D → List Int → List Slot → Prop
  | [], acc, ρ => stl src ρ ∧ k acc ρ
  | d :: ds, acc, ρ => stl src ρ ∧ g d ρ fun ρ1 => tt ρ1 fun b ρ2 => if b = true then te ρ2 fun r ρ3 => (match r with
        | .fz (.int c) => acc.length + 1 < scanBound ∧ dSiL g tt te src vs k ds (acc ++ [c]) (wipeR ρ3 vs)
        | _ => False)
      else dSiL g tt te src vs k ds acc (wipeR ρ2 vs)
/-- f({e for x in xs if t}): cons: what f makes of the ints put in -/
def dSi (w : DTI) (g : DTG) (tt : DTT) (te : DTE) (vs : List Nat) (cons : List Int → (Res → Prop) → Prop) : DTE := fun ρ k => w ρ fun items src ρ1 => (∀ p ∈ src, p.1 ∉ vs) ∧ dSiL g tt te src vs (fun acc ρ2 => cons acc fun z => k z (restR vs ρ1 ρ2)) items [] (wipeR ρ1 vs)
def ConsS (w : World) (K : PySem.W.Frag) (cons : List Int → (Res → Prop) → Prop) (r : List V → Hp → VK → Prop) : Prop := ∀ (F H : Hp) (a : Addr) (S : Int → Bool) (n : Nat) (acc : List Int) (k : Res → Prop) (Q : VK), Ex F H → H a = some (SetO w a S n) → (∀ x, S x = true ↔ x ∈ acc) → n = (nub acc).length → cons acc k →
  (∀ z v F' H', k z → New K F H F' H' v z → Q v H') → r [.ref a] H Q
theorem nt_si {w : World} {a : Addr} {S : Int → Bool} {n : Nat} : NT (SetO w a S n) := fun _ z => by unfold SetO at z; cases z
theorem nc_si {w : World} {a : Addr} {S : Int → Bool} {n : Nat} : NC (SetO w a S n) := ⟨nt_si, fun c q z => by
  unfold SetO LamX.CodeO at z
  injection z with z
  let oc : Obj := { cls := .none, data := .fields #[.none, .str q 0] }
  let h0 : Heap := { objs := (List.replicate (a + c + 1) oc).toArray }
  have at0 : ∀ b : Nat, b ≤ (a : Nat) + (c : Nat) → h0.get? b = some oc := fun b hb => by
    have e : h0.objs[b]? = some oc := by
      show (List.replicate ((a : Nat) + (c : Nat) + 1) oc).toArray[b]? = some oc
      simp [List.getElem?_replicate, Nat.lt_succ_of_le hb]
    unfold Heap.get?
    rw [e]
  have h1 : ∃ (oc : Obj) (vs : Array Value) (t : Tok), h0.get? c = some oc ∧ oc.data = .fields vs ∧ vs[1]? = some (.str q t) := ⟨oc, _, 0, at0 c (Nat.le_add_left _ _), rfl, rfl⟩
  rw [← congrFun z h0] at h1
  obtain ⟨o, es, ep, t, e1, _, e2, _⟩ := h1
  rw [at0 a (Nat.le_add_right _ _)] at e1
  cases e1
  cases e2⟩
structure BlkS (w : World) (K : PySem.W.Frag) (L : Addr) (vs : List Nat) (F1 H1 : Hp) (σ : L2.St) (ρ1 : List Slot) (F H : Hp) (ρ : List Slot) (acc : List Int) : Prop where
  sta : Sta K F H (L2.wipe σ vs) (wipeR ρ vs)
  tr : Tr F1 H1 (L2.wipe σ vs) (wipeR ρ1 vs) F H (L2.wipe σ vs) (wipeR ρ vs)
  slow : ∀ (i : Nat) (t : Option Addr) (κ : Kd) (d : D), (wipeR ρ vs)[i]? = some (.ow t κ d) → ∃ d0, (wipeR ρ1 vs)[i]? = some (.ow t κ d0)
  slrd : ∀ (i : Nat) (d : D), (wipeR ρ vs)[i]? = some (.rd d) → (wipeR ρ1 vs)[i]? = some (.rd d) ∨ ∃ t κ d0, (wipeR ρ1 vs)[i]? = some (.ow t κ d0)
  obj : ∃ S n, H L = some (SetO w L S n) ∧ (∀ x, S x = true ↔ x ∈ acc) ∧ n = (nub acc).length
section
theorem up_si {wd : World} {w : DTI} {js : List Nat} {g : DTG} {tt : DTT} {te : DTE} {vs : List Nat} {K : PySem.W.Frag} {cons : List Int → (Res → Prop) → Prop} {r0 : List V → Hp → VK → Prop} (hr : ConsS wd K cons r0) (hj : ∀ j ∈ js, j ∈ vs) {σ : L2.St} {H : Hp} {Q : VK} (h : up K (dSi w g tt te vs cons) σ H Q) :
    tSi wd (upI K w) (upG K js g) (upT K tt) (up K te) vs σ H fun v H1 => r0 [v] H1 Q := by
  obtain ⟨F, ρ, k, S, q, fin⟩ := h
  refine ⟨F, ρ, _, S, q, fun items src ρ1 F1 H1 J q S1 T1 wk L hL => ?_⟩
  obtain ⟨q0, q⟩ := q
  have fL : F1 L = none := by
    cases e : F1 L with
    | none => rfl
    | some o => rw [S1.sub L o e] at hL; cases hL
  have oL : ¬ OA σ ρ1 L := fun ⟨i, t, κ, d, h1, h2⟩ => by
    obtain ⟨a, e1, h3, _⟩ := S1.ow i t κ d h1
    rw [h2] at e1
    cases e1
    obtain ⟨o, ho⟩ := h3.some
    rw [hL] at ho; cases ho
  have oLw : ¬ OA (L2.wipe σ vs) (wipeR ρ1 vs) L := fun z => oL (oa_wipe z)
  have Sw := S1.wipe (vs := vs)
  have rdw : ∀ (i : Nat) (d : D), (wipeR ρ1 vs)[i]? = some (.rd d) → (L2.wipe σ vs)[i]? = some (some (.ref L)) → Dp K F1 (.ref L) d := fun i d e1 e2 => by
    obtain ⟨v, h1, h2⟩ := Sw.rd i d e1
    rw [e2] at h1
    cases h1
    rcases h2 with h2 | ⟨κ, a, e3, h2, _⟩
    · exact h2
    · cases e3
      obtain ⟨o, ho⟩ := h2.some
      rw [hL] at ho; cases ho
  let W : Nat → Nat → Hp → Prop := fun i m H' => m = items.length - i ∧ i ≤ items.length ∧ ∃ F' ρ' acc, F' L = none ∧ ¬ OA (L2.wipe σ vs) (wipeR ρ' vs) L ∧ BlkS wd K L vs F1 H1 σ ρ1 F' H' ρ' acc ∧
    dSiL g tt te src vs (fun acc ρ2 => cons acc fun z => k z (restR vs ρ1 ρ2)) (items.drop i) acc (wipeR ρ' vs)
  refine ⟨W, ⟨items.length, by simp, Nat.zero_le _, F1, ρ1, [], fL, oLw, ⟨Sw.updD (fun o z => by rw [hL] at z; cases z) fL oLw rdw, ⟨Ex.refl F1, fun b o h _ _ => Ex.new hL b o h, fun b o h => ⟨o, Ex.new hL b o h⟩, fun _ h => .inl h, fun _ _ h => .inl h⟩, fun _ _ _ d h => ⟨d, h⟩, fun _ _ h => .inl h, _, _, upd_same, fun k => by simp, rfl⟩, q⟩, ?_⟩
  rintro i m H2 ⟨rfl, hi, F2, ρ2, acc, f2, o2, B, q2⟩
  have src_ok : stl src (wipeR ρ2 vs) → ∀ p ∈ src, σ[p.1]? = σ[p.1]? ∧ cont (wipeR ρ2 vs) p.1 = some p.2 := fun z p hp => ⟨rfl, stl_all z p hp⟩
  -- the iterator's word, in the block's state
  have wk2 : stl src (wipeR ρ2 vs) → (∀ i, items.length ≤ i → J.stop i H2) ∧ ∀ i d, items[i]? = some d → J.go i H2 ∧ ∀ x H', J.yld i H2 x H' → ∃ F', Ex F2 F' ∧ Ex H2 H' ∧ Ex F' H' ∧ (∀ b o, F' b = some o → F2 b = some o ∨ H2 b = none) ∧ Dp K F' x d := fun z => by
    have TX := Tr.rest S1 B.tr B.slow B.slrd
    refine wk F2 H2 σ (restR vs ρ1 (wipeR ρ2 vs)) (Sta.rest S1 B.sta B.tr) TX.toTr fun p hp => ⟨rfl, ?_⟩
    have := stl_all z p hp
    unfold cont at this ⊢
    rw [restR_out (q0 p hp)]
    exact this
  by_cases hl : i < items.length
  · rw [List.drop_eq_getElem_cons hl] at q2
    obtain ⟨qs, q2⟩ := q2
    obtain ⟨go, yl⟩ := (wk2 qs).2 i items[i] (List.getElem?_eq_getElem hl)
    refine .inr ⟨go, fun H' => W (i + 1) (items.length - (i + 1)) H', fun H' z => ⟨items.length - (i + 1), by omega, z⟩, fun x H3 hy => ?_⟩
    obtain ⟨F3, e1, e2, e3, e4, dp⟩ := yl x H3 hy
    have S3 := B.sta.grow e1 e2 e3 e4
    have T3 : Tr F2 H2 (L2.wipe σ vs) (wipeR ρ2 vs) F3 H3 (L2.wipe σ vs) (wipeR ρ2 vs) := ⟨e1, fun b o h _ _ => e2 b o h, fun b o h => ⟨o, e2 b o h⟩, fun _ h => .inl h, fun b o h => (e4 b o h).imp id .inl⟩
    refine ⟨F3, wipeR ρ2 vs, items[i], _, S3, dp, q2, fun σ4 ρ4 F4 H4 q4 S4 T4 l4 n4 => ?_⟩
    have wσ : L2.wipe σ4 vs = L2.wipe σ vs := by
      refine List.ext_getElem? fun j => ?_
      by_cases hj' : j ∈ vs
      · have wn : ∀ {τ : L2.St} {us : List Nat}, j ∈ us → j < τ.length → (L2.wipe τ us)[j]? = some none := fun {τ us} => by
          induction us with
          | nil => intro h; cases h
          | cons u us ih =>
            intro h hl
            by_cases e : u = j
            · subst e
              show ((L2.wipe τ us).set u none)[u]? = _
              rw [List.getElem?_set]
              simp [wipe_length, hl]
            · show ((L2.wipe τ us).set u none)[j]? = _
              rw [List.getElem?_set_ne e]
              exact ih ((List.mem_cons.mp h).resolve_left (fun z => e z.symm)) hl
        have le : σ4.length = σ.length := by rw [l4, wipe_length]
        by_cases hlt : j < σ.length
        · rw [wn hj' (by omega), wn hj' hlt]
        · rw [List.getElem?_eq_none (by rw [wipe_length]; omega), List.getElem?_eq_none (by rw [wipe_length]; omega)]
      · rw [wipe_get hj', (n4 j fun z => hj' (hj j z)).1]
    refine ⟨wσ, F4, ρ4, _, S4, q4, fun b ρ5 F5 H5 q5 S5 T5 => ?_⟩
    have ρslow : ∀ {ρ6 : List Slot}, (∀ (i : Nat) (t : Option Addr) (κ : Kd) (d : D), ρ6[i]? = some (.ow t κ d) → ∃ d0, ρ4[i]? = some (.ow t κ d0)) → ∀ (i : Nat) (t : Option Addr) (κ : Kd) (d : D), (wipeR ρ6 vs)[i]? = some (.ow t κ d) → ∃ d0, (wipeR ρ1 vs)[i]? = some (.ow t κ d0) := fun {ρ6} h i t κ d e => by
      rcases wipeR_cases e with z | ⟨z, e⟩
      · cases z
      · obtain ⟨d1, h1⟩ := h i t κ d e
        rw [(n4 i fun y => z (hj i y)).2] at h1
        exact B.slow i t κ d1 h1
    have ρslrd : ∀ {ρ6 : List Slot}, (∀ (i : Nat) (d : D), ρ6[i]? = some (.rd d) → ρ4[i]? = some (.rd d) ∨ ∃ t κ d0, ρ4[i]? = some (.ow t κ d0)) → ∀ (i : Nat) (d : D), (wipeR ρ6 vs)[i]? = some (.rd d) → (wipeR ρ1 vs)[i]? = some (.rd d) ∨ ∃ t κ d0, (wipeR ρ1 vs)[i]? = some (.ow t κ d0) := fun {ρ6} h i d e => by
      rcases wipeR_cases e with z | ⟨z, e⟩
      · cases z
      · rcases h i d e with h1 | ⟨t, κ, d1, h1⟩
        · rw [(n4 i fun y => z (hj i y)).2] at h1
          exact B.slrd i d h1
        · rw [(n4 i fun y => z (hj i y)).2] at h1
          obtain ⟨d2, h2⟩ := B.slow i t κ d1 h1
          exact .inr ⟨t, κ, d2, h2⟩
    obtain ⟨S0, n0, hx, hd, hn0⟩ := B.obj
    cases b with
    | false =>
      have T6 : Tr F2 H2 (L2.wipe σ vs) (wipeR ρ2 vs) F5 H5 σ4 ρ5 := T3.trans (T4.trans T5.toTr)
      have T6w := T6.wiped (vs := vs)
      rw [wσ] at T6w
      obtain ⟨f6, o6⟩ := T6w.nof hx f2 o2
      have S6 := S5.wipe (vs := vs)
      rw [wσ] at S6
      exact ⟨rfl, hl, F5, ρ5, acc, f6, o6, ⟨S6, B.tr.trans T6w, ρslow T5.slow, ρslrd T5.slrd, S0, n0, T6.keep _ _ hx nt_si o2, hd, hn0⟩, q5⟩
    | true =>
      refine ⟨F5, ρ5, _, S5, q5, fun r ρ6 v F6 H6 q6 S6 T6 f => ?_⟩
      have q6 : ∃ c, r = .fz (.int c) ∧ acc.length + 1 < scanBound ∧ dSiL g tt te src vs (fun acc ρ2 => cons acc fun z => k z (restR vs ρ1 ρ2)) (items.drop (i + 1)) (acc ++ [c]) (wipeR ρ6 vs) := by
        split at q6
        · exact ⟨_, rfl, q6⟩
        · exact q6.elim
      obtain ⟨c, rfl, hz, q7⟩ := q6
      have f : Dp K F6 v (.int c) := f
      cases f
      have T7' := T5.trans T6
      have T8 : Tr F2 H2 (L2.wipe σ vs) (wipeR ρ2 vs) F6 H6 σ4 ρ6 := T3.trans (T4.trans T7'.toTr)
      have T8w := T8.wiped (vs := vs)
      rw [wσ] at T8w
      obtain ⟨f8, o8⟩ := T8w.nof hx f2 o2
      have S8 := S6.wipe (vs := vs)
      rw [wσ] at S8
      have sl := ρslow T7'.slow
      have sr := ρslrd T7'.slrd
      have room : n0 + 1 < scanBound := by
        have := nub_le acc
        omega
      refine ⟨c, S0, n0, rfl, T8.keep _ _ hx nt_si o2, room, rfl, hl, F6, ρ6, acc ++ [c], f8, o8, ⟨S8.updD (fun o z => by rw [T8.keep _ _ hx nt_si o2] at z; cases z; exact nc_si) f8 o8 fun i d e1 e2 => ?_, ?_, sl, sr, _, _, upd_same, fun x => ?_, ?_⟩, q7⟩
      · rcases sr i d e1 with y | ⟨t, κ, d0, y⟩
        · exact dp_mono (B.tr.fext.trans T8.fext) (rdw i d y e2)
        · exact absurd ⟨i, t, κ, d0, y, e2⟩ oLw
      · have T9 := B.tr.trans T8w
        refine ⟨T9.fext, fun b o h nt n => ?_, fun b o h => ?_, T9.own, T9.fnew⟩
        · have hne : b ≠ L := fun z => by rw [z, hL] at h; cases h
          rw [upd_ne hne]; exact T9.keep b o h nt n
        · have hne : b ≠ L := fun z => by rw [z, hL] at h; cases h
          rw [upd_ne hne]; exact T9.there b o h
      · rw [Bool.or_eq_true, hd, List.mem_append, List.mem_singleton, decide_eq_true_eq]
      · rw [nub_snoc]
        by_cases hc : c ∈ acc
        · rw [if_pos ((hd c).mpr hc), if_pos hc, hn0]
        · have e0 : S0 c = false := by
            cases e : S0 c with
            | true => exact absurd ((hd c).mp e) hc
            | false => rfl
          rw [e0, if_neg (by decide), if_neg hc, hn0, List.length_append]
          rfl
  · have e : i = items.length := by omega
    subst e
    rw [List.drop_length] at q2
    obtain ⟨qs, q2⟩ := q2
    refine .inl ⟨(wk2 qs).1 _ (Nat.le_refl _), ?_⟩
    have TX := Tr.rest S1 B.tr B.slow B.slrd
    have SX := Sta.rest S1 B.sta B.tr
    obtain ⟨S0, n0, hx, hd, hn0⟩ := B.obj
    have TT := T1.trans TX
    exact hr _ _ _ _ _ _ _ _ SX.sub hx hd hn0 q2 fun z v F' H' kz n => fin z _ v F' H' kz (n.sta SX) (TT.trans n.tr) (n.fits SX fun _ z => TT.none z)
end
end TL

-- part TL19
/-! TL19: len and sorted of a set comprehension, list.index, a, b, c = x, y, z. -/
namespace TL
open PySem PySem.Spec L2
open Evl (Ex ex_l ex_t)
variable [Lay]
section
variable {X : Cx}
def rLenSet (w : World) : List V → Hp → VK → Prop := fun xs H Q => ∃ (a : Addr) (S : Int → Bool) (n : Nat), xs = [V.ref a] ∧ H a = some (SetO w a S n) ∧ Q (.int n) H
theorem call_lenS : CallR X (.builtin "len") (rLenSet X.w) := by
  intro pins s σ H xs us Q I r ⟨a, S, n, e, ha, q⟩
  subst e
  obtain ⟨u, rfl, ru⟩ := vals1 r
  cases (show u = Value.ref a from ru)
  obtain ⟨o, es, ep, t, h1, h2, h3, _, _, _, h4, h5, h6, _⟩ := setO_get I ha
  subst h6
  refine PySem.call_len_set h1 h2 h3 h5 ?_ ⟨.int _, H, I.tok _, ⟨_, rfl⟩, q⟩
  have : scanBound = 4096 := rfl
  omega
/-- the number of unlike ones -/
@[simp] def cLen (acc : List Int) (k : Res → Prop) : Prop := k (.fz (.int (nub acc).length))
theorem cs_len : ConsS X.w X.K cLen (rLenSet X.w) := fun F H a S n acc k Q se ha hS hn hk fin => ⟨a, S, n, rfl, ha, by subst hn; exact fin _ _ _ _ hk (New.val se (.int _))⟩
/-- the unlike ones, rising -/
@[simp] def cSort (acc : List Int) (k : Res → Prop) : Prop := (nub acc).length < 64 ∧ ∀ ns : List Int, ns.Pairwise (· < ·) → (∀ x, x ∈ ns ↔ x ∈ acc) → k (.tm .l (.list (ns.map .int)))
theorem cs_sort : ConsS X.w X.K cSort (rSortedSet X.w) := fun F H a S n acc k Q se ha hS hn hk fin => ⟨a, S, n, rfl, ha, (hn ▸ hk.1), fun ns p h1 h2 _ hp => fin _ _ _ _ (hk.2 ns h1 fun x => (h2 x).trans (hS x)) (New.list se hp (dpAll_ints_mk ns))⟩
theorem de_si {x : Str} {id : String} {p pos' : Pos} {cons : List Int → (Res → Prop) → Prop} {r0 : List V → Hp → VK → Prop} {elt tg iter : Expr} {ifs : List Expr} {scope : Scope} {own : List (Str × Nat)} {pos : Pos} {w : DTI} {js : List Nat} {g : DTG} {tt : DTT} {te : DTE}
    (hr : ConsS X.w X.K cons r0) (hcl : CallR X (.builtin id) r0) (hgl : Gl X x) (hm : X.mg x = none) (hv : bootBuiltins x = some (.builtin id)) (hc : X.calm = true) (hN : X.N.Nodup) (hi : DI X tg iter w) (ok : BlkOk X.N X.env.scope scope own)
    (hg : ∀ (s : Shared) (H : Hp) (C : Addr) (cl : List (Str × Addr)) (fp : List Addr), DG (X.blk s H scope (compEnvC scope cl C X.env) fp) tg js g) (ht : ∀ (s : Shared) (H : Hp) (C : Addr) (cl : List (Str × Addr)) (fp : List Addr), DTsT (X.blk s H scope (compEnvC scope cl C X.env) fp) ifs tt)
    (he : ∀ (s : Shared) (H : Hp) (C : Addr) (cl : List (Str × Addr)) (fp : List Addr), DE (X.blk s H scope (compEnvC scope cl C X.env) fp) elt te) (hj : ∀ j ∈ js, j ∈ own.map (·.2) := by decide) (hs : ∀ x, foldedSetIterable iter X.env x = pure x := by intro _; rfl)
    (hn : x ≠ "__name__" := by decide) (hdb : (x == ("__debug__" : Str)) = false := by decide)
    (hst : starEach [.SetComp elt [⟨tg, iter, ifs, 0⟩] scope pos] X.env = (false, eval (.SetComp elt [⟨tg, iter, ifs, 0⟩] scope pos) X.env) :: starEach [] X.env := by rfl) :
    DE X (.Call (.Name x p) [.SetComp elt [⟨tg, iter, ifs, 0⟩] scope pos] [] pos') (dSi w g tt te (own.map (·.2)) cons) :=
  PE.le (pe_callB hcl hgl hm hv (pa_cons (pe_si (wi := upI X.K w) (g := upG X.K js g) (tt := upT X.K tt) (te := up X.K te) hc hN hi ok hg ht he hs) pa_nil hst) hn hdb hst) fun σ H Q h => up_si hr hj h
/-! ### xs.index(y) -/
@[simp] def gIndexI : D → List D → (Res → Prop) → Prop
  | .list ds, [.int i], k => ∃ ns, intsOf ds = some ns ∧ ∃ j : Nat, ns[j]? = some i ∧ (∀ m : Nat, m < j → ns[m]? ≠ some i) ∧ k (.fz (.int j))
  | _, _, _ => False
theorem flat_ints' (ns : List Int) : (ns.map V.int).all flatV = true := by
  rw [List.all_eq_true]
  intro v hv
  obtain ⟨i, _, rfl⟩ := List.mem_map.mp hv
  rfl
theorem mt_gIndexI : MtR X "list.index" (rm X.K gIndexI) := by
  intro pins s σ H x xs v us Q I rx rxs ⟨F, d, ds, k, se, hx, hxs, g, fin⟩
  unfold gIndexI at g
  split at g
  · obtain ⟨ns, e, j, hj, hm, g⟩ := g
    obtain ⟨a, ys, rfl, h1, h2⟩ := hx.list se
    rw [intsOf_eq e] at h2
    rw [dpAll_ints h2] at h1
    obtain ⟨w, rfl, hw⟩ := hxs.one
    cases hw.int
    refine mt_index pins s σ H _ _ v us Q I rx rxs ⟨a, ns.map V.int, _, j, .int _, rfl, rfl, .inl h1, rfl, flat_ints' ns, by rw [List.getElem?_map, hj]; rfl, ?_, fun m z' hm' hz => ?_, r2_val se g fin (.int _)⟩
    · simp [eqV]
    · rw [List.getElem?_map] at hz
      cases e' : ns[m]? with
      | none => rw [e'] at hz; cases hz
      | some y =>
        rw [e'] at hz
        cases hz
        have : y ≠ _ := fun z => hm m hm' (by rw [e', z])
        simp [eqV, this]
  · exact g.elim
/-! ### a, b, c = x, y, z -/
def dPar3 (i j l : Nat) (da : DTA) : DTS := fun E ρ => da ρ fun rs ρ1 => match rs with
  | [r, r', r''] => fzR r ρ1 fun d ρ2 => fzR r' ρ2 fun d' ρ3 => fzR r'' ρ3 fun d'' ρ4 => E.nx (((ρ4.set i (.fz d)).set j (.fz d')).set l (.fz d''))
  | _ => False
theorem ds_par3 {i j l : Nat} {x y z : Str} {a b c : Expr} {da : DTA} {px py pz pt pos : Pos} {kt k2 pt2} (hc : X.calm = true) (hN : X.N.Nodup) (hi : X.N[i]? = some x) (hj : X.N[j]? = some y) (hl : X.N[l]? = some z) (hij : i ≠ j) (hil : i ≠ l) (hjl : j ≠ l)
    (hx : X.env.scope.names.lookup x = some .local) (hy : X.env.scope.names.lookup y = some .local) (hz : X.env.scope.names.lookup z = some .local) (ha : DA X [a, b, c] da)
    (hw : swappedStores [.Tuple [.Name x px, .Name y py, .Name z pz] kt pt] (.Tuple [a, b, c] k2 pt2) X.env = pure (some [x, y, z]))
    (hs : swapsWithSole [.Tuple [.Name x px, .Name y py, .Name z pz] kt pt] (.Tuple [a, b, c] k2 pt2) pos.line X.env = pure false := by rfl) :
    DS X (.Assign [.Tuple [.Name x px, .Name y py, .Name z pz] kt pt] (.Tuple [a, b, c] k2 pt2) pos) (dPar3 i j l da) := PS.le (ps_par3 hc hN hi hj hl hij hil hjl hx hy hz ha hw hs) fun E σ H ⟨F, ρ, G, S, q, f1, f2, f3, f4⟩ =>
  ⟨F, ρ, _, S, q, fun rs ρ1 vs F1 H1 q S1 T1 f => by
    split at q
    · rename_i r r' r''
      match vs, f with
      | [v, w, u], ⟨g1, g2, g3, _⟩ =>
        refine ⟨v, w, u, rfl, ?_⟩
        obtain ⟨d, ρ2, F2, q, S2, T2, dp, e2, o2⟩ := fzR_ok S1 g1.w T1 q
        obtain ⟨d', ρ3, F3, q, S3, T3, dp', e3, o3⟩ := fzR_ok S2 (g2.w.frz e2 o2) T2 q
        obtain ⟨d'', ρ4, F4, q, S4, T4, dp'', e4, o4⟩ := fzR_ok S3 ((g3.w.frz e2 o2).frz e3 o3) T3 q
        have S5 := S4.store (i := i) (v := v) (s := .fz d) (dp_mono (e3.trans e4) dp)
        have S6 := S5.store (i := j) (v := w) (s := .fz d') (dp_mono e4 dp')
        have S7 := S6.store (i := l) (v := u) (s := .fz d'') dp''
        refine f1 _ _ _ _ q S7 ⟨T4.fext, T4.keep, T4.there, fun b z => ?_, T4.fnew⟩
        rcases oa_store S6 b z with z | ⟨⟨_, _, _, y⟩, _⟩
        · rcases oa_store S5 b z with y | ⟨⟨_, _, _, y⟩, _⟩
          · rcases oa_store S4 b y with y | ⟨⟨_, _, _, y⟩, _⟩
            · exact T4.own b y
            · cases y
          · cases y
        · cases y
    · exact q.elim⟩
end
end TL

-- part TL20
/-! TL20: in, not in. -/
namespace TL
open PySem PySem.Spec L2
open Evl (Ex ex_l ex_t)
variable [Lay]
theorem inV_ints (i : Int) (ns : List Int) : inV (.int i) (ns.map V.int) = decide (i ∈ ns) := by
  unfold inV
  rw [List.any_map, Bool.eq_iff_iff, List.any_eq_true, decide_eq_true_eq]
  constructor
  · rintro ⟨j, hj, h⟩
    have : j = i := by simpa [eqV] using h
    exact this ▸ hj
  · intro h
    exact ⟨i, h, by simp [eqV]⟩
def strsOf : List D → Option (List Str)
  | [] => some []
  | .str i :: ds => (strsOf ds).map (i :: ·)
  | _ :: _ => none
theorem strsOf_eq : ∀ {ds : List D} {ns : List Str}, strsOf ds = some ns → ds = ns.map .str
  | [], ns, h => by cases h; rfl
  | d :: ds, ns, h => by
    cases d with
    | str i =>
      unfold strsOf at h
      cases e : strsOf ds with
      | none => rw [e] at h; cases h
      | some ms => rw [e] at h; cases h; rw [strsOf_eq e]; rfl
    | _ => cases h
theorem strsOf_map : ∀ ns : List Str, strsOf (ns.map .str) = some ns
  | [] => rfl
  | n :: ns => by rw [List.map_cons, strsOf, strsOf_map ns]; rfl
theorem inV_strs (i : Str) (ns : List Str) : inV (.str i) (ns.map V.str) = decide (i ∈ ns) := by
  unfold inV
  rw [List.any_map, Bool.eq_iff_iff, List.any_eq_true, decide_eq_true_eq]
  constructor
  · rintro ⟨j, hj, h⟩
    have : j = i := by simpa [eqV] using h
    exact this ▸ hj
  · intro h
    exact ⟨i, h, by simp [eqV]⟩
theorem flat_strs' (ns : List Str) : (ns.map V.str).all flatV = true := by
  rw [List.all_eq_true]
  intro v hv
  obtain ⟨i, _, rfl⟩ := List.mem_map.mp hv
  rfl
/-- an int in a list or tuple of ints, a text in a list or tuple of texts -/
@[simp] def gInB (f : Bool → Bool) : D → D → (Res → Prop) → Prop
  | .int i, .list ds, k => ∃ ns, intsOf ds = some ns ∧ k (.fz (.bool (f (decide (i ∈ ns)))))
  | .int i, .tuple ds, k => ∃ ns, intsOf ds = some ns ∧ k (.fz (.bool (f (decide (i ∈ ns)))))
  | .str i, .list ds, k => ∃ ns, strsOf ds = some ns ∧ k (.fz (.bool (f (decide (i ∈ ns)))))
  | .str i, .tuple ds, k => ∃ ns, strsOf ds = some ns ∧ k (.fz (.bool (f (decide (i ∈ ns)))))
  | _, _, _ => False
@[simp] abbrev gIn := gInB fun b => b
@[simp] abbrev gNin := gInB fun b => !b
section
variable {X : Cx}
theorem in_seq {K : PySem.W.Frag} {F H : Hp} {neg : Bool} {f : Bool → Bool} (hf : ∀ b, f b = if neg = true then !b else b) {x y : V} {dx dy : D} {k : Res → Prop} {Q : VK} (se : Ex F H) (hx : RdAt K F H x dx) (hy : RdAt K F H y dy) (g : gInB f dx dy k)
    (fin : ∀ z v F' H', k z → New K F H F' H' v z → Q v H') : rIn K neg x y H Q := by
  have fn : ∀ {v : V} {vs : List V} {b : Bool}, inV v vs = b → k (.fz (.bool (f b))) → Q (.bl (if neg = true then !inV v vs else inV v vs)) H := fun {v vs b} e hk => by
    rw [e, ← hf]
    exact fin _ _ _ _ hk (New.val se (.bl _))
  unfold gInB at g
  split at g
  · obtain ⟨ns, e, g⟩ := g
    cases hx.int
    obtain ⟨a, ys, rfl, h1, h2⟩ := hy.list se
    rw [intsOf_eq e] at h2
    rw [dpAll_ints h2] at h1
    exact ⟨a, _, rfl, .inl (.inl h1), rfl, flat_ints' ns, fn (inV_ints _ _) g⟩
  · obtain ⟨ns, e, g⟩ := g
    cases hx.int
    obtain ⟨a, ys, rfl, h1, h2, _⟩ := hy.tuple
    rw [intsOf_eq e] at h2
    rw [dpAll_ints h2] at h1
    exact ⟨a, _, rfl, .inr (ex_t se h1), rfl, flat_ints' ns, fn (inV_ints _ _) g⟩
  · obtain ⟨ns, e, g⟩ := g
    cases hx.str
    obtain ⟨a, ys, rfl, h1, h2⟩ := hy.list se
    rw [strsOf_eq e] at h2
    rw [dpAll_strs h2] at h1
    exact ⟨a, _, rfl, .inl (.inl h1), rfl, flat_strs' ns, fn (inV_strs _ _) g⟩
  · obtain ⟨ns, e, g⟩ := g
    cases hx.str
    obtain ⟨a, ys, rfl, h1, h2, _⟩ := hy.tuple
    rw [strsOf_eq e] at h2
    rw [dpAll_strs h2] at h1
    exact ⟨a, _, rfl, .inr (ex_t se h1), rfl, flat_strs' ns, fn (inV_strs _ _) g⟩
  · exact g.elim
theorem op_gIn : OpR X (compareOp .In) (r2 X.K gIn) := fun pins s σ H x y v u Q I rx ry ⟨F, dx, dy, k, se, hx, hy, g, fin⟩ =>
  op_in_seq pins s σ H x y v u Q I rx ry (in_seq (fun b => by simp) se hx hy g fin)
theorem op_gNin : OpR X (compareOp .NotIn) (r2 X.K gNin) := fun pins s σ H x y v u Q I rx ry ⟨F, dx, dy, k, se, hx, hy, g, fin⟩ =>
  op_notIn_seq pins s σ H x y v u Q I rx ry (in_seq (fun b => by simp) se hx hy g fin)
/-- data of any depth in a list -/
@[simp] def gInD (f : Bool → Bool) : D → D → (Res → Prop) → Prop
  | d, .list ds, k => Sh d ∧ Sh (.list ds) ∧ k (.fz (.bool (f (ds.any fun z => PyData.eqv z d))))
  | _, _, _ => False
theorem op_gInD (hu : X.A.units + 65 < cLine) : OpR X (compareOp .In) (r2 X.K (gInD fun b => b)) := by
  intro pins s σ H x y v u Q I rx ry ⟨F, dx, dy, k, se, hx, hy, g, fin⟩
  unfold gInD at g
  split at g
  · exact op_inD hu pins s σ H _ _ v u Q I rx ry ⟨_, _, hx.l2 se g.1, hy.l2 se g.2.1, g.1, g.2.1, r2_val se g.2.2 fin (.bl _)⟩
  · exact g.elim
theorem op_gNinD (hu : X.A.units + 65 < cLine) : OpR X (compareOp .NotIn) (r2 X.K (gInD fun b => !b)) := by
  intro pins s σ H x y v u Q I rx ry ⟨F, dx, dy, k, se, hx, hy, g, fin⟩
  unfold gInD at g
  split at g
  · exact op_notInD hu pins s σ H _ _ v u Q I rx ry ⟨_, _, hx.l2 se g.1, hy.l2 se g.2.1, g.1, g.2.1, r2_val se g.2.2 fin (.bl _)⟩
  · exact g.elim
theorem room65 {k : Nat} {A : Around} (r : Room k A) : A.units + 65 < cLine := by have := r.un; omega
theorem room1 {k : Nat} {A : Around} (r : Room k A) : A.units + 1 < cLine := by have := r.un; omega
/-- a sign in a text -/
@[simp] def gInS (f : Bool → Bool) : D → D → (Res → Prop) → Prop
  | .str a, .str z, k => ∃ c, a = ⟨#[c]⟩ ∧ k (.fz (.bool (f (decide (c ∈ z.cps.toList)))))
  | _, _, _ => False
theorem op_gInS : OpR X (compareOp .In) (r2 X.K (gInS fun b => b)) := by
  intro pins s σ H x y v u Q I rx ry ⟨F, dx, dy, k, se, hx, hy, g, fin⟩
  unfold gInS at g
  split at g
  · obtain ⟨c, rfl, g⟩ := g
    cases hx.str; cases hy.str
    exact op_in_sign pins s σ H _ _ v u Q I rx ry ⟨c, _, rfl, rfl, r2_val se g fin (.bl _)⟩
  · exact g.elim
theorem op_gNinS : OpR X (compareOp .NotIn) (r2 X.K (gInS fun b => !b)) := by
  intro pins s σ H x y v u Q I rx ry ⟨F, dx, dy, k, se, hx, hy, g, fin⟩
  unfold gInS at g
  split at g
  · obtain ⟨c, rfl, g⟩ := g
    cases hx.str; cases hy.str
    exact op_notIn_sign pins s σ H _ _ v u Q I rx ry ⟨c, _, rfl, rfl, r2_val se g fin (.bl _)⟩
  · exact g.elim
end
end TL

-- part TL21
/-! TL21: dicts that a slot owns. -/
namespace TL
open PySem PySem.Spec L2
open Evl (Ex ex_l ex_t)
variable [Lay]
/-- the pair of a key -/
def lookD (ps : List (D × D)) (key : D) : Option D := (ps.find? fun p => PyData.eqv p.1 key).map (·.2)
def putD (ps : List (D × D)) (key v : D) : List (D × D) := if (ps.any fun p => PyData.eqv p.1 key) = true then ps.map (fun p => if PyData.eqv p.1 key = true then (p.1, v) else p) else ps ++ [(key, v)]
theorem nb_kD (k : Key) : Nb (kD k) = true := by cases k <;> simp [kD, Nb]
theorem kD_inj {a b : Key} (h : kD a = kD b) : a = b := by
  cases a <;> cases b <;> simp [kD] at h <;> rw [h]
theorem kDs_inj : ∀ {a b : List Key}, a.map kD = b.map kD → a = b
  | [], [], _ => rfl
  | [], _ :: _, h => by simp at h
  | _ :: _, [], h => by simp at h
  | x :: a, y :: b, h => by simp only [List.map_cons, List.cons.injEq] at h; rw [kD_inj h.1, kDs_inj h.2]
theorem nb_kDs (ks : List Key) : Nb (.tuple (ks.map kD)) = true := nb_tuple fun d hd => by
  obtain ⟨k, _, rfl⟩ := List.mem_map.mp hd
  exact nb_kD k
theorem eqv_kD (a b : Key) : PyData.eqv (kD a) (kD b) = decide (a = b) := by
  rw [Bool.eq_iff_iff, eqv_iff (nb_kD a) (nb_kD b), decide_eq_true_eq]
  exact ⟨kD_inj, congrArg kD⟩
theorem eqv_kDs (a b : List Key) : PyData.eqv (.tuple (a.map kD)) (.tuple (b.map kD)) = decide (a = b) := by
  rw [Bool.eq_iff_iff, eqv_iff (nb_kDs a) (nb_kDs b), decide_eq_true_eq, PyData.tuple.injEq]
  exact ⟨kDs_inj, congrArg _⟩
/-- pairs of one list as those of the other; c: a key as data -/
def KVs (K : PySem.W.Frag) (F : Hp) {κ : Type} (c : κ → D) (kvs : List (κ × V)) (ps : List (D × D)) : Prop := Paired (fun (p : κ × V) (q : D × D) => q.1 = c p.1 ∧ Dp K F p.2 q.2) kvs ps
section
variable {K : PySem.W.Frag} {F : Hp} {κ : Type} [DecidableEq κ] {c : κ → D} {kvs : List (κ × V)} {ps : List (D × D)} {k : κ}
theorem KVs.look (hc : ∀ a b, PyData.eqv (c a) (c b) = decide (a = b)) (h : KVs K F c kvs ps) : match lookD ps (c k) with
    | some d => ∃ v, valV kvs k = some v ∧ Dp K F v d
    | none => valV kvs k = none := by
  unfold KVs at h
  induction h with
  | nil => rfl
  | @cons p q ps' qs h t ih =>
    obtain ⟨h1, h2⟩ := h
    unfold lookD valV at ih ⊢
    rw [List.find?_cons, List.find?_cons, h1, hc]
    by_cases e : p.1 = k
    · simp only [e, decide_true]
      exact ⟨_, rfl, h2⟩
    · simp only [e, decide_false]
      exact ih
theorem KVs.put {v : V} {d : D} (hc : ∀ a b, PyData.eqv (c a) (c b) = decide (a = b)) (h : KVs K F c kvs ps) (dv : Dp K F v d) : KVs K F c (putK kvs k v) (putD ps (c k) d) := by
  have an : (kvs.any fun kv => decide (kv.1 = k)) = ps.any fun p => PyData.eqv p.1 (c k) := by
    unfold KVs at h
    induction h with
    | nil => rfl
    | @cons p q ps' qs h t ih => rw [List.any_cons, List.any_cons, ih, h.1, hc]
  have mp : KVs K F c (kvs.map fun kv => if kv.1 = k then (kv.1, v) else kv) (ps.map fun p => if PyData.eqv p.1 (c k) = true then (p.1, d) else p) := by
    clear an
    unfold KVs at h ⊢
    induction h with
    | nil => exact .nil
    | @cons p q ps' qs h t ih =>
      rw [List.map_cons, List.map_cons]
      refine .cons ?_ ih
      rw [h.1, hc]
      by_cases e : p.1 = k
      · simp only [e, decide_true, if_true]
        exact ⟨trivial, dv⟩
      · simp only [e, decide_false, if_false]
        exact h
  unfold putK putD
  rw [an]
  split
  · exact mp
  · unfold KVs at h ⊢
    have ap : ∀ {as : List (κ × V)} {bs : List (D × D)}, Paired (fun (p : κ × V) (q : D × D) => q.1 = c p.1 ∧ Dp K F p.2 q.2) as bs → Paired (fun (p : κ × V) (q : D × D) => q.1 = c p.1 ∧ Dp K F p.2 q.2) (as ++ [(k, v)]) (bs ++ [(c k, d)]) := fun {as bs} h => by
      induction h with
      | nil => exact .cons ⟨rfl, dv⟩ .nil
      | cons h t ih => exact .cons h ih
    exact ap h
theorem KVs.len (h : KVs K F c kvs ps) : kvs.length = ps.length := Paired.length h
end
/-- a key, of an int and text dict; of a tuple dict -/
def keyK (d : D) : Option Key := match d with | .int i => some (.inl i) | .str x => some (.inr x) | _ => none
def keysT : List D → Option (List Key)
  | [] => some []
  | d :: ds => match keyK d, keysT ds with | some k, some ks => some (k :: ks) | _, _ => none
theorem keyK_eq {d : D} {k : Key} (h : keyK d = some k) : d = kD k := by
  unfold keyK at h
  split at h <;> cases h <;> rfl
theorem keysT_eq : ∀ {ds : List D} {ks : List Key}, keysT ds = some ks → ds = ks.map kD
  | [], ks, h => by cases h; rfl
  | d :: ds, ks, h => by
    unfold keysT at h
    split at h
    · rename_i k ks' h1 h2
      cases h
      rw [keyK_eq h1, keysT_eq h2]
      rfl
    · cases h
theorem dp_kD {K : PySem.W.Frag} {F : Hp} {v : V} {k : Key} (h : Dp K F v (kD k)) : v = kV k := by
  cases k with
  | inl i => cases h; rfl
  | inr x => cases h; rfl
theorem dpAll_kD {K : PySem.W.Frag} {F : Hp} : ∀ {vs : List V} {ks : List Key}, DpAll K F vs (ks.map kD) → vs = ks.map kV
  | _, [], .nil => rfl
  | _, k :: ks, .cons h hs => by rw [dp_kD h, dpAll_kD hs]; rfl
/-- the dict at a, of the kind κ, asked at the key dk that lies at y -/
def okKey : Kd → D → Prop
  | .k, d => (keyK d).isSome = true
  | .t, .tuple ds => (keysT ds).isSome = true
  | _, _ => False
theorem dget_at {K : PySem.W.Frag} {F H : Hp} {κ : Kd} {a : Addr} {y : V} {dk : D} {ps : List (D × D)} (hn : κ = .t → Lay.norm) (s : Ex F H) (h : OwAt K F H κ a (.dict ps)) (hy : RdAt K F H y dk) (ok : okKey κ dk) :
    ∃ o, DGet H a y o ∧ match lookD ps dk with
      | some d => ∃ v, o = some v ∧ Dp K F v d
      | none => o = none := by
  cases κ with
  | l => exact ok.elim
  | k =>
    obtain ⟨kvs, _, e, h1, h2⟩ := h
    cases e
    obtain ⟨k, hk⟩ := Option.isSome_iff_exists.mp (show (keyK dk).isSome = true from ok)
    cases keyK_eq hk
    have ey : y = kV k := by
      rcases hy with hy | ⟨κ', b, _, hb⟩
      · exact dp_kD hy
      · cases κ' <;> (obtain ⟨_, _, e, _⟩ := hb; cases k <;> cases e)
    subst ey
    exact ⟨_, DGet.k h1, KVs.look (c := kD) eqv_kD h2⟩
  | t =>
    obtain ⟨kvs, _, e, h1, h2⟩ := h
    cases e
    cases dk with
    | tuple ds =>
      obtain ⟨ks, hk⟩ := Option.isSome_iff_exists.mp (show (keysT ds).isSome = true from ok)
      cases keysT_eq hk
      have ey : ∃ b, y = .ref b ∧ H b = some (.tup (ks.map kV)) := by
        rcases hy with hy | ⟨κ', b, _, hb⟩
        · cases hy with | tup q1 q2 =>
            have q1 := q1.ex (hn rfl)
            rw [dpAll_kD q2] at q1
            exact ⟨_, rfl, s _ _ q1⟩
        · cases κ' <;> (obtain ⟨_, _, e, _⟩ := hb; cases e)
      obtain ⟨b, rfl, hb⟩ := ey
      exact ⟨_, DGet.t h1 hb, KVs.look (c := fun ks : List Key => .tuple (ks.map kD)) eqv_kDs h2⟩
    | _ => exact ok.elim
/-- content of a result that is a dict of the kind κ of the frame's own -/
@[simp] def wk (κ : Kd) (r : Res) (ρ : List Slot) (k : List (D × D) → Prop) : Prop := match r with
  | .tm κ' (.dict ps) => κ' = κ ∧ k ps
  | .bo i => match ρ[i]? with
    | some (.ow _ κ' (.dict ps)) => κ' = κ ∧ k ps
    | _ => False
  | _ => False
theorem wk_ow {K : PySem.W.Frag} {F H H0 : Hp} {σ : L2.St} {ρ : List Slot} {κ : Kd} {v : V} {r : Res} {k : List (D × D) → Prop} (S : Sta K F H σ ρ) (f : Fits K F H σ ρ H0 v r) (h : wk κ r ρ k) : ∃ a ps, v = .ref a ∧ OwAt K F H κ a (.dict ps) ∧ k ps := by
  unfold wk at h
  split at h
  · obtain ⟨rfl, h⟩ := h
    obtain ⟨a, rfl, q, _⟩ := f
    exact ⟨a, _, rfl, q, h⟩
  · rename_i i
    split at h
    · rename_i t κ' ps e
      obtain ⟨rfl, h⟩ := h
      obtain ⟨a, e1, q, _⟩ := S.ow i _ _ _ e
      rw [show σ[i]? = some (some v) from f] at e1
      cases e1
      exact ⟨a, ps, rfl, q, h⟩
    · exact h.elim
  · exact h.elim
section
variable {X : Cx} {o i e : Expr} {do_ di : DTE} {pos : Pos}
@[simp] def dDNew (κ : Kd) : DTE := fun ρ k => k (.tm κ (.dict [])) ρ
theorem new_dict {K : PySem.W.Frag} {F H : Hp} {p : Addr} {κ : Kd} {u : HO} (s : Ex F H) (hp : H p = none) (ho : OwAt K F (upd H p u) κ p (.dict [])) : New K F H F (upd H p u) (.ref p) (.tm κ (.dict [])) := by
  have fp : F p = none := by
    cases e : F p with
    | none => rfl
    | some o => rw [s p o e] at hp; cases hp
  exact ⟨Ex.refl F, Ex.new hp, s.trans (Ex.new hp), fun _ _ h => .inl h, p, rfl, ho, fp, hp⟩
theorem de_dnewK : DE X (.Dict [] [] pos) (dDNew .k) := PE.le pe_dnewK fun σ H Q ⟨F, ρ, k, S, q, fin⟩ => fun p hp => by
  have n := new_dict (K := X.K) (κ := .k) S.sub hp ⟨[], [], rfl, upd_same, .nil⟩
  exact fin _ _ _ _ _ q (n.sta S) n.tr (n.fits S fun _ z => z)
theorem de_dnewT : DE X (.Dict [] [] pos) (dDNew .t) := PE.le pe_dnewT fun σ H Q ⟨F, ρ, k, S, q, fin⟩ => fun p hp => by
  have n := new_dict (K := X.K) (κ := .t) S.sub hp ⟨[], [], rfl, upd_same, .nil⟩
  exact fin _ _ _ _ _ q (n.sta S) n.tr (n.fits S fun _ z => z)
/-- d[k] -/
@[simp] def dDGet (κ : Kd) (do_ di : DTE) : DTE := fun ρ k => do_ ρ fun r ρ1 => di ρ1 fun rk ρ2 => wk κ r ρ2 fun ps => wc rk ρ2 fun dk => okKey κ dk ∧ ∃ d, lookD ps dk = some d ∧ k (.fz d) ρ2
theorem de_dget {κ : Kd} (hn : κ = .t → Lay.norm) (hu : X.A.units + 1 < cLine) (ho : DE X o do_) (hi : DE X i di) (hs : NoSl i := by intro _ _; rfl) : DE X (.Subscript o i pos) (dDGet κ do_ di) :=
  PE.le (pe_dget hu ho hi hs) fun σ H Q ⟨F, ρ, k, S, q, fin⟩ => up2 S q fun x y ρ' v u F' H' q S' T f1 f2 => by
    obtain ⟨a, ps, rfl, h1, q⟩ := wk_ow S' f1 q
    obtain ⟨dk, h2, ok, d, hd, q⟩ := wc_rd S' f2 q
    obtain ⟨ov, g, m⟩ := dget_at hn S'.sub h1 h2 ok
    rw [hd] at m
    obtain ⟨w, rfl, dp⟩ := m
    exact ⟨a, w, rfl, g, fin _ _ _ _ _ q S' T dp⟩
/-- k in d, k not in d -/
@[simp] def dDIn (κ : Kd) (f : Bool → Bool) (di do_ : DTE) : DTE := fun ρ k => di ρ fun rk ρ1 => do_ ρ1 fun r ρ2 => wk κ r ρ2 fun ps => wc rk ρ2 fun dk => okKey κ dk ∧ k (.fz (.bool (f (lookD ps dk).isSome))) ρ2
theorem din_fin {κ : Kd} {K : PySem.W.Frag} (hn : κ = .t → Lay.norm) {f : Bool → Bool} {σ : L2.St} {H : Hp} {Q : VK} (h : up K (dDIn κ f di do_) σ H Q) :
    up K di σ H fun y H1 => up K do_ σ H1 fun x H2 => ∃ a o, x = .ref a ∧ DGet H2 a y o ∧ Q (.bl (f o.isSome)) H2 := by
  obtain ⟨F, ρ, k, S, q, fin⟩ := h
  refine up2 S q fun x y ρ' v u F' H' q S' T f1 f2 => ?_
  obtain ⟨a, ps, rfl, h1, q⟩ := wk_ow S' f2 q
  obtain ⟨dk, h2, ok, q⟩ := wc_rd S' f1 q
  obtain ⟨ov, g, m⟩ := dget_at hn S'.sub h1 h2 ok
  have e : ov.isSome = (lookD ps dk).isSome := by
    cases e : lookD ps dk with
    | none => rw [e] at m; rw [m]; rfl
    | some d => rw [e] at m; obtain ⟨w, rfl, _⟩ := m; rfl
  exact ⟨a, ov, rfl, g, by rw [e]; exact fin _ _ _ _ _ q S' T (.bl _)⟩
theorem de_din {κ : Kd} (hn : κ = .t → Lay.norm) (hu : X.A.units + 1 < cLine) (hi : DE X i di) (ho : DE X o do_) (hm : behindInMarks .In o = false := by first | exact nobehind _ (by decide) (by decide) | rfl) : DE X (.Compare i [.In] [o] pos) (dDIn κ (fun b => b) di do_) :=
  PE.le (pe_cmp (pc_din hu hi ho) hm) fun σ H Q h => din_fin hn h
theorem de_dnin {κ : Kd} (hn : κ = .t → Lay.norm) (hu : X.A.units + 1 < cLine) (hi : DE X i di) (ho : DE X o do_) (hm : behindInMarks .NotIn o = false := by first | exact nobehind _ (by decide) (by decide) | rfl) : DE X (.Compare i [.NotIn] [o] pos) (dDIn κ (fun b => !b) di do_) :=
  PE.le (pe_cmp (pc_dnotin hu hi ho) hm) fun σ H Q h => din_fin hn h
theorem dt_din {κ : Kd} (hn : κ = .t → Lay.norm) (hu : X.A.units + 1 < cLine) (hi : DE X i di) (ho : DE X o do_) (hm : behindInMarks .In o = false := by first | exact nobehind _ (by decide) (by decide) | rfl) : DT X (.Compare i [.In] [o] pos) (dTest (dDIn κ (fun b => b) di do_)) :=
  PT.le (pt_cmp (pc_din hu hi ho) hm) fun σ H Q h => din_fin (f := fun b => b) hn (up_test h)
theorem dt_dnin {κ : Kd} (hn : κ = .t → Lay.norm) (hu : X.A.units + 1 < cLine) (hi : DE X i di) (ho : DE X o do_) (hm : behindInMarks .NotIn o = false := by first | exact nobehind _ (by decide) (by decide) | rfl) : DT X (.Compare i [.NotIn] [o] pos) (dTest (dDIn κ (fun b => !b) di do_)) :=
  PT.le (pt_cmp (pc_dnotin hu hi ho) hm) fun σ H Q h => din_fin (f := fun b => !b) hn (up_test h)
/-- d[k] = v -/
@[simp] def gSetD : Kd → D → D → D → (D → Prop) → Prop
  | κ, .dict ps, dk, v, k => okKey κ dk ∧ ps.length < sizeLine ∧ k (.dict (putD ps dk v))
  | _, _, _, _, _ => False
theorem set_gSetD (hn : Lay.norm) (hu : X.A.units + 1 < cLine) : PSet X (rset X.K gSetD) := by
  intro pins s σ H o i v ov iv u Q I ro ri rv ⟨F, a, κ, d, di, dv, k, se, e, ho, fa, hi, dp, g, fin⟩
  subst e
  unfold gSetD at g
  split at g
  · rename_i ps
    obtain ⟨ok, hl, g⟩ := g
    cases κ with
    | l => exact ok.elim
    | k =>
      obtain ⟨kvs, _, e, h1, h2⟩ := ho
      cases e
      obtain ⟨key, hk⟩ := Option.isSome_iff_exists.mp (show (keyK di).isSome = true from ok)
      cases keyK_eq hk
      have ey : i = kV key := by
        rcases hi with hy | ⟨κ', b, _, hb⟩
        · exact dp_kD hy
        · cases κ' <;> (obtain ⟨_, _, e, _⟩ := hb; cases key <;> cases e)
      subst ey
      have l1 : kvs.length = ps.length := Paired.length h2
      exact set_dict hu pins s σ H _ _ v ov iv u Q I ro ri rv ⟨a, _, rfl, DPut.k h1 (by omega), fin _ _ g (fun b hb => upd_ne hb) ⟨_, _, rfl, upd_same, KVs.put (c := kD) eqv_kD h2 dp⟩⟩
    | t =>
      obtain ⟨kvs, _, e, h1, h2⟩ := ho
      cases e
      cases di with
      | tuple ds =>
        obtain ⟨ks, hk⟩ := Option.isSome_iff_exists.mp (show (keysT ds).isSome = true from ok)
        cases keysT_eq hk
        have ey : ∃ b, i = .ref b ∧ H b = some (.tup (ks.map kV)) := by
          rcases hi with hy | ⟨κ', b, _, hb⟩
          · cases hy with | tup q1 q2 =>
              have q1 := q1.ex hn
              rw [dpAll_kD q2] at q1
              exact ⟨_, rfl, se _ _ q1⟩
          · cases κ' <;> (obtain ⟨_, _, e, _⟩ := hb; cases e)
        obtain ⟨b, rfl, hb⟩ := ey
        have l1 : kvs.length = ps.length := Paired.length h2
        exact set_dict hu pins s σ H _ _ v ov iv u Q I ro ri rv ⟨a, _, rfl, DPut.t h1 hb (by omega), fin _ _ g (fun b hb => upd_ne hb) ⟨_, _, rfl, upd_same, KVs.put (c := fun ks : List Key => .tuple (ks.map kD)) eqv_kDs h2 dp⟩⟩
      | _ => exact ok.elim
  · exact g.elim
end
end TL

-- part TL22
/-! TL22: a, b = x, y where new objects are kept as the slots' own. -/
namespace TL
open PySem PySem.Spec L2
open Evl (Ex ex_l ex_t)
variable [Lay]
@[simp] def slN : Res → (Slot → Prop) → Prop
  | .fz d, k => k (.fz d)
  | .tm κ d, k => k (.ow none κ d)
  | _, _ => False
def dParS (i j : Nat) (da db : DTE) : DTS := fun E ρ => da ρ fun r ρ1 => db ρ1 fun r' ρ2 => slN r fun s => slN r' fun s' => E.nx ((ρ2.set i s).set j s')
section
variable {X : Cx}
theorem ds_parS {i j : Nat} {x y : Str} {a b : Expr} {da db : DTE} {px py pt pos : Pos} {kt k2 pt2} (hc : X.calm = true) (hN : X.N.Nodup) (hi : X.N[i]? = some x) (hj : X.N[j]? = some y) (hij : i ≠ j)
    (hx : X.env.scope.names.lookup x = some .local) (hy : X.env.scope.names.lookup y = some .local) (ha : DE X a da) (hb : DE X b db)
    (hw : swappedStores [.Tuple [.Name x px, .Name y py] kt pt] (.Tuple [a, b] k2 pt2) X.env = pure (some [x, y]))
    (hs : swapsWithSole [.Tuple [.Name x px, .Name y py] kt pt] (.Tuple [a, b] k2 pt2) pos.line X.env = pure false := by rfl)
    (h1 : starEach [a, b] X.env = (false, eval a X.env) :: starEach [b] X.env := by rfl) (h2 : starEach [b] X.env = (false, eval b X.env) :: starEach [] X.env := by rfl) :
    DS X (.Assign [.Tuple [.Name x px, .Name y py] kt pt] (.Tuple [a, b] k2 pt2) pos) (dParS i j da db) := PS.le (ps_par hc hN hi hj hij hx hy (pa_cons ha (pa_cons hb pa_nil h2) h1) hw hs) fun E σ H ⟨F, ρ, G, S, q, f1, f2, f3, f4⟩ => by
  refine ⟨F, ρ, _, S, q, fun r ρ1 v F1 H1 q S1 T1 g1 => ⟨F1, ρ1, _, S1, q, fun r' ρ2 w F2 H2 q S2 T2 g2 => ⟨v, w, rfl, ?_⟩⟩⟩
  have T := T1.trans T2
  have g1' := g1.later T2.toTr
  -- the first
  have st1 : ∃ s, (∀ t, s ≠ Slot.rd t) ∧ slN r' (fun s' => G.nx ((ρ2.set i s).set j s')) ∧ Sta X.K F2 H2 (σ.set i (some v)) (ρ2.set i s) ∧ Tr F H σ ρ F2 H2 (σ.set i (some v)) (ρ2.set i s) ∧ ((∃ t κ d, s = .ow t κ d) → ∀ c, v = .ref c → ∃ o, H1 c = some o) := by
    cases r with
    | fz d =>
      exact ⟨.fz d, fun _ z => (by cases z), q, S2.store (s := .fz d) g1', T.store S2 fun _ h _ => (by obtain ⟨_, _, _, z⟩ := h; cases z), fun h => (by obtain ⟨_, _, _, z⟩ := h; cases z)⟩
    | tm κ d =>
      obtain ⟨c, rfl, ho, hn, hoa, hz⟩ := g1'
      obtain ⟨c', e', ho1, _⟩ := g1
      cases e'
      refine ⟨.ow none κ d, fun _ z => (by cases z), q, S2.store (s := .ow none κ d) ⟨rfl, c, rfl, ho, hn, hoa, fun j d' hj hs => ?_⟩, T.store S2 fun b' _ e => (by cases e; exact hz), fun _ c2 e => (by cases e; exact ho1.some)⟩
      rcases T.slrd j d' hj with y | ⟨t, κ', d0, y⟩
      · obtain ⟨w', h1, h2⟩ := S.rd j d' y
        rw [hs] at h1
        cases h1
        rcases h2 with h2 | ⟨κ', b', e, h2, _⟩
        · exact dp_mono T.fext h2
        · cases e
          obtain ⟨o', ho'⟩ := h2.some
          rw [hz] at ho'; cases ho'
      · obtain ⟨b', h1, h2, _⟩ := S.ow j t κ' d0 y
        rw [hs] at h1
        cases h1
        obtain ⟨o', ho'⟩ := h2.some
        rw [hz] at ho'; cases ho'
    | rd d => exact q.elim
    | bo i => exact q.elim
  obtain ⟨s, hsr, q, S3, T3, own⟩ := st1
  cases r' with
  | fz d =>
    have S4 := S3.store (i := j) (v := w) (s := .fz d) g2
    refine f1 _ _ _ _ q S4 ⟨T3.fext, T3.keep, T3.there, fun b' z => ?_, T3.fnew⟩
    rcases oa_store S3 b' z with y | ⟨⟨_, _, _, y⟩, _⟩
    · exact T3.own b' y
    · cases y
  | tm κ d =>
    obtain ⟨c, rfl, ho, hn, hoa, hz⟩ := g2
    have n3 : ¬ OA (σ.set i (some v)) (ρ2.set i s) c := fun z => by
      rcases oa_store S2 c z with y | ⟨y, e⟩
      · exact hoa y
      · obtain ⟨o, h⟩ := own y c e
        rw [hz] at h; cases h
    have S4 := S3.store (i := j) (v := .ref c) (s := .ow none κ d) ⟨rfl, c, rfl, ho, hn, n3, fun l d' hl hs => ?_⟩
    · refine f1 _ _ _ _ q S4 ⟨T3.fext, T3.keep, T3.there, fun b' z => ?_, T3.fnew⟩
      rcases oa_store S3 b' z with y | ⟨_, e⟩
      · exact T3.own b' y
      · cases e
        exact .inr (T1.none hz)
    · rcases get_sets hl with ⟨_, y⟩ | ⟨ne, y⟩
      · exact absurd y.symm (hsr d')
      · rw [List.getElem?_set_ne ne] at hs
        rcases T2.slrd l d' y with y | ⟨t, κ', d0, y⟩
        · obtain ⟨w', h1, h2⟩ := S1.rd l d' y
          rw [hs] at h1
          cases h1
          rcases h2 with h2 | ⟨κ', b', e, h2, _⟩
          · exact dp_mono T2.fext h2
          · cases e
            obtain ⟨o', ho'⟩ := h2.some
            rw [hz] at ho'; cases ho'
        · obtain ⟨b', h1, h2, _⟩ := S1.ow l t κ' d0 y
          rw [hs] at h1
          cases h1
          obtain ⟨o', ho'⟩ := h2.some
          rw [hz] at ho'; cases ho'
  | rd d => exact q.elim
  | bo i => exact q.elim
end
end TL

-- part Scm
/-! Scm: what the laws' common helpers promise. -/
namespace TL.cm
open PySem PySem.Spec L2
variable [Lay]
/-- ints as a list -/
def IL (ns : List Int) : D := .list (ns.map .int)
/-- the box of draws -/
def BoxD (d : D) : Prop := ∃ (r : List Int) (n : Int), d = .list [.list (r.map .int), .int n] ∧ r ≠ [] ∧ 0 ≤ n
@[simp] abbrev m__law_cell : List Md := [.fz, .fz]
def t__law_cell : TSp := fun ds k => ∃ ns i, ds = [scrD ns, .int i] ∧ 0 ≤ i ∧ ∀ n : Int, k (.fz (.int n)) []
@[simp] abbrev m__law_digits : List Md := [.fz, .fz, .fz]
def t__law_digits : TSp := fun ds k => ∃ ns a b, ds = [scrD ns, .int a, .int b] ∧ 0 ≤ a ∧ a < b ∧ b ≤ 1000 ∧ ∀ r : List Int, (∀ x ∈ r, 0 ≤ x ∧ x < 1000) → r ≠ [] → k (.tm .l (.list (r.map .int))) []
@[simp] abbrev m__law_draw : List Md := [.io .l, .fz]
def t__law_draw : TSp := fun ds k => ∃ b many, ds = [b, .int many] ∧ BoxD b ∧ 0 < many ∧ ∀ (x : Int) b', 0 ≤ x → x < many → BoxD b' → k (.fz (.int x)) [b']
@[simp] abbrev m__law_pick : List Md := [.io .l, .rd]
def t__law_pick : TSp := fun ds k => ∃ b row, (ds = [b, .list row] ∨ ds = [b, .tuple row]) ∧ BoxD b ∧ row ≠ [] ∧ ∀ x b', x ∈ row → BoxD b' → k (.fz x) [b']
/-- data that _law_same may be told twice -/
def Sm : Nat → D → Prop
  | _, .none => True
  | _, .bool _ => True
  | _, .int i => i.natAbs.log2 < 1920
  | _, .str z => (reprText z).length ≤ sizeLine
  | n + 1, .list ds => ds.length ≤ sizeLine ∧ ∀ d ∈ ds, Sm n d
  | n + 1, .tuple ds => ds.length ≤ sizeLine ∧ ∀ d ∈ ds, Sm n d
  | _, _ => False
@[simp] abbrev m__law_same : List Md := [.rd, .rd]
def u__law_same (n : Nat) : TSp := fun ds k => ∃ d, ds = [d, d] ∧ Sm n d ∧ k (.fz (.bool true)) []
def t__law_same : TSp := fun ds k => ∃ d, ds = [d, d] ∧ Sm 9 d ∧ k (.fz (.bool true)) []
@[simp] abbrev m__law_mixed : List Md := [.io .l, .rd]
def t__law_mixed : TSp := fun ds k => ∃ b row, ds = [b, .list row] ∧ BoxD b ∧ row.length ≤ 1000 ∧ ∀ r b', List.Perm r row → BoxD b' → k (.tm .l (.list r)) [b']
end TL.cm

-- part TL23
/-! TL23: loops and comprehensions over typed items. -/
namespace TL
open PySem PySem.Spec L2
variable [Lay]
section
variable {g : DTG} {s : DTS} {E : DEnds} {t : DTT} {tt : DTT} {te : DTE} {src : List (Nat × D)} {vs : List Nat} {k : List D → List Slot → Prop} {ρ : List Slot}
theorem loop_map {α : Type} {l : List α} {c : α → D} (I : List α → List α → List Slot → Prop) (h0 : I [] l ρ) (hend : ∀ ρ, I l [] ρ → E.nx ρ)
    (step : ∀ done x rest ρ (kk : List Slot → Prop), l = done ++ x :: rest → I done (x :: rest) ρ → (∀ ρ', I (done ++ [x]) rest ρ' → kk ρ') → g (c x) ρ fun ρ1 => s { nx := kk, rt := E.rt, bk := E.nx, ct := kk } ρ1) : dLoop g s E (l.map c) ρ := by
  have key : ∀ rest done ρ, l = done ++ rest → I done rest ρ → dLoop g s E (rest.map c) ρ := fun rest => by
    induction rest with
    | nil => intro done ρ e h; rw [List.append_nil] at e; subst e; exact hend ρ h
    | cons d rest ih => exact fun done ρ e h => step done d rest ρ _ e h fun ρ' h' => ih (done ++ [d]) ρ' (by rw [e]; simp) h'
  exact key l [] ρ rfl h0
/-- .. by places -/
theorem loop_at {α : Type} {l : List α} {c : α → D} (I : Nat → List Slot → Prop) (h0 : I 0 ρ) (hend : ∀ ρ, I l.length ρ → E.nx ρ)
    (step : ∀ (i : Nat) x ρ (kk : List Slot → Prop), l[i]? = some x → I i ρ → (∀ ρ', I (i + 1) ρ' → kk ρ') → g (c x) ρ fun ρ1 => s { nx := kk, rt := E.rt, bk := E.nx, ct := kk } ρ1) : dLoop g s E (l.map c) ρ :=
  loop_map (fun done _ => I done.length) h0 hend fun done x rest ρ kk e h n => step done.length x ρ kk (by rw [e]; simp) h fun ρ' h' => n ρ' (by simpa using h')
theorem loop_mem {α : Type} {l : List α} {c : α → D} (I : List Slot → Prop) (h0 : I ρ) (hend : ∀ ρ, I ρ → E.nx ρ)
    (step : ∀ x ρ (kk : List Slot → Prop), x ∈ l → I ρ → (∀ ρ', I ρ' → kk ρ') → g (c x) ρ fun ρ1 => s { nx := kk, rt := E.rt, bk := E.nx, ct := kk } ρ1) : dLoop g s E (l.map c) ρ :=
  loop_map (fun _ _ => I) h0 hend fun done x rest ρ kk e h n => step x ρ kk (by rw [e]; simp) h n
theorem range0_map (n : Nat) : rangeD 0 1 n = (List.range n).map fun i : Nat => PyData.int (i : Int) := by
  rw [range_map]
  simp
theorem range1_map (lo : Nat) (n : Nat) : rangeD (lo : Int) 1 n = (List.range' lo n).map fun i : Nat => PyData.int (i : Int) := by
  rw [range_map, List.range'_eq_map_range, List.map_map]
  refine List.map_congr_left fun i _ => ?_
  show PyData.int ((lo : Int) + (i : Int)) = PyData.int ((lo + i : Nat) : Int)
  rw [Int.natCast_add]
/-- for i in range(n) -/
theorem loop_rg {n : Nat} (I : Nat → List Slot → Prop) (h0 : I 0 ρ) (hend : ∀ ρ, I n ρ → E.nx ρ)
    (step : ∀ (i : Nat) ρ (kk : List Slot → Prop), i < n → I i ρ → (∀ ρ', I (i + 1) ρ' → kk ρ') → g (.int (i : Int)) ρ fun ρ1 => s { nx := kk, rt := E.rt, bk := E.nx, ct := kk } ρ1) : dLoop g s E (rangeD 0 1 n) ρ := by
  rw [range0_map]
  refine loop_at I h0 (fun ρ h => hend ρ (by simpa using h)) fun i x ρ kk hx h nx => ?_
  have hi : i < n := by
    have := (List.getElem?_eq_some_iff.mp hx).1
    simpa using this
  rw [List.getElem?_range hi] at hx
  cases hx
  exact step i ρ kk hi h nx
theorem enum_map {α : Type} (c : α → D) (l : List α) : enumD 0 (l.map c) = (l.zipIdx 0).map fun p => PyData.tuple [.int (p.2 : Int), c p.1] := enumD_map c l 0
/-- for i, x in enumerate(l) -/
theorem loop_en {α : Type} {l : List α} {c : α → D} (I : Nat → List Slot → Prop) (h0 : I 0 ρ) (hend : ∀ ρ, I l.length ρ → E.nx ρ)
    (step : ∀ (i : Nat) x ρ (kk : List Slot → Prop), l[i]? = some x → I i ρ → (∀ ρ', I (i + 1) ρ' → kk ρ') → g (.tuple [.int (i : Int), c x]) ρ fun ρ1 => s { nx := kk, rt := E.rt, bk := E.nx, ct := kk } ρ1) : dLoop g s E (enumD 0 (l.map c)) ρ := by
  rw [enum_map]
  refine loop_at I h0 (fun ρ h => hend ρ (by simpa using h)) fun i x ρ kk hx h nx => ?_
  rw [List.getElem?_zipIdx] at hx
  cases hl : l[i]? with
  | none => rw [hl] at hx; cases hx
  | some y =>
    rw [hl] at hx
    simp at hx
    subst hx
    exact step i y ρ kk hl h nx
/-- [.. for i in range(n) if p i] -/
theorem comp_rg {n : Nat} (p : Nat → Bool) (f : Nat → D) (hl : n ≤ sizeLine) (hs : stl src ρ)
    (step : ∀ i, i < n → ∀ (kk : D → List Slot → Prop) (kn : List Slot → Prop), (p i = true → kk (f i) ρ) → (p i = false → kn ρ) → g (.int (i : Int)) ρ fun ρ1 => tt ρ1 fun b ρ2 => if b = true then te ρ2 fun r ρ3 => fzR r ρ3 fun v ρ4 => kk v (wipeR ρ4 vs) else kn (wipeR ρ2 vs))
    (fin : k (((List.range n).filter p).map f) ρ) : dCompL g tt te src vs k (rangeD 0 1 n) [] ρ :=
  comp_of (range0_map n) p f (by simpa using hl) hs (fun i hi => step i (List.mem_range.mp hi)) fin
theorem filter_true {α : Type} (l : List α) : l.filter (fun _ => true) = l := List.filter_eq_self.mpr fun _ _ => rfl
/-- [.. for i in range(n)] -/
theorem comp_rgA {n : Nat} (f : Nat → D) (hl : n ≤ sizeLine) (hs : stl src ρ)
    (step : ∀ i, i < n → ∀ (kk : D → List Slot → Prop), kk (f i) ρ → g (.int (i : Int)) ρ fun ρ1 => te ρ1 fun r ρ3 => fzR r ρ3 fun v ρ4 => kk v (wipeR ρ4 vs))
    (fin : k ((List.range n).map f) ρ) : dCompL g dYes te src vs k (rangeD 0 1 n) [] ρ :=
  comp_rg (fun _ => true) f hl hs (fun i hi kk kn h _ => step i hi kk (h rfl)) (by rw [filter_true]; exact fin)
/-- [.. for x in l] -/
theorem comp_mapA {α : Type} {l : List α} {c : α → D} (f : α → D) (hl : l.length ≤ sizeLine) (hs : stl src ρ)
    (step : ∀ x, x ∈ l → ∀ (kk : D → List Slot → Prop), kk (f x) ρ → g (c x) ρ fun ρ1 => te ρ1 fun r ρ3 => fzR r ρ3 fun v ρ4 => kk v (wipeR ρ4 vs))
    (fin : k (l.map f) ρ) : dCompL g dYes te src vs k (l.map c) [] ρ :=
  comp_of rfl (fun _ => true) f hl hs (fun x hx kk kn h _ => step x hx kk (h rfl)) (by rw [filter_true]; exact fin)
/-- [.. for x in l if p x] -/
theorem comp_map {α : Type} {l : List α} {c : α → D} (p : α → Bool) (f : α → D) (hl : l.length ≤ sizeLine) (hs : stl src ρ)
    (step : ∀ x, x ∈ l → ∀ (kk : D → List Slot → Prop) (kn : List Slot → Prop), (p x = true → kk (f x) ρ) → (p x = false → kn ρ) → g (c x) ρ fun ρ1 => tt ρ1 fun b ρ2 => if b = true then te ρ2 fun r ρ3 => fzR r ρ3 fun v ρ4 => kk v (wipeR ρ4 vs) else kn (wipeR ρ2 vs))
    (fin : k ((l.filter p).map f) ρ) : dCompL g tt te src vs k (l.map c) [] ρ := comp_of rfl p f hl hs step fin
/-- [.. for i, x in enumerate(l) if p i x] -/
theorem comp_en {α : Type} {l : List α} {c : α → D} (p : α × Nat → Bool) (f : α × Nat → D) (hl : l.length ≤ sizeLine) (hs : stl src ρ)
    (step : ∀ (i : Nat) x, l[i]? = some x → ∀ (kk : D → List Slot → Prop) (kn : List Slot → Prop), (p (x, i) = true → kk (f (x, i)) ρ) → (p (x, i) = false → kn ρ) → g (.tuple [.int (i : Int), c x]) ρ fun ρ1 => tt ρ1 fun b ρ2 => if b = true then te ρ2 fun r ρ3 => fzR r ρ3 fun v ρ4 => kk v (wipeR ρ4 vs) else kn (wipeR ρ2 vs))
    (fin : k (((l.zipIdx 0).filter p).map f) ρ) : dCompL g tt te src vs k (enumD 0 (l.map c)) [] ρ := by
  refine comp_of (enum_map c l) p f (by simpa using hl) hs (fun q hq => ?_) fin
  obtain ⟨x, i⟩ := q
  exact step i x (by simpa using List.mem_zipIdx_iff_getElem?.mp hq)
theorem comp_enA {α : Type} {l : List α} {c : α → D} (f : α × Nat → D) (hl : l.length ≤ sizeLine) (hs : stl src ρ)
    (step : ∀ (i : Nat) x, l[i]? = some x → ∀ (kk : D → List Slot → Prop), kk (f (x, i)) ρ → g (.tuple [.int (i : Int), c x]) ρ fun ρ1 => te ρ1 fun r ρ3 => fzR r ρ3 fun v ρ4 => kk v (wipeR ρ4 vs))
    (fin : k ((l.zipIdx 0).map f) ρ) : dCompL g dYes te src vs k (enumD 0 (l.map c)) [] ρ :=
  comp_en (fun _ => true) f hl hs (fun i x hx kk kn h _ => step i x hx kk (h rfl)) (by rw [filter_true]; exact fin)
/-- while True -/
theorem wtrue_ind {ρ : List Slot} (I : Nat → List Slot → Prop) (h0 : ∃ m, I m ρ)
    (step : ∀ m ρ (kk : List Slot → Prop), I m ρ → (∀ ρ' m', m' < m → I m' ρ' → kk ρ') → s { nx := kk, rt := E.rt, bk := E.nx, ct := kk } ρ) : dWhile (dTest (dC (.bool true))) s E ρ :=
  while_ind I h0 fun m ρ kk h n => by
    show if true = true then s { nx := kk, rt := E.rt, bk := E.nx, ct := kk } ρ else E.nx ρ
    rw [if_pos rfl]
    exact step m ρ kk h n
theorem at_map {α : Type} {l : List α} {c : α → D} {i : Nat} {x : α} (h : l[i]? = some x) : atI (l.map c) (i : Int) = some (c x) :=
  atI_of (by omega) (by rw [Int.toNat_natCast, List.getElem?_map, h]; rfl)
end
end TL

-- part TL24
/-! TL24: plain words: lists, first places, greatest ones, dicts by their keys. -/
namespace TL
open PySem PySem.Spec L2
variable [Lay]
theorem snoc_ind {α : Type} {P : List α → Prop} (h0 : P []) (h1 : ∀ l x, P l → P (l ++ [x])) (l : List α) : P l := by
  have key : ∀ m : List α, P m.reverse := fun m => by
    induction m with
    | nil => exact h0
    | cons x m ih => rw [List.reverse_cons]; exact h1 _ x ih
  simpa using key l.reverse
theorem first_ix {α : Type} [DecidableEq α] : ∀ {ns : List α} {x : α}, x ∈ ns → ∃ j : Nat, ns[j]? = some x ∧ ∀ m : Nat, m < j → ns[m]? ≠ some x
  | y :: ns, x, h => by
    by_cases e : y = x
    · exact ⟨0, by rw [e]; rfl, fun m hm => by omega⟩
    · obtain ⟨j, h1, h2⟩ := first_ix (ns := ns) (x := x) ((List.mem_cons.mp h).resolve_left fun z => e z.symm)
      refine ⟨j + 1, by simpa using h1, fun m hm => ?_⟩
      cases m with
      | zero => simpa using e
      | succ m => simpa using h2 m (by omega)
theorem has_max : ∀ {ns : List Int}, ns ≠ [] → ∃ M, M ∈ ns ∧ ∀ y, y ∈ ns → y ≤ M
  | [x], _ => ⟨x, by simp, fun y hy => by simp at hy; omega⟩
  | x :: z :: ns, _ => by
    obtain ⟨M, h1, h2⟩ := has_max (ns := z :: ns) (by simp)
    by_cases h : x ≤ M
    · refine ⟨M, List.mem_cons_of_mem _ h1, fun y hy => ?_⟩
      rcases List.mem_cons.mp hy with rfl | hy
      · exact h
      · exact h2 y hy
    · refine ⟨x, by simp, fun y hy => ?_⟩
      rcases List.mem_cons.mp hy with rfl | hy
      · omega
      · have := h2 y hy; omega
theorem has_min : ∀ {ns : List Int}, ns ≠ [] → ∃ M, M ∈ ns ∧ ∀ y, y ∈ ns → M ≤ y
  | [x], _ => ⟨x, by simp, fun y hy => by simp at hy; omega⟩
  | x :: z :: ns, _ => by
    obtain ⟨M, h1, h2⟩ := has_min (ns := z :: ns) (by simp)
    by_cases h : M ≤ x
    · refine ⟨M, List.mem_cons_of_mem _ h1, fun y hy => ?_⟩
      rcases List.mem_cons.mp hy with rfl | hy
      · exact h
      · exact h2 y hy
    · refine ⟨x, by simp, fun y hy => ?_⟩
      rcases List.mem_cons.mp hy with rfl | hy
      · omega
      · have := h2 y hy; omega
theorem eqv_inj {α : Type} [DecidableEq α] {c : α → D} (nb : ∀ a, Nb (c a) = true) (inj : ∀ a b, c a = c b → a = b) (a b : α) : PyData.eqv (c a) (c b) = decide (a = b) := by
  by_cases h : a = b
  · subst h
    rw [decide_eq_true rfl]
    exact eqv_self (nb a)
  · rw [decide_eq_false h]
    exact Bool.eq_false_iff.mpr fun z => h (inj a b ((eqv_iff (nb a) (nb b)).mp z))
section
variable {α : Type} [DecidableEq α] {c : α → D} (hc : ∀ a b, PyData.eqv (c a) (c b) = decide (a = b))
/-- a dict by its keys -/
def dcD (c : α → D) (m : List (α × D)) : List (D × D) := m.map fun p => (c p.1, p.2)
def dget (m : List (α × D)) (a : α) : Option D := (m.find? fun p => decide (p.1 = a)).map (·.2)
def dput (m : List (α × D)) (a : α) (v : D) : List (α × D) := if (m.any fun p => decide (p.1 = a)) = true then m.map (fun p => if p.1 = a then (p.1, v) else p) else m ++ [(a, v)]
include hc in
theorem look_dc (m : List (α × D)) (a : α) : lookD (dcD c m) (c a) = dget m a := by
  unfold lookD dcD dget
  rw [List.find?_map]
  have : ((fun p : D × D => PyData.eqv p.1 (c a)) ∘ fun p : α × D => (c p.1, p.2)) = fun p => decide (p.1 = a) := by
    funext p
    exact hc p.1 a
  rw [this]
  cases m.find? fun p => decide (p.1 = a) <;> rfl
include hc in
theorem put_dc (m : List (α × D)) (a : α) (v : D) : putD (dcD c m) (c a) v = dcD c (dput m a v) := by
  unfold putD dcD dput
  rw [List.any_map]
  have : ((fun p : D × D => PyData.eqv p.1 (c a)) ∘ fun p : α × D => (c p.1, p.2)) = fun p => decide (p.1 = a) := by
    funext p
    exact hc p.1 a
  rw [this]
  by_cases h : (m.any fun p => decide (p.1 = a)) = true
  · rw [if_pos h, if_pos h, List.map_map, List.map_map]
    refine List.map_congr_left fun p _ => ?_
    show (if PyData.eqv (c p.1) (c a) = true then (c p.1, v) else (c p.1, p.2)) = _
    rw [hc]
    by_cases e : p.1 = a
    · simp [e]
    · simp [e]
  · rw [if_neg h, if_neg h]
    simp
theorem dget_none {m : List (α × D)} {a : α} : dget m a = none ↔ a ∉ m.map (·.1) := by
  unfold dget
  rw [Option.map_eq_none_iff, List.find?_eq_none]
  constructor
  · intro h z
    obtain ⟨p, hp, rfl⟩ := List.mem_map.mp z
    exact h p hp (by simp)
  · intro h p hp z
    exact h (List.mem_map.mpr ⟨p, hp, by simpa using z⟩)
theorem dput_new {m : List (α × D)} {a : α} {v : D} (h : a ∉ m.map (·.1)) : dput m a v = m ++ [(a, v)] := by
  unfold dput
  rw [if_neg]
  intro z
  obtain ⟨p, hp, e⟩ := List.any_eq_true.mp z
  exact h (List.mem_map.mpr ⟨p, hp, by simpa using e⟩)
theorem dput_keys (m : List (α × D)) (a : α) (v : D) : (dput m a v).map (·.1) = if a ∈ m.map (·.1) then m.map (·.1) else m.map (·.1) ++ [a] := by
  by_cases h : a ∈ m.map (·.1)
  · rw [if_pos h]
    unfold dput
    rw [if_pos (by
      obtain ⟨p, hp, e⟩ := List.mem_map.mp h
      exact List.any_eq_true.mpr ⟨p, hp, by simpa using e⟩), List.map_map]
    refine List.map_congr_left fun p _ => ?_
    show (if p.1 = a then (p.1, v) else p).1 = p.1
    split <;> rfl
  · rw [if_neg h, dput_new h]
    simp
theorem dget_put (m : List (α × D)) (a b : α) (v : D) : dget (dput m a v) b = if a = b then some v else dget m b := by
  by_cases h : a ∈ m.map (·.1)
  · have ha : (m.any fun p => decide (p.1 = a)) = true := by
      obtain ⟨p, hp, e⟩ := List.mem_map.mp h
      exact List.any_eq_true.mpr ⟨p, hp, by simpa using e⟩
    unfold dput
    rw [if_pos ha]
    clear h
    induction m with
    | nil => simp at ha
    | cons p m ih =>
      unfold dget at ih ⊢
      simp only [List.map_cons, List.find?_cons]
      by_cases e : p.1 = a
      · by_cases e2 : p.1 = b
        · have : a = b := e.symm.trans e2
          simp [e, this]
        · have : a ≠ b := fun z => e2 (e.trans z)
          simp only [if_pos e, if_neg this, decide_eq_false e2]
          by_cases hm : (m.any fun p => decide (p.1 = a)) = true
          · rw [ih hm, if_neg this]
          · congr 1
            have : m.map (fun p => if p.1 = a then (p.1, v) else p) = m := by
              rw [List.map_congr_left (g := id), List.map_id]
              intro q hq
              rw [if_neg]
              · rfl
              · intro z
                exact hm (List.any_eq_true.mpr ⟨q, hq, by simpa using z⟩)
            rw [this]
      · have hm : (m.any fun p => decide (p.1 = a)) = true := by
          rw [List.any_cons, decide_eq_false e, Bool.false_or] at ha
          exact ha
        simp only [if_neg e]
        by_cases e2 : p.1 = b
        · have : a ≠ b := fun z => e (e2.trans z.symm)
          simp [e2, this]
        · simp only [decide_eq_false e2]
          exact ih hm
  · rw [dput_new h]
    unfold dget
    rw [List.find?_append]
    by_cases e : a = b
    · subst e
      rw [if_pos rfl]
      have := (dget_none (m := m) (a := a)).mpr h
      unfold dget at this
      rw [Option.map_eq_none_iff] at this
      rw [this]
      simp
    · rw [if_neg e]
      cases hf : m.find? fun p => decide (p.1 = b) with
      | none => simp [e]
      | some p => simp
end
end TL

-- part TL34
/-! TL34 (built before TL25): the entry of a lambda whose parameter may be a cell. -/
namespace TL
open PySem PySem.Spec L2
open Evl (Ex ex_l ex_t)
def ownC (sc : Scope) : List (Str × NameKind) := sc.names.filter fun y => y.2 == NameKind.cell
/-- a lambda's scope: one parameter, local or a cell; captured names -/
structure LScope (N : List Str) (x : Str) (fr : List Str) (sc : Scope) : Prop where
  kind : sc.kind = .function
  co : sc.isCoroutine = false
  gen : sc.isGenerator = false
  nd : N.Nodup
  pre : N.take (1 + fr.length) = x :: fr
  one : (ownC sc = [] ∧ sc.names.lookup x = some .local) ∨ (ownC sc = [(x, .cell)] ∧ sc.names.lookup x = some .cell)
  free : ∀ y ∈ sc.names, y.2 = .free → y.1 ∈ fr
  frk : ∀ y ∈ fr, sc.names.lookup y = some .free
def lscB (N : List Str) (x : Str) (fr : List Str) (sc : Scope) : Bool :=
  decide (sc.kind = .function) && !sc.isCoroutine && !sc.isGenerator && decide N.Nodup && decide (N.take (1 + fr.length) = x :: fr) && ((decide (ownC sc = []) && decide (sc.names.lookup x = some .local)) || (decide (ownC sc = [(x, .cell)]) && decide (sc.names.lookup x = some .cell)))
    && sc.names.all (fun y => !decide (y.2 = .free) || decide (y.1 ∈ fr)) && fr.all (fun y => decide (sc.names.lookup y = some .free))
theorem lscope_by {N fr : List Str} {x : Str} {sc : Scope} (h : lscB N x fr sc = true) : LScope N x fr sc := by
  unfold lscB at h
  simp only [Bool.and_eq_true, Bool.not_eq_true', decide_eq_true_eq, List.all_eq_true, Bool.or_eq_true, decide_eq_false_iff_not] at h
  obtain ⟨⟨⟨⟨⟨⟨⟨h1, h2⟩, h3⟩, h4⟩, h5⟩, h6⟩, h7⟩, h8⟩ := h
  exact ⟨h1, h2, h3, h4, h5, h6, fun y hy e => (h7 y hy).elim (fun z => absurd e z) id, h8⟩
theorem cells_nil : ∀ {names : List (Str × NameKind)} (n : Nat) (h : Heap) (acc : List (Str × Addr)), (names.filter fun y => y.2 == NameKind.cell) = [] → cellsFrom n names acc = acc ∧ pushCells h names = h
  | [], _, _, _, _ => ⟨rfl, rfl⟩
  | (nm, k) :: r, n, h, acc, e => by
    rw [List.filter_cons] at e
    split at e
    · cases e
    · rename_i hk
      have hk : (k == NameKind.cell) = false := by simpa using hk
      unfold cellsFrom pushCells
      rw [hk]
      exact cells_nil n h acc e
theorem cells_one : ∀ {names : List (Str × NameKind)} {x : Str} (n : Nat) (h : Heap) (acc : List (Str × Addr)), (names.filter fun y => y.2 == NameKind.cell) = [(x, .cell)] →
    cellsFrom n names acc = (x, n) :: acc ∧ pushCells h names = h.push { cls := .type "cell", data := .cell none }
  | [], _, _, _, _, e => by cases e
  | (nm, k) :: r, x, n, h, acc, e => by
    rw [List.filter_cons] at e
    split at e
    · rename_i hk
      have hk : (k == NameKind.cell) = true := hk
      injection e with e1 e2
      cases e1
      unfold cellsFrom pushCells
      rw [hk]
      exact cells_nil (n + 1) _ _ e2
    · rename_i hk
      have hk : (k == NameKind.cell) = false := by simpa using hk
      unfold cellsFrom pushCells
      rw [hk]
      exact cells_one n h acc e
abbrev lamEnv (F : NdefX.NF) (f L : Addr) : Env := PySem.W.envX F.qual F.scope L f (.ref F.c) (cellsFrom (L + 1) F.scope.names F.cl)
/-- the environment of a lambda is made -/
theorem lam_enter {M : Model} {A : Around} {E : Value → Shared → Prop} {s : Shared} {N fr : List Str} {x : Str} {F : NdefX.NF} {f : Addr} {u : Value} {Q : Env → Shared → Prop} (S : LScope N x fr F.scope)
    (h : ∀ (h' : Heap) (tk : Nat) (m : Str → Option Value), h'.Ns s.heap.objs.size m → (∀ b o, s.heap.get? b = some o → h'.get? b = some o) → (F.scope.names.lookup x = some .local → m x = some u) → (F.scope.names.lookup x = some .cell → h'.IsCell (s.heap.objs.size + 1) (some u)) →
      Q (lamEnv F f s.heap.objs.size) { s with heap := h', toks := tk }) :
    wpAny M A (newFunctionEnv F.scope mainGlobals F.cl [(x, u)] (F.qual ++ ".<locals>.") (some f) (.ref F.c) none builtinsNs) Q E s := by
  rcases S.one with ⟨ho, hx⟩ | ⟨ho, hx⟩
  · have nc : ∀ y ∈ F.scope.names, y.2 ≠ .cell := fun y hy e => by
      have : y ∈ ownC F.scope := List.mem_filter.mpr ⟨hy, by rw [e]; rfl⟩
      rw [ho] at this; cases this
    refine wpAny_newFunctionEnv nc (fun y hy => by rw [List.mem_singleton.mp hy]; exact hx) (fun h₁ hns hsb => ?_) S.kind
    have e := (cells_nil (s.heap.objs.size + 1) s.heap F.cl ho).1
    show Q (PySem.W.envX F.qual F.scope s.heap.objs.size f (.ref F.c) F.cl) _
    rw [show PySem.W.envX F.qual F.scope s.heap.objs.size f (.ref F.c) F.cl = lamEnv F f s.heap.objs.size by unfold lamEnv; rw [e]]
    refine h _ _ _ hns (fun b o e => hsb.extBut b o (Nat.ne_of_lt (Heap.lt_size e)) (Heap.get?_push_of_some _ e)) (fun _ => by simp [List.lookup_cons]) fun z => by rw [hx] at z; cases z
  · simp only [newFunctionEnv, Option.isSome_none, Bool.false_eq_true, if_false]
    refine wpAny_bind (wpAny_alloc ?_)
    refine wpAny_bind (wpAny_layCells _ (fun name kind cells => by cases hkc : kind == NameKind.cell <;> simp [hkc]) _ _ _ _ ?_)
    have ec := cells_one (s.heap.objs.size + 1) (s.heap.push { cls := .type "frame", data := .dict #[] }) F.cl ho
    rw [show ({ s with heap := s.heap.push { cls := .type "frame", data := .dict #[] } } : Shared).heap.objs.size = s.heap.objs.size + 1 from Heap.size_push ..]
    have hcell : (pushCells (s.heap.push { cls := .type "frame", data := .dict #[] }) F.scope.names).IsCell (s.heap.objs.size + 1) none := by
      rw [ec.2]
      have z := Heap.get?_push_size (s.heap.push { cls := .type "frame", data := .dict #[] }) (o := ({ cls := .type "cell", data := .cell none } : Obj)) rfl
      rw [Heap.size_push] at z
      exact ⟨_, z, rfl⟩
    rw [List.forIn_cons]
    refine wpAny_bind (wpAny_bind ?_)
    refine wpAny_bind (wpAny_storeName_cell (c := s.heap.objs.size + 1) (v₀ := none) S.kind hx ?_ hcell fun h' hc' hs' => wpAny_pure ?_)
    · show (cellsFrom (s.heap.objs.size + 1) F.scope.names F.cl).lookup x = _
      rw [ec.1, List.lookup_cons, beq_self_eq_true]
    show wpAny _ _ (forIn ([] : List (Str × Value)) _ _) _ _ _
    rw [List.forIn_nil]
    refine wpAny_pure (wpAny_pure ?_)
    refine h h' _ (fun _ => none) ?_ (fun b o e => ?_) (fun z => by rw [hx] at z; cases z) fun _ => hc'
    · exact ((Heap.Ns.new s.heap (.type "frame")).keeps (pushCells_keeps _ _)).sameBut hs' (Nat.ne_of_lt (Nat.lt_succ_self _))
    · exact hs'.extBut b o (Nat.ne_of_lt (Nat.lt_succ_of_lt (Heap.lt_size e))) (pushCells_keeps _ _ _ _ (Heap.get?_push_of_some _ e))
/-- the context of a lambda's body, at its entry -/
def lcx (CX : CXT) (P : Program) (w : World) (K : PySem.W.Frag) (mg : Str → Option Value) (base : Heap) (N : List Str) (F : NdefX.NF) (f : Addr) (A : Around) (outer : List Env) (s : Shared) (H : Hp) (E : XK) : Cx :=
  { NdefX.ncx CX P w K mg base N F f A outer s H E with
    A := A.deeper (lamEnv F f s.heap.objs.size)
    env := lamEnv F f s.heap.objs.size
    stack := lamEnv F f s.heap.objs.size :: outer
    xe := fun e s' => wpAny (model P w) (A.deeper (lamEnv F f s.heap.objs.size)) (leaving (lamEnv F f s.heap.objs.size) e) (fun _ s'' => CX outer H s E e s'') (fun e' s'' => CX outer H s E e' s'') s' }
section
variable {CX : CXT} {P : Program} {w : World} {K : PySem.W.Frag} {mg : Str → Option Value} {base : Heap} {N fr : List Str} {x : Str} {F : NdefX.NF} {f : Addr} {A : Around} {outer : List Env} {s : Shared} {H : Hp} {E : XK} {u : Value} {v : V} {ws : List (Option V)}
theorem inv_startL {h₁ : Heap} {tk : Nat} {m : Str → Option Value} (S : LScope N x fr F.scope) (hd : A.handled = none) (e0 : Env0 P w K mg base A outer s H) (r : L2.RelV v u) (C : NdefX.CellsAt F.cl fr ws s.heap H) (hns : h₁.Ns s.heap.objs.size m)
    (hl : F.scope.names.lookup x = some .local → m x = some u) (hc : F.scope.names.lookup x = some .cell → h₁.IsCell (s.heap.objs.size + 1) (some u))
    (kp : ∀ b o, s.heap.get? b = some o → h₁.get? b = some o) : Inv (lcx CX P w K mg base N F f A outer s H E) [] (NdefX.startF N [v] ws) H { s with heap := h₁, toks := tk } := by
  have hpl : 1 + fr.length ≤ N.length := by
    have q := congrArg List.length S.pre
    rw [List.length_take, List.length_cons] at q
    omega
  have noA : ∀ b : Addr, b ∉ (lcx CX P w K mg base N F f A outer s H E).ex := fun b z => absurd (show b ∈ ([] : List Addr) from z) (by simp)
  have cellK : ∀ {c : Addr} {v : Option Value}, s.heap.IsCell c v → h₁.IsCell c v := fun {c v} ⟨o, ho, hd⟩ => ⟨o, kp _ _ ho, hd⟩
  have lk : ∀ {y : Str} {c : Addr}, (cellsFrom (s.heap.objs.size + 1) F.scope.names F.cl).lookup y = some c → (F.cl.lookup y = some c ∧ (F.scope.names.lookup x = some .cell → y ≠ x)) ∨ (y = x ∧ c = s.heap.objs.size + 1 ∧ F.scope.names.lookup x = some .cell) := fun {y c} e => by
    rcases S.one with ⟨ho, hx⟩ | ⟨ho, hx⟩
    · rw [(cells_nil _ s.heap _ ho).1] at e
      exact .inl ⟨e, fun z => by rw [hx] at z; cases z⟩
    · rw [(cells_one _ s.heap _ ho).1, List.lookup_cons] at e
      cases hb : y == x with
      | true => rw [hb] at e; cases e; exact .inr ⟨eq_of_beq hb, rfl, hx⟩
      | false => rw [hb] at e; exact .inl ⟨e, fun _ z => by rw [z, beq_self_eq_true] at hb; cases hb⟩
  have lk2 : ∀ {y : Str} {c : Addr}, F.cl.lookup y = some c → y ≠ x → (cellsFrom (s.heap.objs.size + 1) F.scope.names F.cl).lookup y = some c := fun {y c} e n => by
    rcases S.one with ⟨ho, hx⟩ | ⟨ho, hx⟩
    · rw [(cells_nil _ s.heap _ ho).1]; exact e
    · rw [(cells_one _ s.heap _ ho).1, List.lookup_cons, beq_false_of_ne n]; exact e
  have lkx : F.scope.names.lookup x = some .cell → (cellsFrom (s.heap.objs.size + 1) F.scope.names F.cl).lookup x = some (s.heap.objs.size + 1) := fun hx => by
    rcases S.one with ⟨ho, hx'⟩ | ⟨ho, hx'⟩
    · rw [hx] at hx'; cases hx'
    · rw [(cells_one _ s.heap _ ho).1, List.lookup_cons, beq_self_eq_true]
  have oldc : ∀ {y : Str} {c : Addr}, F.cl.lookup y = some c → c < s.heap.objs.size := fun {y c} e => by
    obtain ⟨_, _, o, ho, _⟩ := C.all y c e
    exact Heap.lt_size ho
  have nd : x ∉ fr := fun z => by
    have q := S.nd.sublist (List.take_sublist (1 + fr.length) N)
    rw [S.pre] at q
    exact (List.nodup_cons.mp q).1 z
  refine ⟨⟨e0.mod, S.kind, rfl, rfl, Nat.le_refl _, fun y z c e1 e2 => ?_, fun y hy => ?_, fun y c z _ => ?_, fun _ => hd, Around.frames_deeper e0.frames, .inr ⟨rfl, rfl⟩, fun b z => absurd z (noA b), e0.bs, e0.bsz, fun b _ _ => noA b,
      fun b z => absurd z (noA b), e0.funs, e0.frf⟩,
    rfl, e0.bare, Un.kept kp, ⟨_, hns, fun i y v' e1 e2 e3 => ?_⟩, fun y c e => ?_, e0.hok.fresh (Nat.le_refl _), fun y c e => ?_, fun q hq => absurd (show q ∈ ([] : List (Addr × Obj)) ++ [] from hq) (by simp), e0.hok.kept kp, ?_⟩
  · rcases lk e1 with ⟨a1, a2⟩ | ⟨a1, a2, a3⟩
    · rcases lk e2 with ⟨b1, b2⟩ | ⟨b1, b2, b3⟩
      · exact C.inj _ _ _ a1 b1
      · have := oldc a1; rw [b2] at this; exact absurd this (Nat.not_lt.mpr (Nat.le_succ _))
    · rcases lk e2 with ⟨b1, b2⟩ | ⟨b1, b2, b3⟩
      · have := oldc b1; rw [a2] at this; exact absurd this (Nat.not_lt.mpr (Nat.le_succ _))
      · rw [a1, b1]
  · have hy : F.scope.names.lookup y = some .cell ∨ F.scope.names.lookup y = some .free := hy
    rcases hy with hy | hy
    · have hm : (y, NameKind.cell) ∈ ownC F.scope := List.mem_filter.mpr ⟨PySem.mem_of_lookup hy, rfl⟩
      rcases S.one with ⟨ho, _⟩ | ⟨ho, hx⟩
      · rw [ho] at hm; cases hm
      · rw [ho] at hm
        cases List.mem_singleton.mp hm
        exact ⟨_, lkx hx⟩
    · have hf := S.free _ (PySem.mem_of_lookup hy) rfl
      obtain ⟨i, hi⟩ := List.mem_iff_getElem?.mp hf
      obtain ⟨c, hc, _⟩ := C.has i y hi
      exact ⟨c, lk2 hc fun z => nd (by rw [← z]; exact hf)⟩
  · have z : false = true := z
    cases z
  · have e1 : N[i]? = some y := e1
    have clen := C.len
    unfold NdefX.startF at e2
    cases i with
    | zero =>
      have hq : (x :: fr)[0]? = some y := by
        rw [← S.pre, List.getElem?_take_of_lt (by omega)]
        exact e1
      have hxy : x = y := Option.some.inj hq
      subst hxy
      have e2 : some v = some v' := by simpa using e2
      cases e2
      refine ⟨u, r, ?_⟩
      rcases S.one with ⟨_, hx⟩ | ⟨_, hx⟩
      · exact .inl ⟨hx, hl hx⟩
      · exact .inr ⟨.inl hx, _, lkx hx, hc hx⟩
    | succ i =>
      rw [List.getElem?_append_right (by simp), List.length_map, List.length_singleton, Nat.add_sub_cancel] at e2
      by_cases h2 : i < fr.length
      · have hq : (x :: fr)[i + 1]? = some y := by
          rw [← S.pre, List.getElem?_take_of_lt (by omega)]
          exact e1
        rw [List.getElem?_cons_succ] at hq
        rw [List.getElem?_append_left (show i < ws.length by omega)] at e2
        obtain ⟨c, hc, hv⟩ := C.has i y hq
        obtain ⟨u', ru, hu⟩ := hv v' e2
        exact ⟨u', ru, .inr ⟨.inr (S.frk y (List.mem_of_getElem? hq)), c, lk2 hc (fun z => nd (by rw [← z]; exact List.mem_of_getElem? hq)), cellK hu⟩⟩
      · rw [List.getElem?_append_right (show ws.length ≤ i by omega), List.getElem?_replicate] at e2
        split at e2 <;> cases e2
  · rcases lk e with ⟨a1, _⟩ | ⟨a1, a2, a3⟩
    · obtain ⟨v, z⟩ := (C.all y c a1).2
      exact ⟨v, cellK z⟩
    · rw [a2]; exact ⟨_, hc a3⟩
  · rcases lk e with ⟨a1, _⟩ | ⟨a1, a2, a3⟩
    · exact (C.all y c a1).1
    · rw [a2]; exact e0.hok.fresh (Nat.le_succ _)
  · have clen := C.len
    unfold NdefX.startF
    show _ = N.length
    rw [List.length_append, List.length_append, List.length_map, List.length_replicate]
    simp only [List.length_cons, List.length_nil]
    omega
end
end TL

-- part TL25
/-! TL25: calls of a lambda with one parameter from within a built-in: all objects stay, but the frames' slots. -/
namespace TL
open PySem PySem.Spec L2
open Evl (Ex ex_l ex_t)
/-- all stands as it stood, but for the slots of the frames at fs -/
def Wkk (fs : List Addr) (h h' : Heap) : Prop := ∀ b o, h.get? b = some o → (b ∉ fs → h'.get? b = some o) ∧ ∃ sl, h'.get? b = some { o with slots := sl }
theorem Wkk.all {fs : List Addr} {h h' : Heap} (k : ∀ b o, h.get? b = some o → h'.get? b = some o) : Wkk fs h h' := fun b o e => ⟨fun _ => k b o e, o.slots, k b o e⟩
theorem Wkk.trans {fs : List Addr} {h1 h2 h3 : Heap} (a : Wkk fs h1 h2) (b : Wkk fs h2 h3) : Wkk fs h1 h3 := fun c o e => by
  obtain ⟨a1, sl, a2⟩ := a c o e
  obtain ⟨_, sl', b2⟩ := b c _ a2
  exact ⟨fun n => (b c o (a1 n)).1 n, sl', b2⟩
section
variable {X : Cx} {pins : List (Addr × Obj)} {σ : L2.St} {H : Hp} {s s' : Shared} {h' : Heap}
theorem nofr (I : Inv X pins σ H s) {b : Addr} {u : HO} (e : H b = some u) : b ∉ frs X.stack := fun z => by
  rw [I.stkFree b z] at e; cases e
theorem Wkk.un (I : Inv X pins σ H s) (k : Wkk (frs X.stack) s.heap h') : Un (frs X.stack) [] H H s.heap h' :=
  ⟨fun b o e _ n _ => (k b o e).1 n, fun b o e _ _ _ => (k b o e).2, fun _ _ _ n _ => n, fun b o e _ => (k b o e).2.elim fun sl z => ⟨_, z⟩, fun _ _ z => z, fun _ _ _ z => z, fun b ps z => ⟨#[], by rw [z]; simp⟩⟩
theorem Wkk.hok (I : Inv X pins σ H s) (k : Wkk (frs X.stack) s.heap h') : HOk X.prog X.w H h' := fun a o e =>
  (I.hok a o e).stay (fun b u hb q => by
    refine (k b u q).1 ?_
    rcases hb with hb | hb
    · rw [hb]; exact nofr I e
    · exact nofr I hb) (fun _ z => z) fun _ _ z => z
/-- behind it all stands as ahead -/
theorem Wkk.inv (I : Inv X pins σ H s) (ho : s'.os = s.os) (hg : PyProof.Rows.AllBare s'.gens) (k : Wkk (frs X.stack) s.heap s'.heap) : Inv X pins σ H s' := I.call' ho (k.un I) (k.hok I) hg (fun b hb => absurd hb (by simp))
/-- the lists and tuples, known to the object; the rest not told of -/
def fzO : HO → Obj → Option HO
  | .lst xs, o => some (.frz o (.lst xs))
  | .tup xs, o => some (.frz o (.tup xs))
  | .frz o (.lst xs), _ => some (.frz o (.lst xs))
  | .frz o (.tup xs), _ => some (.frz o (.tup xs))
  | _, _ => none
def fzH (H : Hp) (h : Heap) : Hp := fun b => match H b, h.get? b with
  | some u, some o => fzO u o
  | _, _ => none
theorem fzH_none {h : Heap} {b : Addr} (e : H b = none) : fzH H h b = none := by unfold fzH; rw [e]
theorem fzH_inv {h : Heap} {b : Addr} {u : HO} (e : fzH H h b = some u) : ∃ o v, u = .frz o v ∧ (H b = some v ∧ h.get? b = some o ∨ H b = some (.frz o v)) ∧ ((∃ xs, v = .lst xs) ∨ ∃ xs, v = .tup xs) := by
  unfold fzH at e
  split at e
  · rename_i v o h1 h2
    unfold fzO at e
    split at e
    · cases e; exact ⟨o, _, rfl, .inl ⟨h1, h2⟩, .inl ⟨_, rfl⟩⟩
    · cases e; exact ⟨o, _, rfl, .inl ⟨h1, h2⟩, .inr ⟨_, rfl⟩⟩
    · cases e; exact ⟨_, _, rfl, .inr h1, .inl ⟨_, rfl⟩⟩
    · cases e; exact ⟨_, _, rfl, .inr h1, .inr ⟨_, rfl⟩⟩
    · cases e
  · cases e
theorem fzH_hok {P : Program} {w : World} {h : Heap} (x : HOk P w H h) : HOk P w (fzH H h) h := fun b u e => by
  obtain ⟨o, v, rfl, h1, h2⟩ := fzH_inv e
  have key : h.get? b = some o ∧ ObjOk P w H h b v := by
    rcases h1 with ⟨a1, a2⟩ | a1
    · exact ⟨a2, x b v a1⟩
    · exact x b _ a1
  refine ⟨key.1, ?_⟩
  rcases h2 with ⟨xs, rfl⟩ | ⟨xs, rfl⟩
  · exact key.2
  · exact key.2
theorem fzH_rd {P : Program} {w : World} {h : Heap} (x : HOk P w H h) {b : Addr} {v : HO} (hv : (∃ xs, v = .lst xs) ∨ ∃ xs, v = .tup xs) (r : Rd H b v) : Rd (fzH H h) b v := by
  have key : ∀ {u : HO}, H b = some u → ∃ o, h.get? b = some o := fun {u} e => by
    have := (x b u e).lt
    cases q : h.get? b with
    | some o => exact ⟨o, rfl⟩
    | none =>
      exfalso
      have ok := x b u e
      rcases r with r | ⟨o, r⟩
      · rw [e] at r; cases r
        rcases hv with ⟨xs, rfl⟩ | ⟨xs, rfl⟩
        · obtain ⟨_, _, _, _, z⟩ := ok; rw [q] at z; cases z
        · obtain ⟨_, _, _, _, z, _⟩ := ok; rw [q] at z; cases z
      · rw [e] at r; cases r
        obtain ⟨z, _⟩ := ok; rw [q] at z; cases z
  refine .inr ?_
  rcases r with r | ⟨o, r⟩
  · obtain ⟨o, ho⟩ := key r
    refine ⟨o, ?_⟩
    unfold fzH
    rw [r, ho]
    rcases hv with ⟨xs, rfl⟩ | ⟨xs, rfl⟩ <;> rfl
  · obtain ⟨o', ho⟩ := key r
    refine ⟨o, ?_⟩
    unfold fzH
    rw [r, ho]
    rcases hv with ⟨xs, rfl⟩ | ⟨xs, rfl⟩ <;> rfl
theorem fz_env {A' : Around} (hA : A'.frames = some X.stack) (I : Inv X pins σ H s) : Env0 X.prog X.w X.K X.mg X.base A' X.stack s (fzH H s.heap) :=
  have e := I.env0
  ⟨hA, e.mod, fun b o z => ⟨(e.bs b o z).1, fzH_none (e.bs b o z).2⟩, e.bsz, e.funs, fun b z => fzH_none (e.frf b z), fzH_hok e.hok, e.bare⟩
/-- what a call from the frozen heap leaves -/
theorem fz_wk {fs : List Addr} {H' : Hp} {h h' : Heap} (fr : ∀ b ∈ fs, H b = none) (x : HOk X.prog X.w H h) (un : Un fs [] (fzH H h) H' h h') (hok : HOk X.prog X.w H' h') : Wkk fs h h' := fun b o e => by
  cases q : fzH H h b with
  | none =>
    refine ⟨fun n => un.keep b o e q n (by simp), ?_⟩
    obtain ⟨sl, z⟩ := un.any e q (by simp)
    exact ⟨sl, z⟩
  | some u =>
    obtain ⟨o', v, rfl, h1, h2⟩ := fzH_inv q
    have ho : h.get? b = some o' := (fzH_hok x b _ q).1
    rw [ho] at e; cases e
    have := (hok b _ (un.frzs b _ _ q)).1
    exact ⟨fun _ => this, o.slots, this⟩
end
/-- a lambda with one parameter, its captured names -/
structure LamAt (X : Cx) (s : Shared) (params : Arguments) (body : Expr) (scope : Scope) (f c' : Addr) : Prop where
  obj : ∃ pm ctv, s.heap.get? f = some (PySem.W.kla_obj "<lambda>" (X.env.qual ++ "<lambda>") params body scope (cloFrom X.env.cells scope.names []) pm c' ctv)
  fr : f ∉ frs X.stack
  code : ∃ (oc : Obj) (vs : Array Value) (t : Tok), s.heap.get? c' = some oc ∧ oc.data = .fields vs ∧ vs[1]? = some (.str (X.env.qual ++ "<lambda>") t)
  cfr : c' ∉ frs X.stack
theorem LamAt.wk {X : Cx} {s s' : Shared} {params : Arguments} {body : Expr} {scope : Scope} {f c' : Addr} (L : LamAt X s params body scope f c') (k : Wkk (frs X.stack) s.heap s'.heap) : LamAt X s' params body scope f c' := by
  obtain ⟨⟨pm, ctv, h1⟩, h2, ⟨oc, vs, t, h3, h4, h5⟩, h6⟩ := L
  exact ⟨⟨pm, ctv, (k _ _ h1).1 h2⟩, h2, ⟨oc, vs, t, (k _ _ h3).1 h6, h4, h5⟩, h6⟩
abbrev lamF (X : Cx) (params : Arguments) (scope : Scope) (c' : Addr) : NdefX.NF := ⟨"<lambda>", X.env.qual ++ "<lambda>", params, [], scope, cloFrom X.env.cells scope.names [], c'⟩
section
variable {X : Cx} {pins : List (Addr × Obj)} {σ : L2.St} {H : Hp} {s : Shared}
theorem key_call {A' : Around} {k : Nat} {params : Arguments} {body : Expr} {scope : Scope} {N fr : List Str} {x : Str} {js : List Nat} {f c' : Addr} {te : TE} {u : Value} {v : V} {Q : VK} {Qv : Value → Shared → Prop} {E : Value → Shared → Prop}
    (I : Inv X pins σ H s) (hr : Room (k + 1) A') (hA : A'.frames = some X.stack) (L : LamAt X s params body scope f c') (S : LScope N x fr scope) (cp : NdefX.Caps X (cloFrom X.env.cells scope.names []) fr js)
    (hbind : ∀ (q : Str) (cl : List (Str × Addr)) (pm cv ctv u : Value), bindArgs (PySem.W.kla_fn "<lambda>" q params body scope cl pm cv ctv) ⟨[u], []⟩ = pure [(x, u)])
    (hbody : ∀ (s : Shared) (H : Hp), Room k (A'.deeper (lamEnv (lamF X params scope c') f s.heap.objs.size)) → PE (lcx CX0 X.prog X.w X.K X.mg X.base N (lamF X params scope c') f A' X.stack s H (fun _ _ _ => False)) body te)
    (r : L2.RelV v u) (ht : te (NdefX.startF N [v] (js.map (NdefX.slotAt σ))) (fzH H s.heap) Q)
    (fin : ∀ u' v' H' s', s'.os = s.os → PyProof.Rows.AllBare s'.gens → Wkk (frs X.stack) s.heap s'.heap → HOk X.prog X.w H' s'.heap → L2.RelV v' u' → Q v' H' → Qv u' s') :
    wpAny (model X.prog X.w) A' (call (.ref f) [u]) Qv E s := by
  obtain ⟨pm, ctv, of1⟩ := L.obj
  obtain ⟨oc, vs, t, hoc, hdc, hvc⟩ := L.code
  have e0 := fz_env hA I
  have C0 := NdefX.cells_of I cp
  have C : NdefX.CellsAt (lamF X params scope c').cl fr (js.map (NdefX.slotAt σ)) s.heap (fzH H s.heap) := ⟨C0.len, fun y c e => ⟨fzH_none (C0.all y c e).1, (C0.all y c e).2⟩, C0.inj, C0.has⟩
  have rc : codeAny (model X.prog X.w) A' (.call (.ref f) ⟨[u], []⟩) (CR CX0 X.stack X.prog X.w (fzH H s.heap) s Q (fun _ _ _ => False)) s := by
    refine PySem.W.kla_callFunE hr.depth of1 rfl S.co S.gen rfl ⟨c', oc, vs, t, rfl, hoc, hdc, hvc⟩ ?_
    rw [hbind]
    refine wpAny_pure (lam_enter (N := N) (fr := fr) (F := lamF X params scope c') S fun h₁ tk m hns kp hl hcl => ⟨I.nolimit.keeps kp, ?_⟩)
    show codeAny _ _ (.expr body (lamEnv (lamF X params scope c') f s.heap.objs.size)) _ _
    have J : Inv (lcx CX0 X.prog X.w X.K X.mg X.base N (lamF X params scope c') f A' X.stack s (fzH H s.heap) (fun _ _ _ => False)) [] (NdefX.startF N [v] (js.map (NdefX.slotAt σ))) (fzH H s.heap) { s with heap := h₁, toks := tk } :=
      inv_startL S hr.hd e0 r C hns hl hcl kp
    refine PySem.W.kla_codeExpr (wpAny_mono ((hbody s (fzH H s.heap) (hr.deeper _)).run [] _ _ _ Q J ht) (fun v s' hq => ?_) fun e s' hq => hq)
    obtain ⟨w', H', J', rv, q⟩ := hq
    exact ⟨w', H', J'.os, J'.bare, J'.base, J'.hok, rv, q⟩
  refine wpAny_call (codeAny_mono rc fun r s' hq => ?_)
  cases r with
  | error e => exact (show False from hq).elim
  | ok fl =>
    cases fl with
    | ret u' =>
      obtain ⟨v', H', os, bare, un, hok, rv, q⟩ := hq
      exact fin u' v' H' s' os bare (fz_wk (X := X) I.stkFree I.hok un hok) hok rv q
    | next => exact False.elim hq
    | brk => exact False.elim hq
    | cont => exact False.elim hq
end
end TL

-- part TL26
/-! TL26: list.sort by a key whose calls may touch the frames' slots. -/
namespace TL
open PySem PySem.Spec L2 PyProof.Rows
/-- all but the object at a -/
def WkB (fs : List Addr) (a : Addr) (h h' : Heap) : Prop := ∀ b o, b ≠ a → h.get? b = some o → (b ∉ fs → h'.get? b = some o) ∧ ∃ sl, h'.get? b = some { o with slots := sl }
theorem WkB.trans {fs : List Addr} {a : Addr} {h1 h2 h3 : Heap} (x : WkB fs a h1 h2) (y : WkB fs a h2 h3) : WkB fs a h1 h3 := fun c o n e => by
  obtain ⟨a1, sl, a2⟩ := x c o n e
  obtain ⟨_, sl', b2⟩ := y c _ n a2
  exact ⟨fun m => (y c o n (a1 m)).1 m, sl', b2⟩
theorem WkB.of {fs : List Addr} {a : Addr} {h h' : Heap} (k : Wkk fs h h') : WkB fs a h h' := fun b o _ e => k b o e
theorem WkB.keep {fs : List Addr} {a : Addr} {h h' : Heap} (k : ∀ b o, b ≠ a → h.get? b = some o → h'.get? b = some o) : WkB fs a h h' := fun b o n e => ⟨fun _ => k b o n e, o.slots, k b o n e⟩
/-- the object at c, that h does not know, is written -/
theorem WkB.same {fs : List Addr} {a c : Addr} {h h1 h2 : Heap} (x : WkB fs a h h1) (hs : Heap.SameBut c h1 h2) (hc : h.get? c = none) : WkB fs a h h2 := fun b o n e => by
  have hbc : b ≠ c := fun z => by rw [z, hc] at e; cases e
  obtain ⟨a1, sl, a2⟩ := x b o n e
  exact ⟨fun m => (hs.2 b hbc).trans (a1 m), sl, (hs.2 b hbc).trans a2⟩
/-- .. or the one at a -/
theorem WkB.same_a {fs : List Addr} {a : Addr} {h h1 h2 : Heap} (x : WkB fs a h h1) (hs : Heap.SameBut a h1 h2) : WkB fs a h h2 := fun b o n e => by
  obtain ⟨a1, sl, a2⟩ := x b o n e
  exact ⟨fun m => (hs.2 b n).trans (a1 m), sl, (hs.2 b n).trans a2⟩
mutual
theorem reads_wk {fs : List Addr} {h h' : Heap} (k : Wkk fs h h') : ∀ {v : Value} {d : PyData} {as : List Addr}, Reads h v d as → Reads h' v d as
  | _, _, _, .none => .none
  | _, _, _, .bool b => .bool b
  | _, _, _, .int i t => .int i t
  | _, _, _, .str x t => .str x t
  | _, _, _, .list z1 z2 z3 z4 => (k _ _ z1).2.elim fun sl y => .list y z2 z3 (readsAll_wk k z4)
  | _, _, _, .tuple z1 z2 z3 z4 => (k _ _ z1).2.elim fun sl y => .tuple y z2 z3 (readsAll_wk k z4)
  | _, _, _, .dict z1 z2 z3 z4 z5 => (k _ _ z1).2.elim fun sl y => .dict y z2 z3 (readsAll_wk k z4) (readsAll_wk k z5)
theorem readsAll_wk {fs : List Addr} {h h' : Heap} (k : Wkk fs h h') : ∀ {vs : List Value} {ds : List PyData} {as : List Addr}, ReadsAll h vs ds as → ReadsAll h' vs ds as
  | _, _, _, .nil => .nil
  | _, _, _, .cons z1 z2 => .cons (reads_wk k z1) (readsAll_wk k z2)
end
/-- what a key's call leaves -/
def KeyW (fs : List Addr) (k : PyData) (s1 : Shared) (v : Value) (s2 : Shared) : Prop := s2.os = s1.os ∧ AllBare s2.gens ∧ Wkk fs s1.heap s2.heap ∧ Reads s2.heap v k []
section
variable {prog : Program} {w : World} {A : Around} {E : Value → Shared → Prop} {P : PySem.Fin → Shared → Prop} {fs : List Addr} {f : Value} {s : Shared} {a kS : Addr} {vs : List Value} {kz : List PyData} {eZ : Nat}
theorem sort_rest {hZ0 : Heap} (hg : AllBare s.gens) (kp : WkB fs a hZ0 s.heap) (hkS : hZ0.get? kS = none) (nkS : kS ∉ fs) (na' : a ∉ fs) (nk : s.heap.get? kS = some (seqObj "list" #[] 0)) (na : s.heap.get? a = some (seqObj "list" #[] eZ)) (hka : kS ≠ a)
    (hlen : kz.length = vs.length) (hL : vs.length ≤ sizeLine) (hal : PySem.W.AllAlike kz) (hsk : PySem.W.Sortable kz) (hu : ∀ d, d ∈ kz → A.units + d.depth < cLine)
    (turn : ∀ (i : Nat) (v : Value) (k : PyData), vs[i]? = some v → kz[i]? = some k → ∀ s2 : Shared, s2.os = s.os → AllBare s2.gens → WkB fs a hZ0 s2.heap → wpAny (model prog w) A (call f [v]) (KeyW fs k s2) (fun _ _ => False) s2)
    (fin : ∀ (s' : Shared) (out : List Value) (c : Nat), s'.os = s.os → AllBare s'.gens → WkB fs a hZ0 s'.heap → s'.heap.get? a = some (seqObj "list" (List.toArray out) c) → PySem.W.KeyedOut false kz vs out → P (.done (.ret .none)) s') :
    wpAny (model prog w) A (ksk_rest a f false vs.toArray eZ (.ref kS)) P E s := by
  unfold ksk_rest
  refine wpAny_bind (wpAny_rule ?_)
  rw [← Array.forIn_toList]
  refine wpAny_bind (ksk_fold (fun i s1 => ∃ (kA : Array Value) (c : Nat), s1.os = s.os ∧ AllBare s1.gens ∧ WkB fs a hZ0 s1.heap ∧ s1.heap.get? kS = some (seqObj "list" kA c) ∧ s1.heap.get? a = some (seqObj "list" #[] eZ) ∧ PySem.W.EachIs (fun v k => Reads s1.heap v k [] ∧ PySem.W.alike k k = true) kA.toList (kz.take i)) vs 0 s
    ⟨#[], 0, rfl, hg, kp, nk, na, by rw [List.take_zero]; exact PySem.W.EachIs.nil⟩ ?st ?en)
  case st =>
    rintro j x s1 hx ⟨kA, c, ho1, hg1, kp1, nk1, na1, hk1⟩
    simp only [Nat.zero_add] at hk1 ⊢
    have hj : j < vs.length := (List.getElem?_eq_some_iff.mp hx).1
    obtain ⟨k, hkj⟩ : ∃ k, kz[j]? = some k := ⟨_, List.getElem?_eq_getElem (by omega)⟩
    have hkk : PySem.W.alike k k = true := hal k (List.mem_of_getElem? hkj) k (List.mem_of_getElem? hkj)
    have hsz : kA.size ≤ vs.length := by
      have h1 := hk1.length
      rw [Array.length_toList, List.length_take] at h1
      omega
    refine wpAny_bind (wpAny_attempt (wpAny_mono (turn j x k hx hkj s1 ho1 hg1 kp1) (fun v s2 hv => ?_) fun _ _ z => z.elim))
    obtain ⟨ho2, hg2, kp2, hr2⟩ := hv
    try dsimp only
    have nk2 := (kp2 _ _ nk1).1 nkS
    have na2 := (kp2 _ _ na1).1 na'
    have same := Heap.SameBut.update s2.heap kS (Obj.mapSeq (·.push v))
    obtain ⟨c2, hc2⟩ : ∃ c2, (s2.heap.update kS (Obj.mapSeq (·.push v))).get? kS = some (seqObj "list" (kA.push v) c2) := ⟨_, get?_update_seq nk2 (·.push v)⟩
    have ek : kz.take (j + 1) = kz.take j ++ [k] := by rw [List.take_add_one, hkj]; rfl
    have ea : (kA.push v).toList = kA.toList ++ [v] := Array.toList_push ..
    refine wpAny_bind (listUpdate_at nk2 rfl ?_ (Nat.le_trans hsz hL) (Nat.le_trans (Nat.le_of_eq (Array.size_push ..)) (Nat.succ_le_succ (Nat.le_trans hsz hL))))
    have rdZ : ∀ (u : Value) (d : PyData), Reads s2.heap u d [] ∧ PySem.W.alike d d = true → Reads (s2.heap.update kS (Obj.mapSeq (·.push v))) u d [] ∧ PySem.W.alike d d = true := fun u d q =>
      ⟨PySem.W.Reads.keepBut (a := kS) (fun b o hb z => (same.2 b hb).trans z) (fun o z => by rw [nk2] at z; rw [← Option.some.inj z]) d u [] q.2 q.1 (by simp), q.2⟩
    refine wpAny_pure ⟨rfl, kA.push v, c2, ho2.trans ho1, hg2, (kp1.trans (.of kp2)).same same hkS, hc2, (same.2 a hka.symm).trans na2, ?_⟩
    rw [ea, ek]
    refine PySem.W.each_snoc (R := fun (u : Value) (d : PyData) => Reads (s2.heap.update kS (Obj.mapSeq (·.push v))) u d [] ∧ PySem.W.alike d d = true) (rdZ v k ⟨hr2, hkk⟩) ?_
    exact hk1.mono fun u d q => rdZ u d ⟨reads_wk kp2 q.1, q.2⟩
  case en =>
    rintro s1 ⟨kA, c, ho1, hg1, kp1, nk1, na1, hk1⟩
    have hk2 : PySem.W.EachIs (fun v k => ∃ as, Reads s1.heap v k as) kA.toList kz := by
      have e3 : kz.take (0 + vs.length) = kz := List.take_of_length_le (by omega)
      rw [e3] at hk1
      exact hk1.mono fun v k q => ⟨[], q.1⟩
    have hsz : kA.size = vs.length := by
      have h1 := hk2.length
      rw [Array.length_toList] at h1
      omega
    try dsimp only
    refine wpAny_bind (listItems_at nk1 rfl ?_)
    -- a heap that does not know kS
    have hz1 : (s1.heap.hide kS).get? kS = none := Heap.hide_self _ _
    have hz2 : ∀ b, b ≠ kS → (s1.heap.hide kS).get? b = s1.heap.get? b := fun b hb => Heap.hide_ne _ hb
    refine PySem.W.keyH_end (κ := PySem.W.dataKind s1.heap kz) (h₁ := s1.heap.hide kS) (fun b o hb z => ?_) hz1 nk1 na1 hka (PySem.W.SortsAt.data (s := s1) hk2 hal hsk hu) hsz hL fun h3 tk3 c3 k3 n3 => ?_
    · by_cases hbk : b = kS
      · rw [hbk, hz1] at z; cases z
      · exact (hz2 b hbk).symm.trans z
    · refine fin { s1 with heap := h3, toks := tk3 } _ c3 ho1 hg1 (fun b o n z => ?_) n3 ⟨s1.heap, kA.toList, hal, rfl, hk2⟩
      obtain ⟨a1, sl, a2⟩ := kp1 b o n z
      have hbk : b ≠ kS := fun y => by rw [y, hkS] at z; cases z
      exact ⟨fun m => k3 b o n ((hz2 b hbk).trans (a1 m)), sl, k3 b _ n ((hz2 b hbk).trans a2)⟩
theorem sort_tree {n : Nat} (hg : AllBare s.gens) (na' : a ∉ fs) (hfs : ∀ b ∈ fs, ∃ o, s.heap.get? b = some o) (ho : s.heap.get? a = some (seqObj "list" vs.toArray n)) (hlen : kz.length = vs.length) (hL : vs.length ≤ sizeLine) (hal : PySem.W.AllAlike kz) (hsk : PySem.W.Sortable kz) (hu : ∀ d, d ∈ kz → A.units + d.depth < cLine)
    (turn : ∀ (i : Nat) (v : Value) (k : PyData), vs[i]? = some v → kz[i]? = some k → ∀ s2 : Shared, s2.os = s.os → AllBare s2.gens → WkB fs a s.heap s2.heap → wpAny (model prog w) A (call f [v]) (KeyW fs k s2) (fun _ _ => False) s2)
    (fin : ∀ (s' : Shared) (out : List Value) (c : Nat), s'.os = s.os → AllBare s'.gens → WkB fs a s.heap s'.heap → s'.heap.get? a = some (seqObj "list" (List.toArray out) c) → PySem.W.KeyedOut false kz vs out → P (.done (.ret .none)) s') :
    wpAny (model prog w) A (ksk_tree a f false) P E s := by
  have laZ : a < s.heap.objs.size := Heap.lt_size ho
  obtain ⟨e1, ho1⟩ : ∃ e1, (s.heap.update a (Obj.mapSeq fun _ => (#[] : Array Value))).get? a = some (seqObj "list" #[] e1) := ⟨_, get?_update_seq ho fun _ => #[]⟩
  have zsz : ((s.heap.update a (Obj.mapSeq fun _ => (#[] : Array Value))).push (seqObj "tuple" vs.toArray 0)).objs.size = s.heap.objs.size + 1 := (size_push' _ _).trans (by rw [Heap.size_update])
  unfold ksk_tree
  refine wpAny_bind (listItems_at ho rfl (wpAny_bind (listUpdate_at ho rfl (wpAny_bind (seqEpoch_at ho1 rfl ?_)) (by rw [List.size_toArray]; exact hL) (Nat.zero_le _))))
  refine wpAny_bind (wpAny_newTuple (wpAny_bind (wpAny_newList (wpAny_holding ?_) (Nat.zero_le _))) (by show vs.length ≤ _; exact hL))
  have k0 : WkB fs a s.heap (PySem.W.sortingHeap s.heap a vs) := .keep fun b o n e => PySem.W.sortingHeap_old n e
  refine sort_rest (kz := kz) (hZ0 := s.heap) (s := { s with heap := ((s.heap.update a (Obj.mapSeq fun _ => (#[] : Array Value))).push (seqObj "tuple" vs.toArray 0)).push (seqObj "list" #[] 0) }) (kS := ((s.heap.update a (Obj.mapSeq fun _ => (#[] : Array Value))).push (seqObj "tuple" vs.toArray 0)).objs.size)
    hg k0 (Heap.get?_none_of_le (by rw [zsz]; exact Nat.le_succ _)) (fun z => ?_) na' (Heap.get?_push_size _ rfl) (Heap.get?_push_of_some _ (Heap.get?_push_of_some _ ho1)) (by rw [zsz]; exact Nat.ne_of_gt (Nat.lt_succ_of_lt laZ)) hlen hL hal hsk hu turn fin
  obtain ⟨o, z'⟩ := hfs _ z
  have z2 := Heap.lt_size z'
  rw [zsz] at z2
  exact absurd z2 (Nat.not_lt.mpr (Nat.le_succ _))
/-- sorted(xs, key=f), xs any thing whose items are told -/
theorem sorted_coll {β : Type} {bs : List β} {R : Value → β → Prop} {u : Value} {q : Addr} {Q : Value → Shared → Prop} (k : β → PyData) (hg : AllBare s.gens) (hfs : ∀ b ∈ fs, ∃ o, s.heap.get? b = some o) (hL : bs.length ≤ sizeLine) (hal : PySem.W.AllAlike (bs.map k)) (hsk : PySem.W.Sortable (bs.map k)) (hu : ∀ x, x ∈ bs → A.units + 2 + (k x).depth < cLine)
    (coll : ∀ (E' : Value → Shared → Prop) (Q' : List Value → Shared → Prop), (∀ (vs : List Value) (h' : Heap) (tk : Nat), (∀ b o, s.heap.get? b = some o → h'.get? b = some o) → PySem.W.EachIs R vs bs → Q' vs { s with heap := h', toks := tk }) → wpAny (model prog w) A.in1 (collect u) Q' E' s)
    (turn : ∀ (v : Value) (x : β), R v x → x ∈ bs → ∀ s2 : Shared, s2.os = s.os → AllBare s2.gens → Wkk fs s.heap s2.heap → wpAny (model prog w) A.in1.in1 (call (.ref q) [v]) (KeyW fs (k x) s2) (fun _ _ => False) s2)
    (fin : ∀ (s' : Shared) (out : List Value) (D c : Nat), s'.os = s.os → AllBare s'.gens → Wkk fs s.heap s'.heap → s.heap.get? D = none → s'.heap.get? D = some (seqObj "list" (List.toArray out) c) → PySem.W.EachIs R out (bs.mergeSort (PySem.W.dataLe false k)) → Q (.ref D) s') :
    wpAny (model prog w) A (call (.builtin "sorted") [u] [(Str.ofString "key", .ref q)]) Q E s := by
  refine call_function_entry_kw kind_sorted plain_sorted entry_sorted (ksk_s1 _ _) ?_
  unfold Builtin.«sorted»
  refine wpAny_bind (m := checkCount "sorted" 1 1 _) (wpAny_pure (wpAny_bind (coll _ _ fun vs h1 tk1 kp1 e => ?_)))
  have lv : vs.length = bs.length := e.length
  refine wpAny_bind (wpAny_newList (wpAny_bind (wpAny_holding (wpAny_call_entry_kw slot_list_sort ⟨_, Heap.get?_push_size _ rfl, rfl⟩ entry_list_sort ?bdy (ksk_l1 _ _)))) (by rw [lv]; exact hL))
  case bdy =>
    show wpAny (model prog w) A.in1.in1 (Builtin.«list.sort» ⟨[.ref h1.objs.size], [(Str.ofString "key", .ref q)]⟩) _ _ { s with heap := h1.push (seqObj "list" vs.toArray 0), toks := tk1 }
    rw [ksk_t1]
    have le1 : ∀ {b o}, s.heap.get? b = some o → b ≠ h1.objs.size := fun {b o} z y => Nat.lt_irrefl _ (y ▸ Heap.lt_size (kp1 b o z))
    have upZ : ∀ {h2 : Heap}, WkB fs h1.objs.size (h1.push (seqObj "list" vs.toArray 0)) h2 → Wkk fs s.heap h2 := fun {h2} x b o z => x b o (le1 z) (Heap.get?_push_of_some _ (kp1 b o z))
    refine sort_tree (s := { s with heap := h1.push (seqObj "list" vs.toArray 0), toks := tk1 }) (kz := bs.map k) (vs := vs) (n := 0) hg (fun z => (hfs _ z).elim fun o y => le1 y rfl) (fun b hb => (hfs b hb).elim fun o y => ⟨o, Heap.get?_push_of_some _ (kp1 b o y)⟩) (Heap.get?_push_size _ rfl) (by rw [List.length_map]; exact lv.symm) (by rw [lv]; exact hL) hal hsk (fun d hd => ?_)
      (fun i v d hv hd s2 o2 g2 w2 => ?_) fun s' out c o' g' w' hD ko => ⟨.none, rfl, wpAny_pure ⟨_, rfl, fin s' out h1.objs.size c o' g' (upZ w') ?_ hD (PySem.W.keyedOut_each k ko e)⟩⟩
    · obtain ⟨x, hx, rfl⟩ := List.mem_map.mp hd
      exact hu x hx
    · rw [List.getElem?_map] at hd
      cases hb : bs[i]? with
      | none => rw [hb] at hd; cases hd
      | some x =>
        rw [hb] at hd
        cases hd
        have hz : (v, x) ∈ vs.zip bs := List.mem_of_getElem? (i := i) (by rw [List.getElem?_zip_eq_some]; exact ⟨hv, hb⟩)
        exact turn v x (e.zip _ hz) (List.mem_of_getElem? hb) s2 o2 g2 (upZ w2)
    · cases hq : s.heap.get? h1.objs.size with
      | none => rfl
      | some o => exact absurd rfl (le1 hq)
end
end TL

-- part TL27
/-! TL27: sorted(xs, key=lambda x: ..). -/
namespace TL
open PySem PySem.Spec L2
open Evl (Ex ex_l ex_t)
/-- within a lambda: no tables, tuples by their objects -/
@[reducible] def layK : Lay := ⟨[], False⟩
mutual
/-- neither lists nor dicts -/
def noL : D → Bool
  | .none => true
  | .bool _ => true
  | .int _ => true
  | .str _ => true
  | .tuple ds => noLs ds
  | _ => false
def noLs : List D → Bool
  | [] => true
  | d :: ds => noL d && noLs ds
end
section
variable {P : Program} {w : World} {K : PySem.W.Frag} {F H : Hp} {h : Heap}
theorem sqt_at (hok : HOk P w H h) (KX : K.In h) {a : Addr} {xs : List V} (s : SqT K H a xs) : ∃ (its : Array Value) (o : Obj) (n : Nat), Vals xs its.toList ∧ h.get? a = some o ∧ o.cls = .type "tuple" ∧ o.data = .seq its n := by
  rcases s with r | ⟨o, its, n, h1, h2, h3, _, h5⟩
  · obtain ⟨_, its, rv, o, ho, hc, n, hd⟩ := r.ok hok
    exact ⟨its.toArray, o, n, by simpa using rv, ho, hc, hd⟩
  · exact ⟨its, o, n, h5, KX _ _ h1, h2, h3⟩
mutual
/-- a key without lists is read -/
theorem dp_reads {ly : Lay} (hok : HOk P w H h) (KX : K.In h) (e : Ex F H) : ∀ (d : D) (v : V) (u : Value), noL d = true → @Dp ly K F v d → L2.RelV v u → Reads h u d []
  | .none, _, _, _, z, r => by cases z; cases r; exact .none
  | .bool b, _, _, _, z, r => by cases z; cases r; exact .bool b
  | .int i, _, _, _, z, r => by cases z; obtain ⟨t, rfl⟩ := r; exact .int i t
  | .str x, _, _, _, z, r => by cases z; obtain ⟨t, rfl⟩ := r; exact .str x t
  | .tuple ds, v, u, n, z, r => by
    cases z with
    | tup hs ha =>
      cases r
      obtain ⟨its, o, m, rv, ho, hc, hd⟩ := sqt_at hok KX (ex_t e (TpAt.sq hs))
      exact .tuple ho hc hd (dps_reads hok KX e ds _ _ (by simpa [noL] using n) ha rv)
  | .list _, _, _, n, _, _ => by simp [noL] at n
  | .dict _, _, _, n, _, _ => by simp [noL] at n
theorem dps_reads {ly : Lay} (hok : HOk P w H h) (KX : K.In h) (e : Ex F H) : ∀ (ds : List D) (vs : List V) (us : List Value), noLs ds = true → @DpAll ly K F vs ds → Vals vs us → ReadsAll h us ds []
  | [], _, _, _, z, r => by cases z; cases r; exact .nil
  | d :: ds, _, _, n, z, r => by
    cases z with
    | cons z1 z2 =>
      cases r with
      | cons r1 r2 =>
        have n' : noL d = true ∧ noLs ds = true := by simpa [noLs] using n
        exact .cons (dp_reads hok KX e d _ _ n'.1 z1 r1) (dps_reads hok KX e ds _ _ n'.2 z2 r2)
end
theorem sql_fz (hok : HOk P w H h) {a : Addr} {xs : List V} (s : SqL K H a xs) : SqL K (fzH H h) a xs := s.imp (fzH_rd hok (.inl ⟨_, rfl⟩)) id
theorem sqt_fz (hok : HOk P w H h) {a : Addr} {xs : List V} (s : SqT K H a xs) : SqT K (fzH H h) a xs := s.imp (fzH_rd hok (.inr ⟨_, rfl⟩)) id
mutual
/-- data as a lambda sees it -/
theorem dp_fz {ly : Lay} (hok : HOk P w H h) (e : Ex F H) : ∀ {v : V} {d : D}, @Dp ly K F v d → @Dp layK K (fzH H h) v d
  | _, _, .non => @Dp.non layK _ _
  | _, _, .bl b => @Dp.bl layK _ _ b
  | _, _, .int i => @Dp.int layK _ _ i
  | _, _, .str x => @Dp.str layK _ _ x
  | _, _, .lst z zs => @Dp.lst layK _ _ _ _ _ (fzH_rd hok (.inl ⟨_, rfl⟩) (rd_ex e z)) (dps_fz hok e zs)
  | _, _, .tup z zs => @Dp.tup layK _ _ _ _ _ (.inr ⟨fun f => f, sqt_fz hok (ex_t e (TpAt.sq z))⟩) (dps_fz hok e zs)
  | _, _, .scr z => @Dp.scr layK _ _ _ _ (sql_fz hok (ex_l e z))
theorem dps_fz {ly : Lay} (hok : HOk P w H h) (e : Ex F H) : ∀ {vs : List V} {ds : List D}, @DpAll ly K F vs ds → @DpAll layK K (fzH H h) vs ds
  | _, _, .nil => @DpAll.nil layK _ _
  | _, _, .cons z zs => @DpAll.cons layK _ _ _ _ _ _ (dp_fz hok e z) (dps_fz hok e zs)
end
end
variable [Lay]
/-- a captured name in a lambda -/
@[simp] def capS : Option Slot → Slot
  | some (.fz d) => .fz d
  | some (.rd (.dict _)) => .un
  | some (.rd d) => .fz d
  | some (.ow _ .l d) => .fz d
  | _ => .un
/-- the slots at the entry of a lambda: n names, the captured ones stand at js -/
@[simp] def lamR (n : Nat) (js : List Nat) (ρ : List Slot) (d : D) : List Slot := .fz d :: (js.map (fun j => capS ρ[j]?) ++ List.replicate (n - 1 - js.length) .un)
theorem cap_ok {P : Program} {w : World} {K : PySem.W.Frag} {F H : Hp} {h : Heap} {σ : L2.St} {ρ : List Slot} (hok : HOk P w H h) (S : Sta K F H σ ρ) {j : Nat} {d : D} (e : capS ρ[j]? = .fz d) : ∃ v, NdefX.slotAt σ j = some v ∧ @Dp layK K (fzH H h) v d := by
  have own : ∀ {a : Addr} {d : D}, OwAt K F H .l a d → @Dp layK K (fzH H h) (.ref a) d := fun {a d} z => by
    obtain ⟨xs, ds, rfl, z1, z2⟩ := z
    exact @Dp.lst layK _ _ _ _ _ (fzH_rd hok (.inl ⟨_, rfl⟩) (.inl z1)) (dps_fz hok S.sub z2)
  unfold capS at e
  split at e
  · rename_i d' q
    cases e
    obtain ⟨v, z1, z2⟩ := S.fz j _ q
    exact ⟨v, NdefX.slotAt_of z1, dp_fz hok S.sub z2⟩
  · cases e
  · rename_i d' nd q
    cases e
    obtain ⟨v, z1, z2⟩ := S.rd j _ q
    refine ⟨v, NdefX.slotAt_of z1, ?_⟩
    rcases z2 with z2 | ⟨κ, a, rfl, z2, _⟩
    · exact dp_fz hok S.sub z2
    · cases κ with
      | l => exact own z2
      | k => obtain ⟨_, _, rfl, _⟩ := z2; exact (nd _ rfl).elim
      | t => obtain ⟨_, _, rfl, _⟩ := z2; exact (nd _ rfl).elim
  · rename_i t d' q
    cases e
    obtain ⟨a, z1, z2, _⟩ := S.ow j _ _ _ q
    exact ⟨_, NdefX.slotAt_of z1, own z2⟩
  · cases e
/-- the state at the entry of a lambda -/
theorem lam_sta {P : Program} {w : World} {K : PySem.W.Frag} {F H : Hp} {h : Heap} {σ : L2.St} {ρ : List Slot} {N : List Str} {js : List Nat} {v : V} {d : D} (hok : HOk P w H h) (S : Sta K F H σ ρ) (dv : @Dp layK K (fzH H h) v d) (hn : 1 + js.length ≤ N.length) :
    @Sta layK K (fzH H h) (fzH H h) (NdefX.startF N [v] (js.map (NdefX.slotAt σ))) (lamR N.length js ρ d) := by
  have get : ∀ {i : Nat} {s : Slot}, (lamR N.length js ρ d)[i]? = some s → s ≠ .un → ∃ d' v', s = .fz d' ∧ (NdefX.startF N [v] (js.map (NdefX.slotAt σ)))[i]? = some (some v') ∧ @Dp layK K (fzH H h) v' d' := fun {i s} e n => by
    unfold lamR at e
    unfold NdefX.startF
    cases i with
    | zero => simp at e; subst e; exact ⟨d, v, rfl, rfl, dv⟩
    | succ i =>
      rw [List.getElem?_cons_succ] at e
      have e2 : ([v].map some ++ (js.map (NdefX.slotAt σ) ++ List.replicate (N.length - [v].length - (js.map (NdefX.slotAt σ)).length) none))[i + 1]? = (js.map (NdefX.slotAt σ) ++ List.replicate (N.length - [v].length - (js.map (NdefX.slotAt σ)).length) none)[i]? := rfl
      rw [e2]
      by_cases hi : i < js.length
      · rw [List.getElem?_append_left (by simpa using hi), List.getElem?_map] at e ⊢
        obtain ⟨j, hj⟩ : ∃ j, js[i]? = some j := ⟨_, List.getElem?_eq_getElem hi⟩
        rw [hj] at e ⊢
        have e : capS ρ[j]? = s := Option.some.inj e
        have : ∃ d', capS ρ[j]? = .fz d' := by
          rw [← e] at n
          unfold capS at n ⊢
          split at n
          · exact ⟨_, rfl⟩
          · exact absurd rfl n
          · exact ⟨_, rfl⟩
          · exact ⟨_, rfl⟩
          · exact absurd rfl n
        obtain ⟨d', hd'⟩ := this
        obtain ⟨v', z1, z2⟩ := cap_ok hok S hd'
        exact ⟨d', v', by rw [← e, hd'], by rw [← z1]; rfl, z2⟩
      · rw [List.getElem?_append_right (by simp; omega), List.getElem?_replicate] at e
        split at e
        · cases e; exact absurd rfl n
        · cases e
  have nun : ∀ {d' : D}, Slot.fz d' ≠ .un := fun z => by cases z
  refine @Sta.mk layK _ _ _ _ _ (Ex.refl _) ?_ (fun i d' e => ?_) (fun i d' e => ?_) (fun i t κ d' e => ?_) (fun i j t t' κ κ' d' d2 a e => ?_) (@TabF.mk layK _ _ (fun p hp => absurd (show p ∈ ([] : List (Addr × Str)) from hp) (by simp)) fun p hp => absurd (show p ∈ ([] : List (Addr × Str)) from hp) (by simp))
  · unfold NdefX.startF lamR
    simp
  · obtain ⟨d2, v', z0, z1, z2⟩ := get e nun
    cases z0
    exact ⟨v', z1, z2⟩
  · obtain ⟨_, _, z0, _⟩ := get e (fun z => by cases z)
    cases z0
  · obtain ⟨_, _, z0, _⟩ := get e (fun z => by cases z)
    cases z0
  · obtain ⟨_, _, z0, _⟩ := get e (fun z => by cases z)
    cases z0
end TL

-- part TL28
/-! TL28: a lambda is made; sorted(xs, key=lambda x: ..). -/
namespace TL
open PySem PySem.Spec L2
open Evl (Ex ex_l ex_t)
section
variable {X : Cx} {pins : List (Addr × Obj)} {σ : L2.St} {H : Hp} {s : Shared}
/-- a lambda is made: of what is tracked only the table at PZ is written -/
theorem lam_new {T : List (Addr × Str)} {cZ PZ : Addr} {params : Arguments} {body : Expr} {scope : Scope} {pos : Pos} {E : Value → Shared → Prop} {Q : Value → Shared → Prop} (I : Inv X pins σ H s) (TB : LamX.TabB X.base X.mg cZ PZ) (hcode : X.env.code = .ref cZ)
    (hm : (PZ, X.env.qual ++ "<lambda>") ∈ T) (hu : ∀ p ∈ T, p.1 = PZ → p.2 = X.env.qual ++ "<lambda>") (hT : LamX.Tabs T H) (hdef : defaultsOf params X.env = ([], [])) (hfree : ∀ y ∈ scope.names, y.2 = .free → ∃ c, X.env.cells.lookup y.1 = some c)
    (fin : ∀ (f c' : Addr) (H1 : Hp) (s' : Shared), Inv X pins σ H1 s' → (∀ b o, b ≠ PZ → H b = some o → H1 b = some o) → (∀ b o, b ≠ PZ → s.heap.get? b = some o → s'.heap.get? b = some o) → LamX.Tabs T H1 → LamAt X s' params body scope f c' → Q (.ref f) s') :
    wpAny (model X.prog X.w) X.A (eval (.Lambda params body scope pos) X.env) Q E s := by
  obtain ⟨psZ, hPZ, htZ, haZ⟩ := hT _ hm
  refine PySem.W.kla_eval hdef ?_
  have bmZ := TB.bm.keeps I.bk
  have hPo : s.heap.get? PZ = some { cls := .none, data := .fields psZ } := I.hok PZ _ hPZ
  have nfr : ∀ fZ, s.heap.objs.size ≤ fZ → fZ ∉ frs X.stack := fun fZ hf z => by
    rcases List.mem_cons.mp (I.stkSub _ z) with e | e
    · have := I.lt
      rw [← e] at this
      exact absurd this (Nat.not_lt.mpr hf)
    · exact I.nofs hf e
  cases hcZ : codeAmong pos psZ.toList with
  | none =>
    refine PySem.W.kla_makeFunction (mg := X.mg) (c := cZ) (P := PZ) (ps := psZ) (closure_ok hfree) I.ok.glob (I.mod.glob.keeps I.bk) hcode (TB.code.keeps I.bk) hPo htZ hcZ TB.gP bmZ fun c' ctv h' tk hx hge hlt hrec htb => ?_
    obtain ⟨c2, ocZ, vsZ, tZ, e2, hoc, hd, hv⟩ := hrec
    cases e2
    have nCZ : H c' = none := I.hok.fresh hge
    have IZ := LamX.inv_table (t' := tk) (more := #[rawInt pos.line, rawInt pos.col, .ref c']) (h' := h'.push (PySem.W.kla_obj "<lambda>" (X.env.qual ++ "<lambda>") params body scope (cloFrom X.env.cells scope.names []) ((X.mg "__name__").getD .none) c' ctv)) I hPZ
      (fun b o hb e => Heap.get?_push_of_some _ (hx b o hb e)) (Heap.get?_push_of_some _ htb) hge ⟨ocZ, vsZ, tZ, Heap.get?_push_of_some _ hoc, hd, hv⟩
    have keepZ : ∀ b o, b ≠ PZ → H b = some o → (upd (upd H PZ (.tbl (psZ ++ #[rawInt pos.line, rawInt pos.col, .ref c']))) c' (LamX.CodeO c' (X.env.qual ++ "<lambda>"))) b = some o := fun b o n e => by
      rw [upd_ne (ne_of_none e nCZ), upd_ne n]; exact e
    have codeNe : ∀ ps, LamX.CodeO c' (X.env.qual ++ "<lambda>") ≠ .tbl ps := fun ps => LamX.codeO_ne ps
    have eL : (psZ ++ #[rawInt pos.line, rawInt pos.col, .ref c']).toList = psZ.toList ++ [rawInt pos.line, rawInt pos.col, .ref c'] := by rw [Array.toList_append]
    have cPZ : c' ≠ PZ := fun z => by rw [z, hPZ] at nCZ; cases nCZ
    refine fin h'.objs.size c' _ _ IZ keepZ (fun b o n e => Heap.get?_push_of_some _ (hx b o n e)) (fun p hp => ?_) ⟨⟨_, ctv, Heap.get?_push_size _ rfl⟩, nfr _ (Nat.le_trans hge (Nat.le_of_lt hlt)), ⟨ocZ, vsZ, tZ, Heap.get?_push_of_some _ hoc, hd, hv⟩, nfr _ hge⟩
    by_cases hb : p.1 = PZ
    · rw [hu p hp hb, hb]
      refine ⟨psZ ++ #[rawInt pos.line, rawInt pos.col, .ref c'], by rw [upd_ne cPZ.symm, upd_same], by rw [eL]; exact PySem.TriplesOk_snoc _ _ _ _ htZ, fun p' cv hcv => ?_⟩
      rw [eL] at hcv
      rcases LamX.among_app _ htZ hcv with z | z
      · obtain ⟨c0, e1, e2⟩ := haZ p' cv z
        refine ⟨c0, e1, keepZ _ _ (fun y => ?_) e2⟩
        rw [y, hPZ] at e2
        exact absurd (Option.some.inj e2).symm (LamX.codeO_ne psZ)
      · exact ⟨c', z, upd_same⟩
    · obtain ⟨ps', a1, a2, a3⟩ := hT p hp
      refine ⟨ps', keepZ _ _ hb a1, a2, fun p' cv hcv => ?_⟩
      obtain ⟨c0, e1, e2⟩ := a3 p' cv hcv
      refine ⟨c0, e1, keepZ _ _ (fun y => ?_) e2⟩
      rw [y, hPZ] at e2
      exact absurd (Option.some.inj e2).symm (LamX.codeO_ne psZ)
  | some cv =>
    obtain ⟨c', e, hco⟩ := haZ pos cv hcZ
    subst e
    refine PySem.W.kla_makeFunctionHit (mg := X.mg) (c := cZ) (P := PZ) (ps := psZ) (closure_ok hfree) I.ok.glob (I.mod.glob.keeps I.bk) hcode (TB.code.keeps I.bk) hPo htZ hcZ bmZ fun ctv h' tk hx hsz => ?_
    have IZ : Inv X pins σ H { s with heap := h'.push (PySem.W.kla_obj "<lambda>" (X.env.qual ++ "<lambda>") params body scope (cloFrom X.env.cells scope.names []) ((X.mg "__name__").getD .none) c' ctv), toks := tk } := I.kept fun b o e => Heap.get?_push_of_some _ (hx b o e)
    obtain ⟨⟨oc, vs, t, a1, a2, a3⟩, _, _⟩ := IZ.hok c' _ hco
    exact fin h'.objs.size c' H _ IZ (fun b o _ e => e) (fun b o _ e => Heap.get?_push_of_some _ (hx b o e)) hT ⟨⟨_, ctv, Heap.get?_push_size _ rfl⟩, nfr _ hsz, ⟨oc, vs, t, a1, a2, a3⟩, nofr IZ hco⟩
end
end TL

-- part TL29
/-! TL29: sorted(xs, key=lambda x: ..), sorted(range(n), key=lambda x: ..). -/
namespace TL
open PySem PySem.Spec L2
open Evl (Ex ex_l ex_t)
theorem hok_get {P : Program} {w : World} {H : Hp} {h : Heap} (x : HOk P w H h) {b : Addr} {u : HO} (e : H b = some u) : ∃ o, h.get? b = some o := by
  have z := x b u e
  cases u with
  | lst xs => obtain ⟨_, _, _, _, e⟩ := z; exact ⟨_, e⟩
  | tup xs => obtain ⟨_, _, _, o, e, _⟩ := z; exact ⟨_, e⟩
  | dK kvs => obtain ⟨_, _, _, _, o, _, _, e, _⟩ := z; exact ⟨_, e⟩
  | dT kvs => obtain ⟨_, _, _, _, o, _, _, e, _⟩ := z; exact ⟨_, e⟩
  | set S n => obtain ⟨o, _, _, _, e, _⟩ := z; exact ⟨_, e⟩
  | ins C dx fs => obtain ⟨_, _, _, e, _⟩ := z; exact ⟨_, e⟩
  | own y => exact z
  | xd fs => obtain ⟨mA, ⟨o, _, _, e, _⟩, _⟩ := z; exact ⟨_, e⟩
  | rng lo hi => obtain ⟨_, _, _, e⟩ := z; exact ⟨_, e⟩
  | frz o u => exact ⟨_, z.1⟩
  | tbl ps => exact ⟨_, z⟩
  | met f y => exact ⟨_, z⟩
  | ext φ => exact z.2.1
theorem each_vals {β : Type} {f : β → V} : ∀ {out : List Value} {bs : List β}, PySem.W.EachIs (fun u p => L2.RelV (f p) u) out bs → Vals (bs.map f) out
  | _, _, .nil => .nil
  | _, _, .cons z zs => .cons z (each_vals zs)
theorem vals_each : ∀ {vs : List V} {us : List Value} {ds : List D}, Vals vs us → vs.length = ds.length → PySem.W.EachIs (fun u (p : V × D) => L2.RelV p.1 u) us (vs.zip ds)
  | _, _, [], .nil, _ => .nil
  | _, _, d :: ds, .cons z zs, h => .cons z (vals_each zs (by simpa using h))
  | _, _, [], .cons z zs, h => by simp at h
  | _, _, d :: ds, .nil, h => by simp at h
variable [Lay]
/-- the table of a lambda's maker has grown -/
theorem Sta.tabbed {K : PySem.W.Frag} {F H H2 : Hp} {σ : L2.St} {ρ : List Slot} {PZ : Addr} {q : Str} (S : Sta K F H σ ρ) (hp : (PZ, q) ∈ Lay.T) (k : ∀ b o, b ≠ PZ → H b = some o → H2 b = some o) (t : LamX.Tabs Lay.T H2) : Sta K F H2 σ ρ ∧ TrX F H σ ρ F H2 ρ := by
  have kn : ∀ b o, NT o → H b = some o → H2 b = some o := fun b o nt e => by
    refine k b o (fun z => ?_) e
    obtain ⟨ps, h1, _⟩ := S.tab.tabs _ hp
    rw [z] at e
    rw [show H PZ = some (.tbl ps) from h1] at e
    cases e
    exact nt ps rfl
  have fP : F PZ = none := S.tab.free _ hp
  refine ⟨⟨fun b o e => k b o (fun z => by rw [z, fP] at e; cases e) (S.sub b o e), S.len, S.fz, fun i d e => ?_, fun i t κ d e => ?_, S.inj, ⟨t, S.tab.free⟩⟩, ⟨⟨Ex.refl F, fun b o e nt _ => kn b o nt e, fun b o e => ?_, fun _ h => .inl h, fun _ _ h => .inl h⟩, fun _ _ _ d h => ⟨d, h⟩, fun _ _ h => .inl h⟩⟩
  · obtain ⟨v, h1, h2⟩ := S.rd i d e
    refine ⟨v, h1, ?_⟩
    rcases h2 with h2 | ⟨κ, a, e1, h2, n⟩
    · exact .inl h2
    · exact .inr ⟨κ, a, e1, h2.mono (Ex.refl F) fun o nt z => kn a o nt z, n⟩
  · obtain ⟨a, h1, h2, h3, h4⟩ := S.ow i t κ d e
    exact ⟨a, h1, h2.mono (Ex.refl F) fun o nt z => kn a o nt z, h3, h4⟩
  · by_cases z : b = PZ
    · obtain ⟨ps, h1, _⟩ := t _ hp
      rw [z]
      exact ⟨_, h1⟩
    · exact ⟨o, k b o z e⟩
/-- the keys of ds by a lambda's body db: n names, the captured ones stand at js -/
def keyed (n : Nat) (js : List Nat) (ρ : List Slot) (db : DTE) (ds : List D) (kk : (D → D) → Prop) : Prop :=
  ∃ kf : D → D, ds.length ≤ sizeLine ∧ PySem.W.AllAlike (ds.map kf) ∧ PySem.W.Sortable (ds.map kf) ∧ (∀ d ∈ ds, (kf d).depth ≤ 60 ∧ noL (kf d) = true) ∧ (∀ d ∈ ds, db (lamR n js ρ d) fun r _ => r = .fz (kf d)) ∧ kk kf
/-- the data, sorted by its keys -/
def sortedBy (kf : D → D) (ds : List D) : List D := ds.mergeSort (PySem.W.dataLe false kf)
theorem dpAll_pairs {K : PySem.W.Frag} {F : Hp} : ∀ {l : List (V × D)}, (∀ p ∈ l, Dp K F p.1 p.2) → DpAll K F (l.map (·.1)) (l.map (·.2))
  | [], _ => .nil
  | p :: l, h => .cons (h p List.mem_cons_self) (dpAll_pairs fun q hq => h q (List.mem_cons_of_mem _ hq))
theorem dpAll_zip {K : PySem.W.Frag} {F : Hp} : ∀ {vs : List V} {ds : List D}, DpAll K F vs ds → ∀ p ∈ vs.zip ds, Dp K F p.1 p.2
  | _, _, .nil, p, h => by simp at h
  | _, _, .cons z zs, p, h => by
    rcases List.mem_cons.mp h with rfl | h
    · exact z
    · exact dpAll_zip zs p h
/-- what is known of a lambda at its place -/
structure LamOk (X : Cx) (k : Nat) (params : Arguments) (body : Expr) (scope : Scope) (N fr : List Str) (x : Str) (js : List Nat) (db : DTE) : Prop where
  sc : LScope N x fr scope
  caps : NdefX.ndefB X.env.scope scope fr = true
  at_ : js.map (fun j => X.N[j]?) = fr.map some
  bind : ∀ (q : Str) (cl : List (Str × Addr)) (pm cv ctv u : Value), bindArgs (PySem.W.kla_fn "<lambda>" q params body scope cl pm cv ctv) ⟨[u], []⟩ = pure [(x, u)]
  len : 1 + js.length ≤ N.length
  body : ∀ (f c' : Addr) (s : Shared) (H : Hp), Room k (X.A.in1.in1.deeper (lamEnv (lamF X params scope c') f s.heap.objs.size)) → @DE layK (lcx CX0 X.prog X.w X.K X.mg X.base N (lamF X params scope c') f X.A.in1.in1 X.stack s H (fun _ _ _ => False)) body db
section
variable {X : Cx} {pins : List (Addr × Obj)} {σ : L2.St} {H : Hp} {s : Shared} {F : Hp} {ρ : List Slot} {k : Nat} {params : Arguments} {body : Expr} {scope : Scope} {N fr : List Str} {x : Str} {js : List Nat} {db : DTE} {f c' : Addr}
theorem LamOk.cp (O : LamOk X k params body scope N fr x js db) (ok : X.Ok) : NdefX.Caps X (cloFrom X.env.cells scope.names []) fr js := .made ok (NdefX.ndef_free O.caps) (NdefX.ndef_fr O.caps) O.at_
theorem LamOk.has (O : LamOk X k params body scope N fr x js db) (ok : X.Ok) : ∀ y ∈ scope.names, y.2 = .free → ∃ c, X.env.cells.lookup y.1 = some c := fun y hy e => by
  rcases NdefX.ndef_free O.caps y hy e with z | z
  · exact ok.has _ (.inl z)
  · exact ok.has _ (.inr z)
/-- a key's call, from the state s or a later one -/
theorem key_turn (I : Inv X pins σ H s) (S : Sta X.K F H σ ρ) (hr : Room (k + 3) X.A) (O : LamOk X k params body scope N fr x js db) (L : LamAt X s params body scope f c') {v : V} {d kd : D} {u : Value} (dv : Dp X.K F v d) (nl : noL kd = true)
    (hk : db (lamR N.length js ρ d) fun r _ => r = .fz kd) (r : L2.RelV v u) {s2 : Shared} (o2 : s2.os = s.os) (g2 : PyProof.Rows.AllBare s2.gens) (w2 : Wkk (frs X.stack) s.heap s2.heap) :
    wpAny (model X.prog X.w) X.A.in1.in1 (call (.ref f) [u]) (KeyW (frs X.stack) kd s2) (fun _ _ => False) s2 := by
  have I2 := w2.inv I o2 g2
  refine key_call (te := @up layK X.K db) (A' := X.A.in1.in1) (Q := fun v' H' => ∃ F', Ex F' H' ∧ @Dp layK X.K F' v' kd) I2 (Room.in1 (Room.in1 hr)) I2.ok.frames (L.wk w2) O.sc (O.cp I2.ok) O.bind (fun s H hr' => O.body f c' s H hr') r ?_ fun u' v' H' s' os gs wk hok rv ⟨F', e', dv'⟩ => ⟨os, gs, wk, ?_⟩
  · exact ⟨fzH H s2.heap, lamR N.length js ρ d, fun r _ => r = .fz kd, lam_sta I2.hok S (dp_fz I2.hok S.sub dv) O.len, hk, fun r ρ' v' F' H' e S' _ ft => by subst e; exact ⟨F', @Sta.sub layK _ _ _ _ _ S', ft⟩⟩
  · refine dp_reads (ly := layK) hok (fun b o e => ?_) e' kd v' u' nl dv' rv
    have hb := I2.ok.mod.kin b o e
    refine (wk b o (I2.bk b o hb)).1 fun z => ?_
    have := (I2.stack.mem z).1
    rw [hb] at this
    cases this
theorem sort_core (I : Inv X pins σ H s) (S : Sta X.K F H σ ρ) (hr : Room (k + 3) X.A) (O : LamOk X k params body scope N fr x js db) (L : LamAt X s params body scope f c') {u : Value} {vs : List V} {ds : List D} {kf : D → D} {Q : VK}
    (dv : DpAll X.K F vs ds) (hL : ds.length ≤ sizeLine) (hal : PySem.W.AllAlike (ds.map kf)) (hsk : PySem.W.Sortable (ds.map kf)) (hd : ∀ d ∈ ds, (kf d).depth ≤ 60 ∧ noL (kf d) = true) (hk : ∀ d ∈ ds, db (lamR N.length js ρ d) fun r _ => r = .fz (kf d))
    (coll : ∀ (E' : Value → Shared → Prop) (Q' : List Value → Shared → Prop), (∀ (us : List Value) (h' : Heap) (tk : Nat), (∀ b o, s.heap.get? b = some o → h'.get? b = some o) → Vals vs us → Q' us { s with heap := h', toks := tk }) → wpAny (model X.prog X.w) X.A.in1 (collect u) Q' E' s)
    (fin : ∀ (p : Addr) (ws : List V), H p = none → DpAll X.K F ws (sortedBy kf ds) → Q (.ref p) (upd H p (.lst ws))) :
    wpAny (model X.prog X.w) X.A (call (.builtin "sorted") [u] [(Str.ofString "key", .ref f)]) (EP X pins σ Q) X.xe s := by
  have vl := dpAll_len dv
  have ms : (vs.zip ds).map (·.2) = ds := List.map_snd_zip (by omega)
  have mk : (vs.zip ds).map (fun p => kf p.2) = ds.map kf := by
    rw [show (fun p : V × D => kf p.2) = kf ∘ (·.2) from rfl, ← List.map_map, ms]
  refine sorted_coll (fs := frs X.stack) (bs := vs.zip ds) (R := fun u p => L2.RelV p.1 u) (fun p => kf p.2) I.bare (fun b hb => ?_) (by rw [List.length_zip]; omega) (by rw [mk]; exact hal) (by rw [mk]; exact hsk) (fun p hp => ?_)
    (fun E' Q' h => coll E' Q' fun us h' tk kp r => h us h' tk kp (vals_each r vl)) (fun v p hR hp s2 o2 g2 w2 => ?_) fun s' out DZ c os gs wk hD0 hD e => ?_
  · obtain ⟨_, o, ho, _⟩ := I.stack.mem hb
    exact ⟨o, ho⟩
  · have := (hd p.2 (List.of_mem_zip hp).2).1
    have := hr.un
    omega
  · have hp2 := (List.of_mem_zip hp).2
    exact key_turn I S hr O L (dpAll_zip dv p hp) (hd _ hp2).2 (hk _ hp2) hR o2 g2 w2
  · have hDn : H DZ = none := by
      cases q : H DZ with
      | none => rfl
      | some o =>
        obtain ⟨ob, z⟩ := hok_get I.hok q
        rw [hD0] at z; cases z
    have rv : Vals (((vs.zip ds).mergeSort (PySem.W.dataLe false fun p => kf p.2)).map (·.1)) out := each_vals e
    have esn : ((vs.zip ds).mergeSort (PySem.W.dataLe false fun p => kf p.2)).map (·.2) = sortedBy kf ds := by
      unfold sortedBy
      rw [List.map_mergeSort (r := PySem.W.dataLe false fun p : V × D => kf p.2) (s := PySem.W.dataLe false kf) (f := fun p : V × D => p.2) (fun a _ b _ => rfl), ms]
    have dpO : DpAll X.K F (((vs.zip ds).mergeSort (PySem.W.dataLe false fun p => kf p.2)).map (·.1)) (sortedBy kf ds) := by
      rw [← esn]
      exact dpAll_pairs fun p hp => dpAll_zip dv p (List.mem_mergeSort.mp hp)
    have hlen : (((vs.zip ds).mergeSort (PySem.W.dataLe false fun p => kf p.2)).map (·.1)).length ≤ sizeLine := by
      rw [List.length_map, List.length_mergeSort, List.length_zip]; omega
    have ne : ∀ b u, H b = some u → b ≠ DZ := fun b u z y => by rw [y, hDn] at z; cases z
    have hokD : HOk X.prog X.w (upd H DZ (.lst (((vs.zip ds).mergeSort (PySem.W.dataLe false fun p => kf p.2)).map (·.1)))) s'.heap := fun b u z => by
      by_cases hb : b = DZ
      · rw [hb, upd_same] at z
        cases z
        rw [hb]
        exact ⟨hlen, out, c, rv, hD⟩
      · rw [upd_ne hb] at z
        exact (wk.hok I b u z).stay (fun _ _ _ q => q) (fun b' q => by rw [upd_ne (ne _ _ q)]; exact q) fun b' xs q => by rw [upd_ne (ne _ _ q)]; exact q
    have un := wk.un I
    have unD : Un (frs X.stack) [] H (upd H DZ (.lst (((vs.zip ds).mergeSort (PySem.W.dataLe false fun p => kf p.2)).map (·.1)))) s.heap s'.heap :=
      ⟨un.keep, un.slot, fun b o z n _ => by rw [upd_ne (fun y => by rw [y, hD0] at z; cases z)]; exact n, un.there, fun b xs q => by rw [upd_ne (ne _ _ q)]; exact q, fun b o u q => by rw [upd_ne (ne _ _ q)]; exact q, fun b ps q => ⟨#[], by rw [upd_ne (ne _ _ q), q]; simp⟩⟩
    exact ⟨.ref DZ, _, I.call' os unD hokD gs (fun b hb => absurd hb (by simp)), rfl, fin DZ _ hDn dpO⟩
end
end TL

-- part TL30
/-! TL30: the rules for sorted(.., key=lambda ..). -/
namespace TL
open PySem PySem.Spec L2
open Evl (Ex ex_l ex_t)
variable [Lay]
/-- the maker's table is told of -/
structure LamTab (X : Cx) : Prop where
  ex : ∃ c P, LamX.TabB X.base X.mg c P ∧ X.env.code = .ref c ∧ (P, X.env.qual ++ "<lambda>") ∈ Lay.T ∧ ∀ p ∈ Lay.T, p.1 = P → p.2 = X.env.qual ++ "<lambda>"
@[simp] def dSortK (n : Nat) (js : List Nat) (da db : DTE) : DTE := fun ρ k => da ρ fun r ρ1 => wc r ρ1 fun d => match d with
  | .list ds => keyed n js ρ1 db ds fun kf => k (.tm .l (.list (sortedBy kf ds))) ρ1
  | _ => False
@[simp] def dSortKR (n : Nat) (js : List Nat) (da db : DTE) : DTE := fun ρ k => da ρ fun r ρ1 => wc r ρ1 fun d => match d with
  | .int m => okLen 0 m ∧ keyed n js ρ1 db (rangeD 0 1 m.toNat) fun kf => k (.tm .l (.list (sortedBy kf (rangeD 0 1 m.toNat)))) ρ1
  | _ => False
section
variable {X : Cx} {pins : List (Addr × Obj)} {σ : L2.St} {H : Hp} {s : Shared} {F : Hp} {ρ : List Slot} {k : Nat} {params : Arguments} {body : Expr} {scope : Scope} {N fr : List Str} {x : Str} {js : List Nat} {db da : DTE} {f c' : Addr} {id : String} {Q : VK} {us : List Value} {pos lpos kpos p p2 pos2 : Pos} {e a : Expr}
theorem lam_arg (I : Inv X pins σ H s) (S : Sta X.K F H σ ρ) (T : LamTab X) (O : LamOk X k params body scope N fr x js db) (hdef : defaultsOf params X.env = ([], []))
    (fin : ∀ (f c' : Addr) (H2 : Hp) (s2 : Shared), Inv X pins σ H2 s2 → Sta X.K F H2 σ ρ → TrX F H σ ρ F H2 ρ → (∀ b o, NT o → H b = some o → H2 b = some o) → (∀ b o, o.cls ≠ .none → s.heap.get? b = some o → s2.heap.get? b = some o) → LamAt X s2 params body scope f c' → wpAny (model X.prog X.w) X.A (call (.builtin id) us [(Str.ofString "key", .ref f)]) (EP X pins σ Q) X.xe s2) :
    wpAny (model X.prog X.w) X.A (evalAll ((backToKw pos (keywordEach [⟨some (Str.ofString "key"), .Lambda params body scope lpos, kpos⟩] X.env)).map (·.2))) (fun ws s2 => wpAny (model X.prog X.w) X.A (call (.builtin id) us ([Str.ofString "key"].zip ws)) (EP X pins σ Q) X.xe s2) X.xe s := by
  obtain ⟨cZ, PZ, TB, hcode, hm, hu⟩ := T.ex
  show wpAny _ _ (evalAll ((do let v ← eval (.Lambda params body scope lpos) X.env; standAt pos; pure v) :: [])) _ _ s
  refine wpAny_evalAll_cons (wpAny_bind (lam_new I TB hcode hm hu S.tab.tabs hdef (O.has I.ok) fun f c' H1 s1 I1 k1 hx1 t1 L => wpAny_bind (wpAny_standAt (wpAny_pure (wpAny_evalAll_nil ?_)))))
  obtain ⟨S1, T1⟩ := S.tabbed hm k1 t1
  refine fin f c' H1 s1 I1 S1 T1 (fun b o nt e => ?_) (fun b o nc e => hx1 b o (fun y => ?_) e) L
  · obtain ⟨ps, z, _⟩ := S.tab.tabs _ hm
    exact k1 b o (fun y => by rw [y, show H PZ = some (.tbl ps) from z] at e; cases e; exact nt ps rfl) e
  · obtain ⟨ps, z, _⟩ := S.tab.tabs _ hm
    have z2 : s.heap.get? PZ = some { cls := .none, data := .fields ps } := I.hok PZ _ z
    rw [y, z2] at e
    cases e
    exact nc rfl
theorem de_sortK (hr : Room (k + 3) X.A) (T : LamTab X) (O : LamOk X k params body scope N fr x js db) (hdef : defaultsOf params X.env = ([], [])) (hg : Gl X "sorted") (hm : X.mg "sorted" = none) (ha : DE X e da)
    (he : backTo pos (starEach [e] X.env) = (false, eval e X.env) :: backTo pos (starEach [] X.env) := by rfl) (hs : starEach [e] X.env = (false, eval e X.env) :: starEach [] X.env := by rfl) (hpl : (backTo pos (starEach [e] X.env)).any (·.1) = false := by rfl) :
    DE X (.Call (.Name "sorted" p) [e] [⟨some (Str.ofString "key"), .Lambda params body scope lpos, kpos⟩] pos) (dSortK N.length js da db) := by
  refine ⟨fun pins s σ H Q I h => ?_⟩
  obtain ⟨F, ρ, kk, S, q, fin⟩ := h
  refine wpAny_Call_Name_kw (ld_blt I hg hm (by rfl) ?_ (by decide) (by decide))
  refine PyProof.Rows.callWith_kw (thn ((pa_cons ha pa_nil hs).run pos pins s σ H (fun vs H1 => ∃ v F1 ρ1 r, vs = [v] ∧ Sta X.K F1 H1 σ ρ1 ∧ TrX F H σ ρ F1 H1 ρ1 ∧ Fits X.K F1 H1 σ ρ1 H v r ∧ wc r ρ1 fun d => match d with
      | .list ds => keyed N.length js ρ1 db ds fun kf => kk (.tm .l (.list (sortedBy kf ds))) ρ1
      | _ => False) I ⟨F, ρ, _, S, q, fun r ρ1 v F1 H1 q S1 T1 f => ⟨v, F1, ρ1, r, rfl, S1, T1, f, q⟩⟩) fun us s1 ⟨vs, H1, I1, r1, v, F1, ρ1, r, ev, S1, T1, ft, q⟩ => ?_) he hpl rfl rfl
  subst ev
  obtain ⟨u, rfl, ru⟩ := vals1 r1
  obtain ⟨d, rd, q⟩ := wc_rd S1 ft q
  split at q
  · rename_i ds
    obtain ⟨kf, hL, hal, hsk, hd, hk, q⟩ := q
    obtain ⟨l, xs, rfl, hl, dv⟩ := rd.list S1.sub
    cases ru
    refine lam_arg I1 S1 T O hdef fun f c' H2 s2 I2 S2 T2 kn _ L => ?_
    have hl2 : Rd H2 l (.lst xs) := hl.imp (kn _ _ nt_l) fun ⟨o, z⟩ => ⟨o, kn _ _ (fun _ y => by cases y) z⟩
    obtain ⟨its, rv, pl, hz⟩ := I2.list (xs := xs) (.inl hl2)
    have hzl : its.length ≤ sizeLine := by rw [← rv.length]; exact hz
    refine sort_core I2 S2 hr O L dv hL hal hsk hd hk (fun E' Q' h => ?_) fun D ws hD dw => ?_
    · exact PyProof.Rows.collect_list (vs := its) pl.isList (h its _ s2.toks (fun b o z => by
        rw [Heap.get?_update_ne _ _ _ _ (Nat.ne_of_lt (Heap.lt_size z))]
        exact Heap.get?_push_of_some _ z) rv) hzl
    · have n := New.list (K := X.K) S2.sub hD dw
      exact fin _ _ _ _ _ q (n.sta S2) ((T1.trans T2).trans n.tr) (n.fits S2 fun _ z => (T1.trans T2).none z)
  · exact q.elim
theorem de_sortKR (hr : Room (k + 3) X.A) (T : LamTab X) (O : LamOk X k params body scope N fr x js db) (hdef : defaultsOf params X.env = ([], [])) (hg : Gl X "sorted") (hm : X.mg "sorted" = none) (hg2 : Gl X "range") (hm2 : X.mg "range" = none) (hc : X.calm = true) (ha : DE X a da)
    (na : starEach [a] X.env = (false, eval a X.env) :: starEach [] X.env := by rfl)
    (he : backTo pos (starEach [.Call (.Name "range" p2) [a] [] pos2] X.env) = (false, eval (.Call (.Name "range" p2) [a] [] pos2) X.env) :: backTo pos (starEach [] X.env) := by rfl) (hpl : (backTo pos (starEach [.Call (.Name "range" p2) [a] [] pos2] X.env)).any (·.1) = false := by rfl) :
    DE X (.Call (.Name "sorted" p) [.Call (.Name "range" p2) [a] [] pos2] [⟨some (Str.ofString "key"), .Lambda params body scope lpos, kpos⟩] pos) (dSortKR N.length js da db) := by
  refine ⟨fun pins s σ H Q I h => ?_⟩
  obtain ⟨F, ρ, kk, S, q, fin⟩ := h
  refine wpAny_Call_Name_kw (ld_blt I hg hm (by rfl) ?_ (by decide) (by decide))
  refine PyProof.Rows.callWith_kw ?_ he hpl rfl rfl
  rw [he]
  refine Calls.spliced_cons (thn (prg_1 hg2 hm2 ha na pins s σ H (fun lo n H1 => lo = 0 ∧ ∃ F1 ρ1, Sta X.K F1 H1 σ ρ1 ∧ TrX F H σ ρ F1 H1 ρ1 ∧ okLen 0 n ∧ keyed N.length js ρ1 db (rangeD 0 1 n.toNat) fun kf => kk (.tm .l (.list (sortedBy kf (rangeD 0 1 n.toNat)))) ρ1) I ⟨F, ρ, _, S, q, fun r ρ1 v F1 H1 q S1 T1 f => ?_⟩)
    fun y s1 ⟨r, lo, n, t, u, v, H1, ex, hr1, I1, elo, F1, ρ1, S1, T1, ok, q⟩ => Calls.spliced_nil ?_)
  · obtain ⟨d, rd, q⟩ := wc_rd S1 f q
    split at q
    · rename_i m
      cases rd.int
      exact ⟨m, rfl, rfl, F1, ρ1, S1, T1, q.1, q.2⟩
    · exact q.elim
  · subst ex elo
    obtain ⟨kf, hL, hal, hsk, hd, hk, q⟩ := q
    obtain ⟨b1, b2, b3⟩ := ok
    refine lam_arg I1 S1 T O hdef fun f c' H2 s2 I2 S2 T2 kn hx L => ?_
    have hr2 : IsRange s2.heap r 0 n 1 t u v := hx r _ (fun y => by cases y) hr1
    have nz : (n - 0).toNat = n.toNat := by rw [Int.sub_zero]
    refine sort_core (vs := rgV 0 n) I2 S2 hr O L (by unfold rgV; rw [nz]; exact dp_rg 0 n.toNat) hL hal hsk hd hk (fun E' Q' h => ?_) fun D ws hD dw => ?_
    · refine collect_range (n := (n - 0).toNat) (I2.ok.hd hc) hr2 (small_one b1.1 b1.2 b2.1 b2.2) (PyProof.Rows.rangeSize_nat 0 n) b3 fun h' tk acc hk' hi => ?_
      exact h acc.toList h' tk hk' (vals_rg hi)
    · have n2 := New.list (K := X.K) S2.sub hD dw
      exact fin _ _ _ _ _ q (n2.sta S2) ((T1.trans T2).trans n2.tr) (n2.fits S2 fun _ z => (T1.trans T2).none z)
end
end TL

-- part TL31
/-! TL31: comprehensions with two clauses. -/
namespace TL
open PySem PySem.Spec L2
open Evl (Ex ex_l ex_t)
variable [Lay]
/-- what an inner walk must bear: lists that were there ahead of it may change -/
structure TrB (He F0 H0 : Hp) (σ0 : L2.St) (ρ0 : List Slot) (F H : Hp) : Prop where
  fext : Ex F0 F
  keep : ∃ P : Addr → Prop, (∀ L, P L → ∃ o, He L = some o) ∧ ∀ b o, ¬ P b → H0 b = some o → NT o → ¬ OA σ0 ρ0 b → H b = some o
def Wk2 (K : PySem.W.Frag) (J : It) (items : List D) (src : List (Nat × D)) (He F0 H0 : Hp) (σ0 : L2.St) (ρ0 : List Slot) : Prop :=
  ∀ F H σ ρ, Sta K F H σ ρ → TrB He F0 H0 σ0 ρ0 F H → (∀ p ∈ src, σ[p.1]? = σ0[p.1]? ∧ cont ρ p.1 = some p.2) →
    (∀ i, items.length ≤ i → J.stop i H) ∧ ∀ i d, items[i]? = some d → J.go i H ∧ ∀ x H', J.yld i H x H' → ∃ F', Ex F F' ∧ Ex H H' ∧ Ex F' H' ∧ (∀ b o, F' b = some o → F b = some o ∨ H b = none) ∧ Dp K F' x d
def upI2 (K : PySem.W.Frag) (w : DTI) : TI := fun σ H R => ∃ F ρ k, Sta K F H σ ρ ∧ w ρ k ∧ ∀ items src ρ' F' H' J, k items src ρ' → Sta K F' H' σ ρ' → TrX F H σ ρ F' H' ρ' → Wk2 K J items src H F' H' σ ρ' → R J H'
def DI2 (X : Cx) (tg it : Expr) (w : DTI) : Prop := PI X tg it (upI2 X.K w)
@[simp] def nrd : Res → Prop
  | .rd _ => False
  | _ => True
theorem later2_rd {K : PySem.W.Frag} {F F0 H H0 Hs : Hp} {σ σ0 : L2.St} {ρ ρ0 : List Slot} {v : V} {r : Res} {d : D} (nr : nrd r) (f : Fits K F0 H0 σ0 ρ0 Hs v r) (hw : wc r ρ0 fun d' => d' = d) (S : Sta K F H σ ρ) (T : TrB Hs F0 H0 σ0 ρ0 F H)
    (hs : ∀ p ∈ srcOf r d, σ[p.1]? = σ0[p.1]? ∧ cont ρ p.1 = some p.2) : RdAt K F H v d := by
  cases r with
  | fz d' => cases hw; exact .inl (dp_mono T.fext f)
  | tm κ d' =>
    cases hw
    obtain ⟨a, e, h, n, o, h0⟩ := f
    obtain ⟨P, p1, p2⟩ := T.keep
    refine .inr ⟨κ, a, e, h.mono T.fext fun u nt q => p2 _ _ (fun z => ?_) q nt o⟩
    obtain ⟨u, hu⟩ := p1 a z
    rw [h0] at hu; cases hu
  | rd d' => exact nr.elim
  | bo i =>
    have f : σ0[i]? = some (some v) := f
    obtain ⟨h1, h2⟩ := hs (i, d) (by simp [srcOf])
    have h1 : σ[i]? = σ0[i]? := h1
    have h2 : cont ρ i = some d := h2
    rw [f] at h1
    unfold cont at h2
    split at h2
    · rename_i t κ d' e
      cases h2
      obtain ⟨a, e1, q, _⟩ := S.ow i t κ d e
      rw [h1] at e1; cases e1
      exact .inr ⟨κ, a, rfl, q⟩
    · rename_i d' e
      cases h2
      obtain ⟨w, e1, q⟩ := S.fz i d e
      rw [h1] at e1; cases e1
      exact .inl q
    · rename_i d' e
      cases h2
      obtain ⟨w, e1, q⟩ := S.rd i d e
      rw [h1] at e1; cases e1
      exact RdN.at q
    · cases h2
@[simp] def dItL2 (da : DTE) : DTI := fun ρ k => da ρ fun r ρ1 => nrd r ∧ wc r ρ1 fun d => match d with
  | .list ds => k ds (srcOf r d) ρ1
  | _ => False
@[simp] def dItT2 (da : DTE) : DTI := fun ρ k => da ρ fun r ρ1 => nrd r ∧ wc r ρ1 fun d => match d with
  | .tuple ds => k ds (srcOf r d) ρ1
  | _ => False
@[simp] def dItE2 (da : DTA) : DTI := fun ρ k => da ρ fun rs ρ1 => match rs with
  | [r] => nrd r ∧ wc r ρ1 fun d => match d with
    | .list ds => k (enumD 0 ds) (srcOf r d) ρ1
    | _ => False
  | _ => False
section
variable {X : Cx} {tg l : Expr} {da : DTE} {ea : DTA} {pos p : Pos}
theorem di2_list (h : DE X l da) : DI2 X tg l (dItL2 da) := PI.le (pi_list h) fun σ H R ⟨F, ρ, k, S, q, fin⟩ => ⟨F, ρ, _, S, q, fun r ρ1 v F1 H1 q S1 T1 f => by
  obtain ⟨nr, q⟩ := q
  obtain ⟨d, q, hw⟩ := wc_eq q
  split at q
  · rename_i ds
    obtain ⟨a, xs, rfl, h1, h2⟩ := (wc_rdeq S1 f hw).list S1.sub
    refine ⟨a, rfl, ⟨xs, (.inl h1)⟩, fin _ _ _ _ _ _ q S1 T1 fun F2 H2 σ2 ρ2 S2 T2 hs => ?_⟩
    obtain ⟨a', ys, e, h3, h4⟩ := (later2_rd nr f hw S2 T2 hs).list S2.sub
    cases e
    refine ⟨fun i hi => ⟨ys, (.inl h3), by rw [dpAll_len h4]; exact hi⟩, fun i d hd => ?_⟩
    obtain ⟨w, e1, dw⟩ := dpAll_get' h4 hd
    refine ⟨⟨ys, w, (.inl h3), e1⟩, fun x H' hy => ?_⟩
    obtain ⟨rfl, hy⟩ := hy
    have := hy ys ((.inl h3))
    rw [e1] at this; cases this
    exact ⟨F2, Ex.refl _, Ex.refl _, S2.sub, fun _ _ z => .inl z, dw⟩
  · exact q.elim⟩
theorem di2_tup (h : DE X l da) : DI2 X tg l (dItT2 da) := PI.le (pi_tup h) fun σ H R ⟨F, ρ, k, S, q, fin⟩ => ⟨F, ρ, _, S, q, fun r ρ1 v F1 H1 q S1 T1 f => by
  obtain ⟨nr, q⟩ := q
  obtain ⟨d, q, hw⟩ := wc_eq q
  split at q
  · rename_i ds
    obtain ⟨a, xs, rfl, h1, h2, _⟩ := (wc_rdeq S1 f hw).tuple
    refine ⟨a, rfl, ⟨xs, (ex_t S1.sub h1)⟩, fin _ _ _ _ _ _ q S1 T1 fun F2 H2 σ2 ρ2 S2 T2 hs => ?_⟩
    obtain ⟨a', ys, e, h3, h4, _⟩ := (later2_rd nr f hw S2 T2 hs).tuple
    cases e
    have h3 := ex_t S2.sub h3
    refine ⟨fun i hi => ⟨ys, h3, by rw [dpAll_len h4]; exact hi⟩, fun i d hd => ?_⟩
    obtain ⟨w, e1, dw⟩ := dpAll_get' h4 hd
    refine ⟨⟨ys, w, h3, e1⟩, fun x H' hy => ?_⟩
    obtain ⟨rfl, hy⟩ := hy
    have := hy ys (h3)
    rw [e1] at this; cases this
    exact ⟨F2, Ex.refl _, Ex.refl _, S2.sub, fun _ _ z => .inl z, dw⟩
  · exact q.elim⟩
theorem di2_enum {e : Expr} {tpos : Pos} {elts : List Expr} {kk : Nat} (hg : Gl X "enumerate") (hm : X.mg "enumerate" = none) (ha : DA X [e] ea) (hs : starEach [e] X.env = [(false, eval e X.env)] := by rfl) :
    DI2 X (.Tuple elts kk tpos) (.Call (.Name "enumerate" p) [e] [] pos) (dItE2 ea) :=
  PI.le (pi_enum hg hm ha hs) fun σ H R ⟨F, ρ, k, S, q, fin⟩ => ⟨F, ρ, _, S, q, fun rs ρ1 vs F1 H1 q S1 T1 f => by
    split at q
    · rename_i r
      obtain ⟨nr, q⟩ := q
      obtain ⟨d, q, hw⟩ := wc_eq q
      match vs, f with
      | [v], ⟨f, _⟩ =>
        split at q
        · rename_i ds
          obtain ⟨a, xs, rfl, h1, h2⟩ := (wc_rdeq S1 f hw).list S1.sub
          refine ⟨a, xs, rfl, (.inl h1), fin _ _ _ _ _ _ q S1 T1 fun F2 H2 σ2 ρ2 S2 T2 hs => ?_⟩
          obtain ⟨a', ys, e, h3, h4⟩ := (later2_rd nr f hw S2 T2 hs).list S2.sub
          cases e
          refine ⟨fun i hi => ⟨ys, (.inl h3), by rw [dpAll_len h4]; rw [enumD_len] at hi; exact hi⟩, fun i d hd => ?_⟩
          obtain ⟨x, e1, rfl⟩ := enumD_get hd
          obtain ⟨w, e2, dw⟩ := dpAll_get' h4 e1
          refine ⟨⟨ys, w, (.inl h3), e2⟩, fun x' H' hy => ?_⟩
          obtain ⟨T, x2, rfl, hT, rfl, hy⟩ := hy
          have := hy ys ((.inl h3))
          rw [e2] at this; cases this
          have e0 : (0 : Int) + (i : Int) = (i : Int) := by omega
          rw [e0]
          exact pair_new S2.sub hT (.int _) dw
        · exact q.elim
    · exact q.elim⟩
theorem wk2_range {K : PySem.W.Frag} {He F H : Hp} {σ : L2.St} {ρ : List Slot} {lo : Int} {n : Nat} : Wk2 K (Itr lo n) (rangeD lo 1 n) [] He F H σ ρ := fun F2 H2 σ2 ρ2 S2 T2 hs => (wk_Itr (K := K) (F := F2) (H := H2) (σ := σ2) (ρ := ρ2)) F2 H2 σ2 ρ2 S2 .refl fun p hp => absurd hp (by simp)
theorem di2_range1 {a : Expr} (hg : Gl X "range") (hm : X.mg "range" = none) (ha : DA X [a] ea) (hs : starEach [a] X.env = [(false, eval a X.env)] := by rfl) : DI2 X tg (.Call (.Name "range" p) [a] [] pos) (dItR1 ea) :=
  PI.le (pi_range1 hg hm ha hs) fun σ H R ⟨F, ρ, k, S, q, fin⟩ => ⟨F, ρ, _, S, q, fun rs ρ1 vs F1 H1 q S1 T1 f => by
    obtain ⟨ds, rd, q⟩ := wcs_rd S1 f q
    split at q
    · obtain ⟨v, rfl, h⟩ := rd.one
      cases h.int
      exact ⟨_, rfl, q.1.1, q.1.2, fin _ _ _ _ _ _ q.2 S1 T1 wk2_range⟩
    · exact q.elim⟩
theorem di2_range2 {a b : Expr} (hg : Gl X "range") (hm : X.mg "range" = none) (ha : DA X [a, b] ea) (hs : starEach [a, b] X.env = [(false, eval a X.env), (false, eval b X.env)] := by rfl) (hs2 : starEach [b] X.env = [(false, eval b X.env)] := by rfl) :
    DI2 X tg (.Call (.Name "range" p) [a, b] [] pos) (dItR2 ea) :=
  PI.le (pi_range2 hg hm ha hs hs2) fun σ H R ⟨F, ρ, k, S, q, fin⟩ => ⟨F, ρ, _, S, q, fun rs ρ1 vs F1 H1 q S1 T1 f => by
    obtain ⟨ds, rd, q⟩ := wcs_rd S1 f q
    split at q
    · obtain ⟨v, w, rfl, h, h'⟩ := rd.two
      cases h.int; cases h'.int
      exact ⟨_, _, rfl, ⟨q.1.1.1, q.1.1.2, q.1.2.1, q.1.2.2⟩, fin _ _ _ _ _ _ q.2 S1 T1 wk2_range⟩
    · exact q.elim⟩
end
/-- the names at js hold frozen things or none -/
@[simp] def fzAt : List Nat → List Slot → Prop
  | [], _ => True
  | j :: js, ρ => (match ρ[j]? with | some (.rd _) => False | some (.ow _ _ _) => False | _ => True) ∧ fzAt js ρ
theorem fzAt_not {js : List Nat} {ρ : List Slot} {j : Nat} (h : fzAt js ρ) (hj : j ∈ js) : (∀ d, ρ[j]? ≠ some (.rd d)) ∧ ∀ t κ d, ρ[j]? ≠ some (.ow t κ d) := by
  induction js with
  | nil => cases hj
  | cons i js ih =>
    rcases List.mem_cons.mp hj with rfl | hj
    · have h1 := h.1
      refine ⟨fun d e => ?_, fun t κ d e => ?_⟩ <;> (rw [e] at h1; exact h1)
    · exact ih h.2 hj
/-- the turns of two clauses -/
def dCompL2 (g : DTG) (tt : DTT) (w1 : DTI) (g1 : DTG) (tt1 : DTT) (te : DTE) (src : List (Nat × D)) (vs vs1 : List Nat) (k : List D → List Slot → Prop) : List D → List D → List Slot → Prop
  | [], acc, ρ => stl src ρ ∧ k acc ρ
  | d :: ds, acc, ρ => stl src ρ ∧ g d ρ fun ρ1 => fzAt vs ρ1 ∧ tt ρ1 fun b ρ2 => if b = true then w1 ρ2 fun items1 src1 ρ3 => (∀ p ∈ src1, p.1 ∉ vs1) ∧ dCompL g1 tt1 te src1 vs1 (fun acc' ρ4 => dCompL2 g tt w1 g1 tt1 te src vs vs1 k ds acc' (wipeR ρ4 vs)) items1 acc (wipeR ρ3 vs1)
      else dCompL2 g tt w1 g1 tt1 te src vs vs1 k ds acc (wipeR ρ2 vs)
@[simp] def dComp2 (w : DTI) (g : DTG) (tt : DTT) (w1 : DTI) (g1 : DTG) (tt1 : DTT) (te : DTE) (vs vs1 : List Nat) : DTE := fun ρ k => w ρ fun items src ρ1 => (∀ p ∈ src, p.1 ∉ vs) ∧ dCompL2 g tt w1 g1 tt1 te src vs vs1 (fun acc ρ2 => k (.tm .l (.list acc)) (restR vs ρ1 ρ2)) items [] (wipeR ρ1 vs)
section
variable {σ : L2.St} {ρ : List Slot}
theorem wipe_in {j : Nat} : ∀ {vs : List Nat}, j ∈ vs → j < σ.length → (L2.wipe σ vs)[j]? = some none
  | u :: us, h, hl => by
    by_cases e : u = j
    · subst e
      show ((L2.wipe σ us).set u none)[u]? = _
      rw [List.getElem?_set]
      simp [wipe_length, hl]
    · show ((L2.wipe σ us).set u none)[j]? = _
      rw [List.getElem?_set_ne e]
      exact wipe_in ((List.mem_cons.mp h).resolve_left (fun z => e z.symm)) hl
theorem wipe_eq {σ' : L2.St} {vs : List Nat} (hl : σ'.length = σ.length) (h : ∀ j, j ∉ vs → σ'[j]? = σ[j]?) : L2.wipe σ' vs = L2.wipe σ vs := by
  refine List.ext_getElem? fun j => ?_
  by_cases hj : j ∈ vs
  · by_cases hlt : j < σ.length
    · rw [wipe_in hj (by omega), wipe_in hj hlt]
    · rw [List.getElem?_eq_none (by rw [wipe_length]; omega), List.getElem?_eq_none (by rw [wipe_length]; omega)]
  · rw [wipe_get hj, wipe_get hj, h j hj]
theorem wipe_wipe {vs1 vs : List Nat} (h : ∀ j ∈ vs1, j ∈ vs) : L2.wipe (L2.wipe σ vs1) vs = L2.wipe σ vs :=
  wipe_eq (wipe_length ..) fun j hj => wipe_get fun z => hj (h j z)
theorem wipeR_in {j : Nat} : ∀ {vs : List Nat}, j ∈ vs → j < ρ.length → (wipeR ρ vs)[j]? = some .un
  | u :: us, h, hl => by
    by_cases e : u = j
    · subst e
      show ((wipeR ρ us).set u .un)[u]? = _
      rw [List.getElem?_set]
      simp [wipeR_len, hl]
    · show ((wipeR ρ us).set u .un)[j]? = _
      rw [List.getElem?_set_ne e]
      exact wipeR_in ((List.mem_cons.mp h).resolve_left (fun z => e z.symm)) hl
theorem wipeR_wipeR {vs1 vs : List Nat} (h : ∀ j ∈ vs1, j ∈ vs) : wipeR (wipeR ρ vs1) vs = wipeR ρ vs := by
  refine List.ext_getElem? fun j => ?_
  by_cases hj : j ∈ vs
  · by_cases hlt : j < ρ.length
    · rw [wipeR_in hj (by rw [wipeR_len]; exact hlt), wipeR_in hj hlt]
    · rw [List.getElem?_eq_none (by rw [wipeR_len, wipeR_len]; omega), List.getElem?_eq_none (by rw [wipeR_len]; omega)]
  · rw [wipeR_get hj, wipeR_get (fun z => hj (h j z)), wipeR_get hj]
end
end TL

-- part TL32
/-! TL32: the rule for comprehensions with two clauses. -/
namespace TL
open PySem PySem.Spec L2
open Evl (Ex ex_l ex_t)
variable [Lay]
section
variable {X : Cx} {pos : Pos}
theorem up_comp2 {w w1 : DTI} {js js1 : List Nat} {g g1 : DTG} {tt tt1 : DTT} {te : DTE} {vs vs1 : List Nat} {K : PySem.W.Frag} (hj : ∀ j ∈ js, j ∈ vs) (hj1 : ∀ j ∈ js1, j ∈ vs1) (hv : ∀ j ∈ vs1, j ∈ vs) {σ : L2.St} {H : Hp} {Q : VK} (h : up K (dComp2 w g tt w1 g1 tt1 te vs vs1) σ H Q) :
    tLc2 (upI K w) (upG K js g) (upT K tt) (upI2 K w1) (upG K js1 g1) (upT K tt1) (up K te) vs vs1 σ H Q := by
  obtain ⟨F, ρ, k, S, q, fin⟩ := h
  refine ⟨F, ρ, _, S, q, fun items src ρ1 F1 H1 J q S1 T1 wk L hL => ?_⟩
  obtain ⟨q0, q⟩ := q
  have fL : F1 L = none := by
    cases e : F1 L with
    | none => rfl
    | some o => rw [S1.sub L o e] at hL; cases hL
  have oL : ¬ OA σ ρ1 L := fun ⟨i, t, κ, d, h1, h2⟩ => by
    obtain ⟨a, e1, h3, _⟩ := S1.ow i t κ d h1
    rw [h2] at e1
    cases e1
    obtain ⟨o, ho⟩ := h3.some
    rw [hL] at ho; cases ho
  have oLw : ¬ OA (L2.wipe σ vs) (wipeR ρ1 vs) L := fun z => oL (oa_wipe z)
  have Sw := S1.wipe (vs := vs)
  have rdw : ∀ (i : Nat) (d : D), (wipeR ρ1 vs)[i]? = some (.rd d) → (L2.wipe σ vs)[i]? = some (some (.ref L)) → Dp K F1 (.ref L) d := fun i d e1 e2 => by
    obtain ⟨v, h1, h2⟩ := Sw.rd i d e1
    rw [e2] at h1
    cases h1
    rcases h2 with h2 | ⟨κ, a, e3, h2, _⟩
    · exact h2
    · cases e3
      obtain ⟨o, ho⟩ := h2.some
      rw [hL] at ho; cases ho
  let DC := dCompL2 g tt w1 g1 tt1 te src vs vs1 (fun acc ρ2 => k (.tm .l (.list acc)) (restR vs ρ1 ρ2))
  let W : Nat → Nat → Hp → Prop := fun i m H' => m = items.length - i ∧ i ≤ items.length ∧ ∃ F' ρ' acc, F' L = none ∧ ¬ OA (L2.wipe σ vs) (wipeR ρ' vs) L ∧ Blk K L vs F1 H1 σ ρ1 F' H' ρ' acc ∧ DC (items.drop i) acc (wipeR ρ' vs)
  refine ⟨W, ⟨items.length, by simp, Nat.zero_le _, F1, ρ1, [], fL, oLw, ⟨Sw.updD (fun o z => by rw [hL] at z; cases z) fL oLw rdw, ⟨Ex.refl F1, fun b o h _ _ => Ex.new hL b o h, fun b o h => ⟨o, Ex.new hL b o h⟩, fun _ h => .inl h, fun _ _ h => .inl h⟩, fun _ _ _ d h => ⟨d, h⟩, fun _ _ h => .inl h, [], upd_same, .nil⟩, q⟩, ?_⟩
  rintro i m H2 ⟨rfl, hi, F2, ρ2, acc, f2, o2, B, q2⟩
  have wk2 : stl src (wipeR ρ2 vs) → (∀ i, items.length ≤ i → J.stop i H2) ∧ ∀ i d, items[i]? = some d → J.go i H2 ∧ ∀ x H', J.yld i H2 x H' → ∃ F', Ex F2 F' ∧ Ex H2 H' ∧ Ex F' H' ∧ (∀ b o, F' b = some o → F2 b = some o ∨ H2 b = none) ∧ Dp K F' x d := fun z => by
    have TX := Tr.rest S1 B.tr B.slow B.slrd
    refine wk F2 H2 σ (restR vs ρ1 (wipeR ρ2 vs)) (Sta.rest S1 B.sta B.tr) TX.toTr fun p hp => ⟨rfl, ?_⟩
    have := stl_all z p hp
    unfold cont at this ⊢
    rw [restR_out (q0 p hp)]
    exact this
  by_cases hl : i < items.length
  · rw [List.drop_eq_getElem_cons hl] at q2
    obtain ⟨qs, q2⟩ := q2
    obtain ⟨go, yl⟩ := (wk2 qs).2 i items[i] (List.getElem?_eq_getElem hl)
    refine .inr ⟨go, fun H' => W (i + 1) (items.length - (i + 1)) H', fun H' z => ⟨items.length - (i + 1), by omega, z⟩, fun x H3 hy => ?_⟩
    obtain ⟨F3, e1, e2, e3, e4, dp⟩ := yl x H3 hy
    have S3 := B.sta.grow e1 e2 e3 e4
    have T3 : Tr F2 H2 (L2.wipe σ vs) (wipeR ρ2 vs) F3 H3 (L2.wipe σ vs) (wipeR ρ2 vs) := ⟨e1, fun b o h _ _ => e2 b o h, fun b o h => ⟨o, e2 b o h⟩, fun _ h => .inl h, fun b o h => (e4 b o h).imp id .inl⟩
    refine ⟨F3, wipeR ρ2 vs, items[i], _, S3, dp, q2, fun σ4 ρ4 F4 H4 q4 S4 T4 l4 n4 => ?_⟩
    have wσ : L2.wipe σ4 vs = L2.wipe σ vs := by
      rw [wipe_eq (σ := L2.wipe σ vs) l4 fun j z => (n4 j fun y => z (hj j y)).1]
      exact wipe_wipe fun _ z => z
    obtain ⟨qf, q4⟩ := q4
    refine ⟨wσ, F4, ρ4, _, S4, q4, fun b ρ5 F5 H5 q5 S5 T5 => ?_⟩
    have ρslow : ∀ {ρ6 : List Slot}, (∀ (i : Nat) (t : Option Addr) (κ : Kd) (d : D), ρ6[i]? = some (.ow t κ d) → ∃ d0, ρ4[i]? = some (.ow t κ d0)) → ∀ (i : Nat) (t : Option Addr) (κ : Kd) (d : D), (wipeR ρ6 vs)[i]? = some (.ow t κ d) → ∃ d0, (wipeR ρ1 vs)[i]? = some (.ow t κ d0) := fun {ρ6} h i t κ d e => by
      rcases wipeR_cases e with z | ⟨z, e⟩
      · cases z
      · obtain ⟨d1, h1⟩ := h i t κ d e
        rw [(n4 i fun y => z (hj i y)).2] at h1
        exact B.slow i t κ d1 h1
    have ρslrd : ∀ {ρ6 : List Slot}, (∀ (i : Nat) (d : D), ρ6[i]? = some (.rd d) → ρ4[i]? = some (.rd d) ∨ ∃ t κ d0, ρ4[i]? = some (.ow t κ d0)) → ∀ (i : Nat) (d : D), (wipeR ρ6 vs)[i]? = some (.rd d) → (wipeR ρ1 vs)[i]? = some (.rd d) ∨ ∃ t κ d0, (wipeR ρ1 vs)[i]? = some (.ow t κ d0) := fun {ρ6} h i d e => by
      rcases wipeR_cases e with z | ⟨z, e⟩
      · cases z
      · rcases h i d e with h1 | ⟨t, κ, d1, h1⟩
        · rw [(n4 i fun y => z (hj i y)).2] at h1
          exact B.slrd i d h1
        · rw [(n4 i fun y => z (hj i y)).2] at h1
          obtain ⟨d2, h2⟩ := B.slow i t κ d1 h1
          exact .inr ⟨t, κ, d2, h2⟩
    obtain ⟨xs, hx, hd⟩ := B.lst
    cases b with
    | false =>
      have T6 : Tr F2 H2 (L2.wipe σ vs) (wipeR ρ2 vs) F5 H5 σ4 ρ5 := T3.trans (T4.trans T5.toTr)
      have T6w := T6.wiped (vs := vs)
      rw [wσ] at T6w
      obtain ⟨f6, o6⟩ := T6w.nof hx f2 o2
      have S6 := S5.wipe (vs := vs)
      rw [wσ] at S6
      exact ⟨rfl, hl, F5, ρ5, acc, f6, o6, ⟨S6, B.tr.trans T6w, ρslow T5.slow, ρslrd T5.slrd, xs, T6.keep _ _ hx nt_l o2, dpAll_mono T6.fext hd⟩, q5⟩
    | true =>
      refine ⟨F5, ρ5, _, S5, q5, fun items1 src1 ρ6 F6 H6 J1 q6 S6 T6 wk1 => ?_⟩
      obtain ⟨q6s, q6⟩ := q6
      have T50 : Tr F2 H2 (L2.wipe σ vs) (wipeR ρ2 vs) F5 H5 σ4 ρ5 := T3.trans (T4.trans T5.toTr)
      have T60 : Tr F2 H2 (L2.wipe σ vs) (wipeR ρ2 vs) F6 H6 σ4 ρ6 := T50.trans T6.toTr
      have hL5 : H5 L = some (.lst xs) := T50.keep _ _ hx nt_l o2
      have hL6 : H6 L = some (.lst xs) := T60.keep _ _ hx nt_l o2
      obtain ⟨f6, o6⟩ := T60.nof hx f2 o2
      have T56 := T5.trans T6
      let KK : List D → List Slot → Prop := fun acc' ρ4 => DC (items.drop (i + 1)) acc' (wipeR ρ4 vs)
      let W1 : Nat → Nat → Hp → Prop := fun j m H' => m = items1.length - j ∧ j ≤ items1.length ∧ ∃ F' ρ' acc', F' L = none ∧ ¬ OA (L2.wipe σ4 vs1) (wipeR ρ' vs1) L ∧ Sta K F' H' (L2.wipe σ4 vs1) (wipeR ρ' vs1) ∧ Tr F1 H1 (L2.wipe σ vs) (wipeR ρ1 vs) F' H' (L2.wipe σ4 vs1) (wipeR ρ' vs1) ∧
        (∀ (i : Nat) (t : Option Addr) (κ : Kd) (d : D), (wipeR ρ' vs)[i]? = some (.ow t κ d) → ∃ d0, (wipeR ρ1 vs)[i]? = some (.ow t κ d0)) ∧ (∀ (i : Nat) (d : D), (wipeR ρ' vs)[i]? = some (.rd d) → (wipeR ρ1 vs)[i]? = some (.rd d) ∨ ∃ t κ d0, (wipeR ρ1 vs)[i]? = some (.ow t κ d0)) ∧
        (∀ i, i ∈ vs → (∀ d, (wipeR ρ' vs1)[i]? ≠ some (.rd d)) ∧ ∀ t κ d, (wipeR ρ' vs1)[i]? ≠ some (.ow t κ d)) ∧
        (∃ xs, H' L = some (.lst xs) ∧ DpAll K F' xs acc') ∧ Ex F6 F' ∧ (∀ b o, b ≠ L → H6 b = some o → NT o → ¬ OA σ4 ρ6 b → H' b = some o) ∧ (∀ b, OA (L2.wipe σ4 vs1) (wipeR ρ' vs1) b → OA σ4 ρ6 b ∨ H6 b = none) ∧ (∀ b o, H6 b = some o → ∃ o', H' b = some o') ∧
        dCompL g1 tt1 te src1 vs1 KK (items1.drop j) acc' (wipeR ρ' vs1)
      have sg : ∀ i, i ∉ vs → (L2.wipe σ4 vs1)[i]? = (L2.wipe σ vs)[i]? := fun i z => by
        rw [wipe_get fun y => z (hv i y), ← wσ, wipe_get z]
      refine ⟨W1, ⟨items1.length, by simp, Nat.zero_le _, F6, ρ6, acc, f6, fun z => o6 (oa_wipe z), S6.wipe, ?_, ρslow T56.slow, ρslrd T56.slrd, fun i hi => ?_, ⟨xs, hL6, dpAll_mono T60.fext hd⟩, Ex.refl _, fun b o _ e _ _ => e, fun b z => .inl (oa_wipe z), fun b o e => ⟨o, e⟩, q6⟩, ?_⟩
      · refine B.tr.trans ?_
        exact ⟨T60.fext, T60.keep, T60.there, fun b z => T60.own b (oa_wipe z), T60.fnew⟩
      · have nf := fzAt_not qf hi
        refine ⟨fun d e => ?_, fun t κ d e => ?_⟩
        · rcases wipeR_cases e with y | ⟨_, e⟩
          · cases y
          · rcases T56.slrd i d e with y | ⟨t, κ, d0, y⟩
            · exact nf.1 _ y
            · exact nf.2 _ _ _ y
        · rcases wipeR_cases e with y | ⟨_, e⟩
          · cases y
          · obtain ⟨d0, y⟩ := T56.slow i t κ d e
            exact nf.2 _ _ _ y
      rintro j m' H7 ⟨rfl, hj', F7, ρ7, acc7, f7, o7, S7, TA, SL, SR, NI, ⟨xs7, hx7, hd7⟩, e7, k7, w7, t7, q7⟩
      have wk7 : stl src1 (wipeR ρ7 vs1) → (∀ i, items1.length ≤ i → J1.stop i H7) ∧ ∀ i d, items1[i]? = some d → J1.go i H7 ∧ ∀ x H', J1.yld i H7 x H' → ∃ F', Ex F7 F' ∧ Ex H7 H' ∧ Ex F' H' ∧ (∀ b o, F' b = some o → F7 b = some o ∨ H7 b = none) ∧ Dp K F' x d := fun z =>
        wk1 F7 H7 (L2.wipe σ4 vs1) (wipeR ρ7 vs1) S7 ⟨e7, fun b => b = L, fun L' y => ⟨.lst xs, (show H5 L' = some (.lst xs) from (show L' = L from y) ▸ hL5)⟩, fun b o n e nt no => k7 b o n e nt no⟩ fun p hp => ⟨wipe_get (q6s p hp), stl_all z p hp⟩
      by_cases hl1 : j < items1.length
      · rw [List.drop_eq_getElem_cons hl1] at q7
        obtain ⟨qs7, q7⟩ := q7
        obtain ⟨go1, yl1⟩ := (wk7 qs7).2 j items1[j] (List.getElem?_eq_getElem hl1)
        refine .inr ⟨go1, fun H' => W1 (j + 1) (items1.length - (j + 1)) H', fun H' z => ⟨items1.length - (j + 1), by omega, z⟩, fun x1 H8 hy1 => ?_⟩
        obtain ⟨F8, a1, a2, a3, a4, dp1⟩ := yl1 x1 H8 hy1
        have S8 := S7.grow a1 a2 a3 a4
        have T8 : Tr F7 H7 (L2.wipe σ4 vs1) (wipeR ρ7 vs1) F8 H8 (L2.wipe σ4 vs1) (wipeR ρ7 vs1) := ⟨a1, fun b o h _ _ => a2 b o h, fun b o h => ⟨o, a2 b o h⟩, fun _ h => .inl h, fun b o h => (a4 b o h).imp id .inl⟩
        refine ⟨F8, wipeR ρ7 vs1, items1[j], _, S8, dp1, q7, fun σ9 ρ9 F9 H9 q9 S9 T9 l9 n9 => ?_⟩
        have wσ1 : L2.wipe σ9 vs1 = L2.wipe σ4 vs1 := by
          rw [wipe_eq (σ := L2.wipe σ4 vs1) l9 fun j z => (n9 j fun y => z (hj1 j y)).1]
          exact wipe_wipe fun _ z => z
        refine ⟨wσ1, F9, ρ9, _, S9, q9, fun b ρ10 F10 H10 q10 S10 T10 => ?_⟩
        have sl1 : ∀ {ρ11 : List Slot}, (∀ (i : Nat) (t : Option Addr) (κ : Kd) (d : D), ρ11[i]? = some (.ow t κ d) → ∃ d0, ρ9[i]? = some (.ow t κ d0)) → ∀ (i : Nat) (t : Option Addr) (κ : Kd) (d : D), (wipeR ρ11 vs)[i]? = some (.ow t κ d) → ∃ d0, (wipeR ρ1 vs)[i]? = some (.ow t κ d0) := fun {ρ11} h i t κ d e => by
          rcases wipeR_cases e with z | ⟨z, e⟩
          · cases z
          · obtain ⟨d1, h1⟩ := h i t κ d e
            rw [(n9 i fun y => z (hv i (hj1 i y))).2, wipeR_get fun y => z (hv i y)] at h1
            exact SL i t κ d1 (by rw [wipeR_get z]; exact h1)
        have sr1 : ∀ {ρ11 : List Slot}, (∀ (i : Nat) (d : D), ρ11[i]? = some (.rd d) → ρ9[i]? = some (.rd d) ∨ ∃ t κ d0, ρ9[i]? = some (.ow t κ d0)) → ∀ (i : Nat) (d : D), (wipeR ρ11 vs)[i]? = some (.rd d) → (wipeR ρ1 vs)[i]? = some (.rd d) ∨ ∃ t κ d0, (wipeR ρ1 vs)[i]? = some (.ow t κ d0) := fun {ρ11} h i d e => by
          rcases wipeR_cases e with z | ⟨z, e⟩
          · cases z
          · have eq9 : ρ9[i]? = (wipeR ρ7 vs)[i]? := by rw [(n9 i fun y => z (hv i (hj1 i y))).2, wipeR_get fun y => z (hv i y), wipeR_get z]
            rcases h i d e with h1 | ⟨t, κ, d1, h1⟩
            · rw [eq9] at h1
              exact SR i d h1
            · rw [eq9] at h1
              obtain ⟨d2, h2⟩ := SL i t κ d1 h1
              exact .inr ⟨t, κ, d2, h2⟩
        have ni1 : ∀ {ρ11 : List Slot}, (∀ (i : Nat) (t : Option Addr) (κ : Kd) (d : D), ρ11[i]? = some (.ow t κ d) → ∃ d0, ρ9[i]? = some (.ow t κ d0)) → (∀ (i : Nat) (d : D), ρ11[i]? = some (.rd d) → ρ9[i]? = some (.rd d) ∨ ∃ t κ d0, ρ9[i]? = some (.ow t κ d0)) → ∀ i, i ∈ vs → (∀ d, (wipeR ρ11 vs1)[i]? ≠ some (.rd d)) ∧ ∀ t κ d, (wipeR ρ11 vs1)[i]? ≠ some (.ow t κ d) := fun {ρ11} h h' i hi' => by
          refine ⟨fun d e => ?_, fun t κ d e => ?_⟩
          · rcases wipeR_cases e with z | ⟨z, e⟩
            · cases z
            · have eq9 : ρ9[i]? = (wipeR ρ7 vs1)[i]? := (n9 i fun y => z (hj1 i y)).2
              rcases h' i d e with h1 | ⟨t, κ, d1, h1⟩
              · rw [eq9] at h1
                exact (NI i hi').1 _ h1
              · rw [eq9] at h1
                exact (NI i hi').2 _ _ _ h1
          · rcases wipeR_cases e with z | ⟨z, e⟩
            · cases z
            · have eq9 : ρ9[i]? = (wipeR ρ7 vs1)[i]? := (n9 i fun y => z (hj1 i y)).2
              obtain ⟨d1, h1⟩ := h i t κ d e
              rw [eq9] at h1
              exact (NI i hi').2 _ _ _ h1
        have nn6 : ∀ b, H7 b = none → H6 b = none := fun b y => by
          cases e : H6 b with
          | none => rfl
          | some o =>
            obtain ⟨o', h'⟩ := t7 b o e
            rw [y] at h'; cases h'
        cases b with
        | false =>
          have Tst : Tr F7 H7 (L2.wipe σ4 vs1) (wipeR ρ7 vs1) F10 H10 σ9 ρ10 := T8.trans (T9.trans T10.toTr)
          have Tw := Tst.wiped (vs := vs1)
          rw [wσ1] at Tw
          obtain ⟨fA, oA⟩ := Tw.nof hx7 f7 o7
          have SA := S10.wipe (vs := vs1)
          rw [wσ1] at SA
          exact ⟨rfl, hl1, F10, ρ10, acc7, fA, oA, SA, TA.trans Tw, sl1 T10.slow, sr1 T10.slrd, ni1 T10.slow T10.slrd, ⟨xs7, Tw.keep _ _ hx7 nt_l o7, dpAll_mono Tw.fext hd7⟩, e7.trans Tw.fext,
            fun b o n e nt no => Tw.keep b o (k7 b o n e nt no) nt fun z => (w7 b z).elim no fun y => (by rw [e] at y; cases y), fun b z => (Tw.own b z).elim (w7 b) fun y => .inr (nn6 b y), fun b o e => (t7 b o e).elim fun o' h' => Tw.there b o' h', q10⟩
        | true =>
          refine ⟨F10, ρ10, _, S10, q10, fun r ρ11 v F11 H11 q11 S11 T11 f => ?_⟩
          obtain ⟨dv, ρ12, F12, q12, S12, T12, dpv, _⟩ := fzR_ok S11 f.w T11 q11
          obtain ⟨hz, q12⟩ := q12
          have TX := T10.trans T12
          have Tst : Tr F7 H7 (L2.wipe σ4 vs1) (wipeR ρ7 vs1) F12 H11 σ9 ρ12 := T8.trans (T9.trans TX.toTr)
          have Tw := Tst.wiped (vs := vs1)
          rw [wσ1] at Tw
          obtain ⟨fA, oA⟩ := Tw.nof hx7 f7 o7
          have SA := S12.wipe (vs := vs1)
          rw [wσ1] at SA
          have TAA := TA.trans Tw
          have hxL : H11 L = some (.lst xs7) := Tw.keep _ _ hx7 nt_l o7
          have ni := ni1 TX.slow TX.slrd
          refine ⟨xs7, hxL, ?_, rfl, hl1, F12, ρ12, acc7 ++ [dv], fA, oA, SA.updD (fun o z => by rw [hxL] at z; cases z; exact nc_l) fA oA (fun i d y1 y2 => ?_), ?_, sl1 TX.slow, sr1 TX.slrd, ni, ⟨xs7 ++ [v], upd_same, dpAll_app (dpAll_mono Tw.fext hd7) (.cons dpv .nil)⟩, e7.trans Tw.fext,
            fun b o n e nt no => (by rw [upd_ne n]; exact Tw.keep b o (k7 b o n e nt no) nt fun z => (w7 b z).elim no fun y => (by rw [e] at y; cases y)), fun b z => (Tw.own b z).elim (w7 b) fun y => .inr (nn6 b y), fun b o e => ?_, q12⟩
          · rw [dpAll_len hd7]; exact hz
          · have iv : i ∉ vs := fun z => (ni i z).1 _ y1
            have y3 : (wipeR ρ12 vs)[i]? = some (.rd d) := by
              rcases wipeR_cases y1 with z | ⟨_, z⟩
              · cases z
              · rw [wipeR_get iv]; exact z
            have y4 := y2
            rw [sg i iv] at y4
            rcases sr1 TX.slrd i d y3 with y | ⟨t, κ, d0, y⟩
            · exact dp_mono TAA.fext (rdw i d y y4)
            · exact absurd ⟨i, t, κ, d0, y, y4⟩ oLw
          · refine ⟨TAA.fext, fun b o h nt n => ?_, fun b o h => ?_, TAA.own, TAA.fnew⟩
            · have hne : b ≠ L := fun z => by rw [z, hL] at h; cases h
              rw [upd_ne hne]; exact TAA.keep b o h nt n
            · have hne : b ≠ L := fun z => by rw [z, hL] at h; cases h
              rw [upd_ne hne]; exact TAA.there b o h
          · by_cases hne : b = L
            · rw [hne]; exact ⟨_, upd_same⟩
            · rw [upd_ne hne]
              exact (t7 b o e).elim fun o' h' => Tw.there b o' h'
      · have ej : j = items1.length := by omega
        subst ej
        rw [List.drop_length] at q7
        obtain ⟨qs7, q7⟩ := q7
        have TAw := TA.wiped (vs := vs)
        rw [wipe_wipe hv, wσ, wipeR_wipeR hv] at TAw
        have S7w := S7.wipe (vs := vs)
        rw [wipe_wipe hv, wσ, wipeR_wipeR hv] at S7w
        have q7 : DC (items.drop (i + 1)) acc7 (wipeR (wipeR ρ7 vs1) vs) := q7
        rw [wipeR_wipeR hv] at q7
        refine .inl ⟨(wk7 qs7).1 _ (Nat.le_refl _), rfl, hl, F7, ρ7, acc7, f7, fun z => ?_, ⟨S7w, ?_, SL, SR, xs7, hx7, hd7⟩, q7⟩
        · rw [← wσ, ← wipe_wipe hv (σ := σ4), ← wipeR_wipeR hv (ρ := ρ7)] at z
          exact o7 (oa_wipe z)
        · exact TAw
  · have e : i = items.length := by omega
    subst e
    rw [List.drop_length] at q2
    obtain ⟨qs, q2⟩ := q2
    refine .inl ⟨(wk2 qs).1 _ (Nat.le_refl _), ?_⟩
    have TX := Tr.rest S1 B.tr B.slow B.slrd
    have SX := Sta.rest S1 B.sta B.tr
    obtain ⟨xs, hx, hd⟩ := B.lst
    refine fin _ _ _ _ _ q2 SX (T1.trans TX) ⟨L, rfl, ⟨xs, acc, rfl, hx, hd⟩, f2, fun ⟨i, t, κ, d, h1, h2⟩ => ?_, T1.none hL⟩
    obtain ⟨d0, h3⟩ := TX.slow i t κ d h1
    exact oL ⟨i, t, κ, d0, h3, h2⟩
theorem de_comp2 {elt tg iter tg1 iter1 : Expr} {ifs ifs1 : List Expr} {scope : Scope} {own : List (Str × Nat)} {w w1 : DTI} {js js1 vs1 : List Nat} {g g1 : DTG} {tt tt1 : DTT} {te : DTE} (hc : X.calm = true) (hN : X.N.Nodup) (hi : DI X tg iter w) (ok : BlkOk X.N X.env.scope scope own)
    (hg : ∀ (s : Shared) (H : Hp) (C : Addr) (cl : List (Str × Addr)) (fp : List Addr), DG (X.blk s H scope (compEnvC scope cl C X.env) fp) tg js g) (ht : ∀ (s : Shared) (H : Hp) (C : Addr) (cl : List (Str × Addr)) (fp : List Addr), DTsT (X.blk s H scope (compEnvC scope cl C X.env) fp) ifs tt)
    (hi1 : ∀ (s : Shared) (H : Hp) (C : Addr) (cl : List (Str × Addr)) (fp : List Addr), DI2 (X.blk s H scope (compEnvC scope cl C X.env) fp) tg1 iter1 w1)
    (hg1 : ∀ (s : Shared) (H : Hp) (C : Addr) (cl : List (Str × Addr)) (fp : List Addr), DG (X.blk s H scope (compEnvC scope cl C X.env) fp) tg1 js1 g1) (ht1 : ∀ (s : Shared) (H : Hp) (C : Addr) (cl : List (Str × Addr)) (fp : List Addr), DTsT (X.blk s H scope (compEnvC scope cl C X.env) fp) ifs1 tt1)
    (he : ∀ (s : Shared) (H : Hp) (C : Addr) (cl : List (Str × Addr)) (fp : List Addr), DE (X.blk s H scope (compEnvC scope cl C X.env) fp) elt te) (hj : ∀ j ∈ js, j ∈ own.map (·.2) := by decide) (hj1 : ∀ j ∈ js1, j ∈ vs1 := by decide) (hv : ∀ j ∈ vs1, j ∈ own.map (·.2) := by decide)
    (hs : ∀ x, foldedSetIterable iter X.env x = pure x := by intro _; rfl) (hs1 : ∀ env x, foldedSetIterable iter1 env x = pure x := by intro _ _; rfl) :
    DE X (.ListComp elt [⟨tg, iter, ifs, 0⟩, ⟨tg1, iter1, ifs1, 0⟩] scope pos) (dComp2 w g tt w1 g1 tt1 te (own.map (·.2)) vs1) :=
  PE.le (pe_lc2 (wi := upI X.K w) (g := upG X.K js g) (tt := upT X.K tt) (wi1 := upI2 X.K w1) (g1 := upG X.K js1 g1) (tt1 := upT X.K tt1) (te := up X.K te) hc hN hi ok hv hg ht hi1 hg1 ht1 he hs hs1) fun σ H Q h => up_comp2 hj hj1 hv h
theorem ds_setLc2 {i : Nat} {y : Str} {py spos : Pos} {elt tg iter tg1 iter1 : Expr} {ifs ifs1 : List Expr} {scope : Scope} {own : List (Str × Nat)} {w w1 : DTI} {js js1 vs1 : List Nat} {g g1 : DTG} {tt tt1 : DTT} {te : DTE} (hc : X.calm = true) (hN : X.N.Nodup) (hy : X.N[i]? = some y) (hyl : X.env.scope.names.lookup y = some .local)
    (hsw : swapsWith (.ListComp elt [⟨tg, iter, ifs, 0⟩, ⟨tg1, iter1, ifs1, 0⟩] scope pos) (some (.Name y py)) spos.line X.env = pure true) (hi : DI X tg iter w) (ok : BlkOk X.N X.env.scope scope own)
    (hg : ∀ (s : Shared) (H : Hp) (C : Addr) (cl : List (Str × Addr)) (fp : List Addr), DG (X.blk s H scope (compEnvC scope cl C X.env) fp) tg js g) (ht : ∀ (s : Shared) (H : Hp) (C : Addr) (cl : List (Str × Addr)) (fp : List Addr), DTsT (X.blk s H scope (compEnvC scope cl C X.env) fp) ifs tt)
    (hi1 : ∀ (s : Shared) (H : Hp) (C : Addr) (cl : List (Str × Addr)) (fp : List Addr), DI2 (X.blk s H scope (compEnvC scope cl C X.env) fp) tg1 iter1 w1)
    (hg1 : ∀ (s : Shared) (H : Hp) (C : Addr) (cl : List (Str × Addr)) (fp : List Addr), DG (X.blk s H scope (compEnvC scope cl C X.env) fp) tg1 js1 g1) (ht1 : ∀ (s : Shared) (H : Hp) (C : Addr) (cl : List (Str × Addr)) (fp : List Addr), DTsT (X.blk s H scope (compEnvC scope cl C X.env) fp) ifs1 tt1)
    (he : ∀ (s : Shared) (H : Hp) (C : Addr) (cl : List (Str × Addr)) (fp : List Addr), DE (X.blk s H scope (compEnvC scope cl C X.env) fp) elt te) (hj : ∀ j ∈ js, j ∈ own.map (·.2) := by decide) (hj1 : ∀ j ∈ js1, j ∈ vs1 := by decide) (hv : ∀ j ∈ vs1, j ∈ own.map (·.2) := by decide)
    (hs : ∀ x, foldedSetIterable iter X.env x = pure x := by intro _; rfl) (hs1 : ∀ env x, foldedSetIterable iter1 env x = pure x := by intro _ _; rfl) :
    DS X (.Assign [.Name y py] (.ListComp elt [⟨tg, iter, ifs, 0⟩, ⟨tg1, iter1, ifs1, 0⟩] scope pos) spos) (dSet i (dComp2 w g tt w1 g1 tt1 te (own.map (·.2)) vs1)) :=
  PS.le (ps_setLc2 (wi := upI X.K w) (g := upG X.K js g) (tt := upT X.K tt) (wi1 := upI2 X.K w1) (g1 := upG X.K js1 g1) (tt1 := upT X.K tt1) (te := up X.K te) hc hN hy hyl hsw hi ok hv hg ht hi1 hg1 ht1 he hs hs1) fun E σ H ⟨F, ρ, G, S, q, f1, f2, f3, f4⟩ => by
    refine up_comp2 (K := X.K) (Q := fun x H1 => E.nx (σ.set i (some x)) H1) hj hj1 hv ⟨F, ρ, _, S, q, fun r ρ1 v F1 H1 q S1 T1 f => ?_⟩
    obtain ⟨s, ρ2, F2, q, S2, T2⟩ := toSlot_ok (i := i) S S1 T1 f q
    exact f1 _ _ _ _ q S2 T2
end
section
variable {g g1 : DTG} {tt tt1 : DTT} {te : DTE} {w1 : DTI} {src : List (Nat × D)} {vs vs1 : List Nat} {k : List D → List Slot → Prop} {ρ : List Slot}
/-- a comprehension that goes on with acc -/
theorem comp_acc {α : Type} {l : List α} {c : α → D} (p : α → Bool) (f : α → D) {acc : List D} (hl : acc.length + l.length ≤ sizeLine) (hs : stl src ρ)
    (step : ∀ x, x ∈ l → ∀ (kk : D → List Slot → Prop) (kn : List Slot → Prop), (p x = true → kk (f x) ρ) → (p x = false → kn ρ) → g (c x) ρ fun ρ1 => tt ρ1 fun b ρ2 => if b = true then te ρ2 fun r ρ3 => fzR r ρ3 fun v ρ4 => kk v (wipeR ρ4 vs) else kn (wipeR ρ2 vs))
    (fin : k (acc ++ (l.filter p).map f) ρ) : dCompL g tt te src vs k (l.map c) acc ρ := by
  induction l generalizing acc with
  | nil => exact ⟨hs, by simpa using fin⟩
  | cons x l ih =>
    simp only [List.length_cons] at hl
    refine ⟨hs, step x List.mem_cons_self (fun v ρ4 => acc.length < sizeLine ∧ dCompL g tt te src vs k (l.map c) (acc ++ [v]) ρ4) (fun ρ2 => dCompL g tt te src vs k (l.map c) acc ρ2) (fun hp => ⟨by omega, ?_⟩) fun hp => ?_⟩
    · refine ih (by simp only [List.length_append, List.length_cons, List.length_nil]; omega) (fun y hy => step y (List.mem_cons_of_mem _ hy)) ?_
      simpa [hp] using fin
    · refine ih (by omega) (fun y hy => step y (List.mem_cons_of_mem _ hy)) ?_
      simpa [hp] using fin
/-- [.. for x in l if q x for y in m x if p x y]; St1: the slots in the inner turns -/
theorem comp2_of {α β : Type} {l : List α} {c : α → D} (q : α → Bool) (m : α → List β) (c1 : α → β → D) (p : α → β → Bool) (f : α → β → D) (St1 : α → List Slot) (src1 : α → List (Nat × D)) (hl : ((l.filter q).flatMap m).length ≤ sizeLine) (hs : stl src ρ) (hs1 : ∀ x ∈ l, stl (src1 x) (St1 x)) (hw : ∀ x ∈ l, wipeR (St1 x) vs = ρ)
    (step : ∀ x, x ∈ l → ∀ (kin : List D → List (Nat × D) → List Slot → Prop) (kn : List Slot → Prop), (q x = true → kin ((m x).map (c1 x)) (src1 x) (St1 x)) → (q x = false → kn ρ) →
      g (c x) ρ fun ρ1 => fzAt vs ρ1 ∧ tt ρ1 fun b ρ2 => if b = true then w1 ρ2 (fun items1 src1 ρ3 => (∀ p ∈ src1, p.1 ∉ vs1) ∧ kin items1 src1 (wipeR ρ3 vs1)) else kn (wipeR ρ2 vs))
    (step1 : ∀ x, x ∈ l → q x = true → ∀ y, y ∈ m x → ∀ (kk : D → List Slot → Prop) (kn : List Slot → Prop), (p x y = true → kk (f x y) (St1 x)) → (p x y = false → kn (St1 x)) → g1 (c1 x y) (St1 x) fun ρ1 => tt1 ρ1 fun b ρ2 => if b = true then te ρ2 fun r ρ3 => fzR r ρ3 fun v ρ4 => kk v (wipeR ρ4 vs1) else kn (wipeR ρ2 vs1))
    (fin : k ((l.filter q).flatMap fun x => ((m x).filter (p x)).map (f x)) ρ) : dCompL2 g tt w1 g1 tt1 te src vs vs1 k (l.map c) [] ρ := by
  have key : ∀ (r done : List α) (acc : List D), (∀ x ∈ r, x ∈ l) → acc.length + ((r.filter q).flatMap m).length ≤ sizeLine → k (acc ++ (r.filter q).flatMap fun x => ((m x).filter (p x)).map (f x)) ρ → dCompL2 g tt w1 g1 tt1 te src vs vs1 k (r.map c) acc ρ := fun r => by
    induction r with
    | nil => intro done acc _ _ h; exact ⟨hs, by simpa using h⟩
    | cons x r ih =>
      intro done acc hm hlen h
      have hx := hm x List.mem_cons_self
      refine ⟨hs, step x hx (fun items1 src1 ρ3 => dCompL g1 tt1 te src1 vs1 (fun acc' ρ4 => dCompL2 g tt w1 g1 tt1 te src vs vs1 k (r.map c) acc' (wipeR ρ4 vs)) items1 acc ρ3) (fun ρ2 => dCompL2 g tt w1 g1 tt1 te src vs vs1 k (r.map c) acc ρ2) (fun hq => ?_) fun hq => ?_⟩
      · rw [List.filter_cons_of_pos hq, List.flatMap_cons] at hlen h
        rw [List.length_append] at hlen
        refine comp_acc (p x) (f x) (by omega) (hs1 x hx) (fun y hy => step1 x hx hq y hy) ?_
        show dCompL2 g tt w1 g1 tt1 te src vs vs1 k (r.map c) _ (wipeR (St1 x) vs)
        rw [hw x hx]
        refine ih [] _ (fun y hy => hm y (List.mem_cons_of_mem _ hy)) ?_ (by rw [List.append_assoc]; exact h)
        rw [List.length_append, List.length_map]
        have := List.length_filter_le (p x) (m x)
        omega
      · rw [List.filter_cons_of_neg (by rw [hq]; decide)] at hlen h
        exact ih [] acc (fun y hy => hm y (List.mem_cons_of_mem _ hy)) hlen h
  exact key l [] [] (fun _ z => z) (by simpa using hl) fin
end
end TL

-- part TL33
/-! TL33: the tables of lambdas: from the law's head to their makers. -/
namespace TL
open PySem PySem.Spec L2
open Evl (Ex ex_l ex_t)
/-- a def's table -/
structure LT [Lay] (base : Heap) (mg : Str → Option Value) (fd : FuncData) (q : Str) : Prop where
  ex : ∃ c P, LamX.TabB base mg c P ∧ fd.code = .ref c ∧ (P, q) ∈ Lay.T ∧ ∀ p ∈ Lay.T, p.1 = P → p.2 = q
theorem LamTab.of [Lay] {X : Cx} {fd : FuncData} {q : Str} {cdv : Value} (T : LT X.base X.mg fd q) (hc : fd.code = cdv) (h1 : X.env.code = cdv) (h2 : X.env.qual ++ "<lambda>" = q) : LamTab X := by
  obtain ⟨c, P, a1, a2, a3, a4⟩ := T.ex
  subst h2
  exact ⟨c, P, a1, by rw [h1, ← hc, a2], a3, a4⟩
/-- the layout of a law: its tables -/
@[reducible] def layT (T : List (Addr × Str)) : Lay := ⟨T, True⟩
theorem LT.mk' {base : Heap} {mg : Str → Option Value} {fd : FuncData} {q : Str} {c P : Addr} {T : List (Addr × Str)} (TB : LamX.TabB base mg c P) (hc : fd.code = .ref c) (hm : (P, q) ∈ T) (nd : (T.map (·.1)).Nodup) : @LT (layT T) base mg fd q := by
  refine @LT.mk (layT T) _ _ _ _ ⟨c, P, TB, hc, hm, fun p hp e => ?_⟩
  have : ∀ {T : List (Addr × Str)}, (T.map (·.1)).Nodup → ∀ {a b : Addr × Str}, a ∈ T → b ∈ T → a.1 = b.1 → a = b := fun {T} => by
    induction T with
    | nil => intro _ a b h; cases h
    | cons x T ih =>
      intro nd a b ha hb e
      rw [List.map_cons, List.nodup_cons] at nd
      rcases List.mem_cons.mp ha with ha1 | ha1
      · rcases List.mem_cons.mp hb with hb1 | hb1
        · rw [ha1, hb1]
        · rw [ha1] at e; exact (nd.1 (List.mem_map.mpr ⟨_, hb1, e.symm⟩)).elim
      · rcases List.mem_cons.mp hb with hb1 | hb1
        · rw [hb1] at e; exact (nd.1 (List.mem_map.mpr ⟨_, ha1, e⟩)).elim
        · exact ih nd.2 ha1 hb1 e
  exact congrArg Prod.snd (this nd hp hm e)
/-- the tables at the head -/
def TabsKnown (K : PySem.W.Frag) (q : Program) (h : Heap) : Prop := ∀ (x : Str) (c P : Addr), ((PyProof.Rows.recsOf q).any fun e => e.name == x) = true → PySem.W.tabIn K x = some (c, P) → PySem.W.CodeHd h c P ∧ h.get? P = some { cls := .none, data := .fields #[] }
theorem tabIn_of {K : PySem.W.Frag} {x : Str} {f c P : Addr} {oc : Value} {od : Option Addr} {fd : FuncData} {sl : Array (Option Value)} {e : Value} {dd : Option Addr} {vs : Array Value} {sl' : Array (Option Value)} (a : PySem.W.nsIn K mainGlobals x = some (some (.ref f)))
    (l : K.lookup f = some ⟨oc, od, .func fd, sl⟩) (hc : fd.code = .ref c) (m : K.lookup c = some ⟨e, dd, .fields vs, sl'⟩) (v : vs[11]? = some (.ref P)) : PySem.W.tabIn K x = some (c, P) := by
  unfold PySem.W.tabIn
  simp only [a, l, hc, m, v]
theorem noTab_of {K : PySem.W.Frag} {h : Heap} {P : Addr} (X : K.In h) (hK : PySem.W.noTabs K = true) (e : h.get? P = some { cls := .none, data := .fields #[] }) : K.lookup P = none := by
  cases q : K.lookup P with
  | none => rfl
  | some o =>
    have h2 := List.all_eq_true.mp hK (P, o) (PySem.W.mem_of_lookupK q)
    have := X _ _ q
    rw [e] at this
    cases this
    cases h2
/-- a def's table at the head -/
theorem TabsKnown.at {K : PySem.W.Frag} {q : Program} {h : Heap} {x : Str} {f c P : Addr} {oc : Value} {od : Option Addr} {fd : FuncData} {sl : Array (Option Value)} {e : Value} {dd : Option Addr} {vs : Array Value} {sl' : Array (Option Value)} (T : TabsKnown K q h) (X : K.In h) (hK : PySem.W.noTabs K = true) (hr : ((PyProof.Rows.recsOf q).any fun e => e.name == x) = true)
    (a : PySem.W.nsIn K mainGlobals x = some (some (.ref f))) (l : K.lookup f = some ⟨oc, od, .func fd, sl⟩) (hc : fd.code = .ref c) (m : K.lookup c = some ⟨e, dd, .fields vs, sl'⟩) (v : vs[11]? = some (.ref P)) :
    PySem.W.CodeHd h c P ∧ h.get? P = some { cls := .none, data := .fields #[] } ∧ K.lookup P = none := by
  obtain ⟨h1, h2⟩ := T x c P hr (tabIn_of a l hc m v)
  exact ⟨h1, h2, noTab_of X hK h2⟩
theorem walk_ofLam {l : PySem.W.OpenLaw} {n k : Nat} {q : Program} {loose : List Str} {XP : (Str → Option Value) → Heap → Prop} {YP : World → Heap → Prop} {d : DefRec} {K : Params → PySem.W.Frag} {CX : World → CXT} {x : Str}
    (hn : l.most = some n) (hn2 : n ≤ sizeLine) (hdf : d.params.defaults = []) (hr : Room k callerA) (hY : ∀ (w : World) (h : Heap), YP w h → (K w.params).In h)
    (F : ∀ (w : World) (mg : Str → Option Value) (fa : Addr) (h : Heap), (K w.params).In h → h.Ns mainGlobals mg → mg d.name = some (.ref fa) → TabsKnown (K w.params) q h → LamX.LawAtS l w (K w.params) (CX w) k n x mg fa h)
    (hCX : ∀ (w : World) (H : Hp) (s : Shared) (e : Value) (s' : Shared), CX w [] H s (fun _ _ _ => False) e s' → False) :
    PySem.W.WalkO q loose XP YP l.row.toRowW d [] (fun f vs => PySem.call f vs) := by
  refine Att.attach_callB hn hdf fun w s₀ s₁ mg mb fa o pm cd doc a vs ns G Y ho hd hcd hmg hobj hints hlen hbits hg => ?_
  have KX := hY w _ Y
  have tk : TabsKnown (K w.params) q s₁.heap := fun x c P hx ht => by
    obtain ⟨dd, hm, he⟩ := List.any_eq_true.mp hx
    have : ∃ d', (PyProof.Rows.recsOf q).find? (fun e => e.name == x) = some d' := by
      cases h : (PyProof.Rows.recsOf q).find? (fun e => e.name == x) with
      | some d' => exact ⟨d', rfl⟩
      | none => exact absurd he (by simpa using List.find?_eq_none.mp h dd hm)
    obtain ⟨d', hd'⟩ := this
    exact PySem.W.tab_of G.T KX hd' ht
  obtain ⟨fd, cs, sp, hT, nT, C, hb, hsp, hF⟩ := F w mg fa _ KX G.T.g hmg tk
  exact LamX.law_callTs KX G.T.g G.T.b G.T.builtins G.T.nolimit hg hT nT C G.T.bmain hobj hints (Nat.le_trans hlen hn2) hr hF hb (fun H hH hS => hsp H a ns hlen hbits hH hS) fun H e s' => hCX w H s₁ e s'
/-- what a law promises -/
def tLaw : TSp := fun ds k => ∃ ns, ds = [scrD ns] ∧ k (.fz (.bool true)) []
/-- the script at the head, tables laid -/
theorem law_spT {T : List (Addr × Str)} {K : PySem.W.Frag} {H : Hp} {a : Addr} {ns : List Int} (hT : ∀ p ∈ T, H p.1 = some (.tbl #[])) (hS : SqL K H a (ns.map V.int)) : @spT (layT T) K [.fz] tLaw [.ref a] H (fun v _ => v = .bl true) fun _ _ _ => False := by
  letI : Lay := layT T
  let F : Hp := fun b => if b ∈ T.map (·.1) then none else H b
  have fe : ∀ {b u}, F b = some u → H b = some u := fun {b u} e => by
    by_cases hb : b ∈ T.map (·.1)
    · rw [show F b = none from if_pos hb] at e; cases e
    · rwa [show F b = H b from if_neg hb] at e
  have ft : ∀ {b u}, H b = some u → u ≠ .tbl #[] → F b = some u := fun {b u} e n => by
    by_cases hb : b ∈ T.map (·.1)
    · obtain ⟨p, hp, rfl⟩ := List.mem_map.mp hb
      rw [hT p hp] at e; cases e; exact (n rfl).elim
    · rw [show F b = H b from if_neg hb]; exact e
  have hS2 : SqL K F a (ns.map V.int) := by
    rcases hS with z | z
    · refine .inl ?_
      rcases z with z | ⟨o, z⟩
      · exact .inl (ft z fun y => by cases y)
      · exact .inr ⟨o, ft z fun y => by cases y⟩
    · exact .inr z
  exact ⟨F, [scrD ns], fun z _ => z = .fz (.bool true), fun b u e => fe e, ⟨.scr hS2, trivial⟩, List.nodup_nil,
    ⟨fun p hp => ⟨#[], hT p hp, trivial, fun pos cv e => by cases e⟩, fun p hp => if_pos (List.mem_map.mpr ⟨p, hp, rfl⟩)⟩, ⟨ns, rfl, rfl⟩, fun z os v F1 H1 hk R => by subst hk; have f := R.fit; cases f; rfl⟩
end TL

-- part TL35
/-! TL35: sorted(xs), sorted(xs, reverse=True) of data. -/
namespace TL
open PySem PySem.Spec L2
open Evl (Ex ex_l ex_t)
variable [Lay]
/-- data that sorted takes -/
def SortOk (ds : List D) : Prop := ds.length ≤ sizeLine ∧ PySem.W.AllAlike ds ∧ PySem.W.Sortable ds ∧ ∀ d ∈ ds, d.depth ≤ 60 ∧ noL d = true
@[simp] def gSortD : List D → (Res → Prop) → Prop
  | [.list ds], k => SortOk ds ∧ k (.tm .l (.list (sortedBy id ds)))
  | _, _ => False
section
variable {X : Cx} {pins : List (Addr × Obj)} {σ : L2.St} {H : Hp} {s : Shared} {F : Hp} {Q : VK}
theorem sortD_fin (I : Inv X pins σ H s) {vs : List V} {ds : List D} {out : List Value} {its : List Value} (dv : DpAll X.K F vs ds) (hL : ds.length ≤ sizeLine) (rev : Bool) (e : PySem.W.EachIs (fun u (p : V × D) => L2.RelV p.1 u) out ((vs.zip ds).mergeSort (PySem.W.dataLe rev fun p : V × D => p.2)))
    (fin : ∀ (p : Addr) (ws : List V), H p = none → DpAll X.K F ws (ds.mergeSort (PySem.W.dataLe rev id)) → Q (.ref p) (upd H p (.lst ws))) : EP X pins σ Q (.ref (s.heap.objs.size + 1)) { s with heap := PyProof.Rows.sortedAll s.heap its (List.toArray out) } := by
  have vl := dpAll_len dv
  have ms : (vs.zip ds).map (·.2) = ds := List.map_snd_zip (by omega)
  have esn : ((vs.zip ds).mergeSort (PySem.W.dataLe rev fun p => p.2)).map (·.2) = ds.mergeSort (PySem.W.dataLe rev id) := by
    rw [List.map_mergeSort (r := PySem.W.dataLe rev fun p : V × D => p.2) (s := PySem.W.dataLe rev id) (f := fun p : V × D => p.2) (fun a _ b _ => rfl), ms]
  have rv : Vals (((vs.zip ds).mergeSort (PySem.W.dataLe rev fun p => p.2)).map (·.1)) out := each_vals e
  have dpO : DpAll X.K F (((vs.zip ds).mergeSort (PySem.W.dataLe rev fun p => p.2)).map (·.1)) (ds.mergeSort (PySem.W.dataLe rev id)) := by
    rw [← esn]
    exact dpAll_pairs fun p hp => dpAll_zip dv p (List.mem_mergeSort.mp hp)
  have hlen : (((vs.zip ds).mergeSort (PySem.W.dataLe rev fun p => p.2)).map (·.1)).length ≤ sizeLine := by
    rw [List.length_map, List.length_mergeSort, List.length_zip]; omega
  have nD : H (s.heap.objs.size + 1) = none := I.hok.fresh (Nat.le_succ _)
  obtain ⟨c, hc⟩ : ∃ c, (PyProof.Rows.sortedAll s.heap its (List.toArray out)).get? (s.heap.objs.size + 1) = some (PyProof.Rows.seqObj "list" (List.toArray out) c) := PyProof.Rows.sortedAll_at ..
  refine ⟨.ref (s.heap.objs.size + 1), upd H (s.heap.objs.size + 1) (.lst (((vs.zip ds).mergeSort (PySem.W.dataLe rev fun p => p.2)).map (·.1))), ?_, rfl, fin _ _ nD dpO⟩
  exact I.laid (a := s.heap.objs.size + 1) (t' := s.toks) (fun b u e => PyProof.Rows.sortedAll_old e) (Nat.le_succ _) ⟨hlen, out, c, rv, hc⟩
theorem cr_gSortD (hu : X.A.units + 65 < cLine) : CallR X (.builtin "sorted") (rn X.K gSortD) := by
  intro pins s σ H xs us Q I r ⟨F, ds, k, se, rd, g, fin⟩
  unfold gSortD at g
  split at g
  · rename_i ds
    obtain ⟨v, rfl, h⟩ := rd.one
    obtain ⟨⟨hL, hal, hsk, hd⟩, g⟩ := g
    obtain ⟨a, ys, rfl, h1, h2⟩ := h.list se
    obtain ⟨u, rfl, ru⟩ := vals1 r
    cases ru
    obtain ⟨its, rv, pl, hz⟩ := I.list (xs := ys) (.inl h1)
    have ms : (ys.zip ds).map (·.2) = ds := List.map_snd_zip (by have := dpAll_len h2; omega)
    refine PySem.W.sorted_data (vs := its) (bs := ys.zip ds) (R := fun u p => L2.RelV p.1 u) (enc := fun p : V × D => p.2) pl.isList (vals_each rv (dpAll_len h2)) ?_ (by rw [ms]; exact hal) (by rw [ms]; exact hsk) (by rw [List.length_zip]; omega) (fun b hb => ?_) fun out _ e => ?_
    · refine (PySem.W.each_mem (vals_each rv (dpAll_len h2))).mono fun u p ⟨hp, hm⟩ => ?_
      exact ⟨_, dp_reads I.hok (fun b o e => I.bk b o (I.ok.mod.kin b o e)) se p.2 p.1 u (hd p.2 (List.of_mem_zip hm).2).2 (dpAll_zip h2 p hm) hp⟩
    · have := (hd b.2 (List.of_mem_zip hb).2).1
      omega
    · exact sortD_fin I h2 hL false e fun p ws hn dw => fin _ _ _ _ g (New.list se hn dw)
  · exact g.elim
/-- sorted(xs, reverse=True) -/
@[simp] def dSortRev (da : DTE) : DTE := fun ρ k => da ρ fun r ρ1 => wc r ρ1 fun d => match d with
  | .list ds => SortOk ds ∧ k (.tm .l (.list (ds.mergeSort (PySem.W.dataLe true id)))) ρ1
  | _ => False
theorem de_sortRev {e : Expr} {da : DTE} {p pos kpos cpos : Pos} {cj : Nat} (hu : X.A.units + 65 < cLine) (hg : Gl X "sorted") (hm : X.mg "sorted" = none) (ha : DE X e da)
    (he : backTo pos (starEach [e] X.env) = (false, eval e X.env) :: backTo pos (starEach [] X.env) := by rfl) (hs : starEach [e] X.env = (false, eval e X.env) :: starEach [] X.env := by rfl) (hpl : (backTo pos (starEach [e] X.env)).any (·.1) = false := by rfl) :
    DE X (.Call (.Name "sorted" p) [e] [⟨some (Str.ofString "reverse"), .Constant (.bool true) cj cpos, kpos⟩] pos) (dSortRev da) := by
  refine ⟨fun pins s σ H Q I h => ?_⟩
  obtain ⟨F, ρ, kk, S, q, fin⟩ := h
  refine wpAny_Call_Name_kw (ld_blt I hg hm (by rfl) ?_ (by decide) (by decide))
  refine PyProof.Rows.callWith_kw (thn ((pa_cons ha pa_nil hs).run pos pins s σ H (fun vs H1 => ∃ v F1 ρ1 r, vs = [v] ∧ Sta X.K F1 H1 σ ρ1 ∧ TrX F H σ ρ F1 H1 ρ1 ∧ Fits X.K F1 H1 σ ρ1 H v r ∧ wc r ρ1 fun d => match d with
      | .list ds => SortOk ds ∧ kk (.tm .l (.list (ds.mergeSort (PySem.W.dataLe true id)))) ρ1
      | _ => False) I ⟨F, ρ, _, S, q, fun r ρ1 v F1 H1 q S1 T1 f => ⟨v, F1, ρ1, r, rfl, S1, T1, f, q⟩⟩) fun us s1 ⟨vs, H1, I1, r1, v, F1, ρ1, r, ev, S1, T1, ft, q⟩ => ?_) he hpl rfl rfl
  subst ev
  obtain ⟨u, rfl, ru⟩ := vals1 r1
  obtain ⟨d, rd, q⟩ := wc_rd S1 ft q
  split at q
  · rename_i ds
    obtain ⟨⟨hL, hal, hsk, hd⟩, q⟩ := q
    obtain ⟨a, ys, rfl, h1, h2⟩ := rd.list S1.sub
    cases ru
    show wpAny _ _ (evalAll ((do let v ← eval (.Constant (.bool true) cj cpos) X.env; standAt pos; pure v) :: [])) _ _ _
    refine wpAny_evalAll_cons (wpAny_bind (PyProof.Rows.Constant_bool (wpAny_bind (wpAny_standAt (wpAny_pure (wpAny_evalAll_nil ?_))))))
    show wpAny _ _ (call (.builtin "sorted") [.ref a] [(Str.ofString "reverse", .bool true)]) _ _ _
    obtain ⟨its, rv, pl, hz⟩ := I1.list (xs := ys) (.inl h1)
    have ms : (ys.zip ds).map (·.2) = ds := List.map_snd_zip (by have := dpAll_len h2; omega)
    refine PySem.W.sorted_rev_data (vs := its) (bs := ys.zip ds) (R := fun u p => L2.RelV p.1 u) (enc := fun p : V × D => p.2) pl.isList (vals_each rv (dpAll_len h2)) ?_ (by rw [ms]; exact hal) (by rw [ms]; exact hsk) (by rw [List.length_zip]; omega) (fun b hb => ?_) fun out _ e => ?_
    · refine (PySem.W.each_mem (vals_each rv (dpAll_len h2))).mono fun u p ⟨hp, hm⟩ => ?_
      exact ⟨_, dp_reads I1.hok (fun b o e => I1.bk b o (I1.ok.mod.kin b o e)) S1.sub p.2 p.1 u (hd p.2 (List.of_mem_zip hm).2).2 (dpAll_zip h2 p hm) hp⟩
    · have := (hd b.2 (List.of_mem_zip hb).2).1
      omega
    · refine sortD_fin (F := F1) I1 h2 hL true e fun p ws hn dw => ?_
      have n := New.list (K := X.K) S1.sub hn dw
      exact fin _ _ _ _ _ q (n.sta S1) (T1.trans n.tr) (n.fits S1 fun _ z => T1.none z)
  · exact q.elim
end
end TL

-- part Sk50
/-! Sk50: what the defs of law k50 promise. -/
namespace TL.k50
open PySem PySem.Spec L2 TL.cm
variable [Lay]
def NL (ns : List Nat) : D := .list (ns.map fun n : Nat => .int (n : Int))
def pr (p : Nat × Nat) : D := .tuple [.int p.1, .int p.2]
def PrL (ps : List (Nat × Nat)) : D := .list (ps.map pr)
/-- pupils: tuples of exams -/
def rw (r : List Nat) : D := .tuple (r.map fun n : Nat => .int (n : Int))
def RL (rs : List (List Nat)) : D := .list (rs.map rw)
structure Rows (n : Nat) (rs : List (List Nat)) : Prop where
  len : rs.length ≤ 100
  row : ∀ r ∈ rs, r.length ≤ 100 ∧ ∀ x ∈ r, x < n
/-- some pupil has both -/
def cl (rs : List (List Nat)) (i j : Nat) : Bool := rs.any fun r => decide (i ∈ r) && decide (j ∈ r)
def gr (rs : List (List Nat)) (i j : Nat) : Bool := decide (i ≠ j) && cl rs i j
def all2 (n : Nat) : List (Nat × Nat) := (List.range n).flatMap fun i => (List.range' (i + 1) (n - (i + 1))).map fun j => (i, j)
def prs (rs : List (List Nat)) (n : Nat) : List (Nat × Nat) := (all2 n).filter fun p => cl rs p.1 p.2
/-- how many pupils have both -/
def ML (n : Nat) (M : Nat → Nat → Int) : D := .list ((List.range n).map fun i => .list ((List.range n).map fun j => .int (M i j)))
structure Both (n : Nat) (rs : List (List Nat)) (M : Nat → Nat → Int) : Prop where
  pos : ∀ i j, i < n → j < n → (0 < M i j ↔ gr rs i j = true)
  nn : ∀ i j, 0 ≤ M i j
/-- a plan without two that clash on a day -/
def right (n : Nat) (rs : List (List Nat)) (plan : List Int) : Bool := decide (plan.length = n) && plan.all (fun d => decide (0 ≤ d)) && (prs rs n).all fun p => decide (plan[p.1]? ≠ plan[p.2]?)
/-- each gets the first day without one ahead of it that clashes -/
def FF (rs : List (List Nat)) (order : List Nat) (f : Nat → Nat) : Prop := ∀ done e rest, order = done ++ e :: rest → (∀ x ∈ done, gr rs e x = true → f x ≠ f e) ∧ ∀ d, d < f e → ∃ x ∈ done, gr rs e x = true ∧ f x = d
def deg (n : Nat) (rs : List (List Nat)) (e : Nat) : Nat := ((List.range n).filter (gr rs e)).length
def mkey (n : Nat) (rs : List (List Nat)) (e : Nat) : D := .tuple [.int (-(deg n rs e : Int)), .int e]
def most (n : Nat) (rs : List (List Nat)) : List Nat := (List.range n).mergeSort (PySem.W.dataLe false (mkey n rs))
def free (n : Nat) (rs : List (List Nat)) (plan : List Nat) (day : Nat) : List Nat := (List.range n).filter fun e => decide (plan[e]? ≠ some day) && ((List.range n).filter fun f => decide (plan[f]? = some day)).all fun f => !gr rs e f
@[simp] abbrev m__law_pupils : List Md := [.io .l, .fz]
def t__law_pupils : TSp := fun ds k => ∃ b, ∃ n : Nat, ds = [b, .int n] ∧ BoxD b ∧ n ≤ 6 ∧ ∀ rs b', Rows n rs → BoxD b' → k (.tm .l (RL rs)) [b']
@[simp] abbrev m_clashes : List Md := [.fz, .rd]
def t_clashes : TSp := fun ds k => ∃ n : Nat, ∃ rs, ds = [.int n, RL rs] ∧ n ≤ 6 ∧ Rows n rs ∧ k (.tm .l (PrL (prs rs n))) []
@[simp] abbrev m_is_plan : List Md := [.fz, .rd, .rd]
def t_is_plan : TSp := fun ds k => ∃ n : Nat, ∃ rs plan, ds = [.int n, RL rs, IL plan] ∧ n ≤ 6 ∧ Rows n rs ∧ plan.length ≤ 100 ∧ k (.fz (.bool (right n rs plan))) []
@[simp] abbrev m_one_by_one : List Md := [.fz, .rd, .rd]
def t_one_by_one : TSp := fun ds k => ∃ n : Nat, ∃ rs order f, ds = [.int n, RL rs, NL order] ∧ n ≤ 6 ∧ Rows n rs ∧ order.Perm (List.range n) ∧ FF rs order f ∧ k (.tm .l (NL ((List.range n).map f))) []
@[simp] abbrev m_by_most : List Md := [.fz, .rd]
def t_by_most : TSp := fun ds k => ∃ n : Nat, ∃ rs, ds = [.int n, RL rs] ∧ n ≤ 6 ∧ Rows n rs ∧ k (.tm .l (NL (most n rs))) []
@[simp] abbrev m_watchers_needed : List Md := [.rd]
def t_watchers_needed : TSp := fun ds k => ∃ (row : List Nat) (m : Int), ds = [NL row] ∧ row.length ≤ 1000 ∧ (m = 0 ∨ ∃ x ∈ row, m = row.count x) ∧ (0 ≤ m ∧ ∀ x ∈ row, (row.count x : Int) ≤ m) ∧ k (.fz (.int m)) []
@[simp] abbrev m_free_exams : List Md := [.fz, .rd, .rd, .fz]
def t_free_exams : TSp := fun ds k => ∃ n : Nat, ∃ rs plan, ∃ day : Nat, ds = [.int n, RL rs, NL plan, .int day] ∧ n ≤ 6 ∧ Rows n rs ∧ plan.length = n ∧ k (.tm .l (NL (free n rs plan day))) []
@[simp] abbrev m__law_both : List Md := [.fz, .rd]
def t__law_both : TSp := fun ds k => ∃ n : Nat, ∃ rs, ds = [.int n, RL rs] ∧ n ≤ 6 ∧ Rows n rs ∧ ∀ M, Both n rs M → k (.tm .l (ML n M)) []
@[simp] abbrev m__law_right : List Md := [.fz, .rd, .rd]
def t__law_right : TSp := fun ds k => ∃ n : Nat, ∃ rs M plan, ds = [.int n, ML n M, IL plan] ∧ n ≤ 6 ∧ Rows n rs ∧ Both n rs M ∧ plan.length ≤ 100 ∧ k (.fz (.bool (right n rs plan))) []
@[simp] abbrev m__law_one_by_one : List Md := [.fz, .rd, .rd]
def t__law_one_by_one : TSp := fun ds k => ∃ n : Nat, ∃ rs M order f, ds = [.int n, ML n M, NL order] ∧ n ≤ 6 ∧ Rows n rs ∧ Both n rs M ∧ order.Perm (List.range n) ∧ FF rs order f ∧ k (.tm .l (NL ((List.range n).map f))) []
/-- small plans -/
def Pap (p : List Int) : Prop := p.length ≤ 20 ∧ ∀ x ∈ p, -100 ≤ x ∧ x ≤ 100
@[simp] abbrev m__law_papers : List Md := [.io .l, .fz, .rd]
def t__law_papers : TSp := fun ds k => ∃ b, ∃ n : Nat, ∃ plan : List Nat, ds = [b, .int n, NL plan] ∧ BoxD b ∧ n ≤ 6 ∧ plan.length = n ∧ (∀ x ∈ plan, x ≤ 10) ∧ ∀ (ps : List (List Int)) b', (∀ p ∈ ps, Pap p) → ps.length ≤ 100 → BoxD b' → k (.tm .l (.list (ps.map IL))) [b']
@[simp] abbrev m_law : List Md := [.fz]
def t_law : TSp := tLaw
end TL.k50

-- part Dk50
/-! Dk50: the defs as transformers over trees. Printed by gen.py. -/
namespace TL.k50
open PySem PySem.Spec L2 TL.cm
variable [Lay]

/-- slots: 0 box, 1 exams, 2 kind, 3 hub, 4 rows, 5 fresh, 6 size, 7 k, 8 exam, 9 row -/
def b__law_pupils_1 : DTS :=
  (dDrop (dMu 4 gAppend (dCons (dComp (dItL (dName 5)) (gN 8) (dTest (dBin gLt (dCall m__law_draw t__law_draw (dCons (dName 0) (dCons (dName 1) dNil))) (dBin gSub (dBin gIx (dLst (dCons (dC (.int 3)) (dCons (dC (.int 2)) (dCons (dC (.int 2)) (dCons (dC (.int 5)) (dCons (dC (.int 4)) dNil)))))) (dName 2)) (dC (.int 1))))) (dName 8) [8]) dNil)))
def d__law_pupils : DTS :=
  (dSeq (dAsg (gT 2 (gsC (gN 2) (gsC (gN 3) gsN))) (dTup (dCons (dCall m__law_draw t__law_draw (dCons (dName 0) (dCons (dC (.int 5)) dNil))) (dCons (dCall m__law_draw t__law_draw (dCons (dName 0) (dCons (dC (.int 2)) dNil))) dNil))))
  (dSeq (dSet 4 (dLst dNil))
  (dSeq (dIfS (dTest (dBin gGt (dName 1) (dC (.int 0))))
    (dSeq (dSet 5 (dCall m__law_mixed t__law_mixed (dCons (dName 0) (dCons (dRgL1 (dName 1)) dNil))))
    (dSeq (dSet 6 (dFn gMax (dCons (dC (.int 1)) (dCons (dBin gSub (dName 1) (dCall m__law_draw t__law_draw (dCons (dName 0) (dCons (dC (.int 2)) dNil)))) dNil))))
    (dSeq (dIfS (dAnd (dTest (dBin gEq (dName 2) (dC (.int 1)))) (dTest (dBin gGt (dName 6) (dC (.int 2)))))
      (dSeq (dSet 4 (dComp (dItR1 (dCons (dName 6) dNil)) (gN 7) dYes (dLst (dCons (dBin gIx (dName 5) (dName 7)) (dCons (dBin gIx (dName 5) (dBin gMod (dFn gInt (dCons (dBin gAdd (dName 7) (dC (.int 1))) dNil)) (dName 6))) dNil))) [7]))
      (dIfS (dAnd (dTest (dBin gEq (dName 3) (dC (.int 0)))) (dTest (dBin gLt (dName 6) (dName 1))))
        (dSet 4 (dBin gAdd (dName 4) (dComp (dItR1 (dCons (dName 6) dNil)) (gN 7) dYes (dLst (dCons (dBin gIx (dName 5) (dName 7)) (dCons (dBin gIx (dName 5) (dName 6)) dNil))) [7])))
        dNext))
      dNext)
    (dIfS (dOr (dTest (dBin gNe (dName 2) (dC (.int 1)))) (dTest (dBin gEq (dCall m__law_draw t__law_draw (dCons (dName 0) (dCons (dC (.int 3)) dNil))) (dC (.int 0)))))
      (dFor (dItR1 (dCons (dCall m__law_draw t__law_draw (dCons (dName 0) (dCons (dBin gIx (dLst (dCons (dC (.int 5)) (dCons (dC (.int 2)) (dCons (dC (.int 9)) (dCons (dC (.int 4)) (dCons (dC (.int 3)) dNil)))))) (dName 2)) dNil))) dNil)) (gN 7)
        b__law_pupils_1)
      dNext))))
    dNext)
  (dRet (dComp (dItL (dName 4)) (gN 9) dYes (dFn gTupleOf (dCons (dFn gSortI (dCons (dName 9) dNil)) dNil)) [9])))))
structure Fr__law_pupils where
  (box exams kind hub rows fresh size k exam row : Slot)
@[simp] def Fr__law_pupils.st (f : Fr__law_pupils) : List Slot := [f.box, f.exams, f.kind, f.hub, f.rows, f.fresh, f.size, f.k, f.exam, f.row]
def r__law_pupils (ds : List D) (as : List Addr) : List Slot := entryR m__law_pupils ds as ++ List.replicate 8 .un
def Ok__law_pupils : Prop := ∀ ds k as, t__law_pupils ds k → ds.length = m__law_pupils.length → as.length = nio m__law_pupils → d__law_pupils { nx := finR m__law_pupils as k (.fz .none), rt := finR m__law_pupils as k } (entryR m__law_pupils ds as ++ List.replicate (10 - m__law_pupils.length) .un)
/-- slots: 0 exams, 1 pupils, 2 rows, 3 one, 4 other, 5 row -/
def d_clashes : DTS :=
  (dSeq (dSet 2 (dComp2 (dItR1 (dCons (dName 0) dNil)) (gN 3) dYes (dItR2 (dCons (dBin gAdd (dName 3) (dC (.int 1))) (dCons (dName 0) dNil))) (gN 4) dYes (dTup (dCons (dName 3) (dCons (dName 4) dNil))) [3, 4] [4]))
  (dRet (dComp (dItL (dName 2)) (gT 2 (gsC (gN 3) (gsC (gN 4) gsN))) (dTest (dFn gAny (dCons (dComp (dItL (dName 1)) (gN 5) dYes (dAndV (dBin gIn (dName 3) (dName 5)) (dBin gIn (dName 4) (dName 5))) [5]) dNil))) (dTup (dCons (dName 3) (dCons (dName 4) dNil))) [3, 4])))
structure Fr_clashes where
  (exams pupils rows one other row : Slot)
@[simp] def Fr_clashes.st (f : Fr_clashes) : List Slot := [f.exams, f.pupils, f.rows, f.one, f.other, f.row]
def r_clashes (ds : List D) (as : List Addr) : List Slot := entryR m_clashes ds as ++ List.replicate 4 .un
def Ok_clashes : Prop := ∀ ds k as, t_clashes ds k → ds.length = m_clashes.length → as.length = nio m_clashes → d_clashes { nx := finR m_clashes as k (.fz .none), rt := finR m_clashes as k } (entryR m_clashes ds as ++ List.replicate (6 - m_clashes.length) .un)
/-- slots: 0 box, 1 exams, 2 plan, 3 papers, 4 at, 5 far, 6 fresh, 7 one, 8 other, 9 row, 10 day -/
def b__law_papers_1 : DTS :=
  (dDrop (dMu 3 gAppend (dCons (dBin gAdd (dBin gAdd (dSl (dName 2) dNo (dSo (dName 4))) (dLst (dCons (dName 6) dNil))) (dSl (dName 2) (dSo (dBin gAdd (dName 4) (dC (.int 1)))) dNo)) dNil)))
def b__law_papers_2 : DTS :=
  (dSeq (dSet 8 (dBin gMod (dFn gInt (dCons (dBin gAdd (dBin gAdd (dName 7) (dC (.int 1))) (dCall m__law_draw t__law_draw (dCons (dName 0) (dCons (dFn gMax (dCons (dC (.int 1)) (dCons (dBin gSub (dName 1) (dC (.int 1))) dNil))) dNil)))) dNil)) (dName 1)))
      (dSeq (dSet 9 (dRgL1 (dName 1)))
      (dSeq (dStI 9 gSetL (dName 8) (dName 7))
      (dDrop (dMu 3 gAppend (dCons (dName 9) dNil))))))
def d__law_papers : DTS :=
  (dSeq (dSet 3 (dLst (dCons (dFn gListOf (dCons (dName 2) dNil)) (dCons (dBin gAdd (dName 2) (dLst (dCons (dC (.int 9)) dNil))) (dCons (dLst dNil) (dCons (dRgL1 (dName 1)) (dCons (dComp (dItL (dName 2)) (gN 10) dYes (dBin gAdd (dName 10) (dC (.int 5))) [10]) dNil)))))))
  (dSeq (dIfS (dTest (dBin gGt (dName 1) (dC (.int 0))))
    (dSeq (dPar 4 5 (dCons (dCall m__law_draw t__law_draw (dCons (dName 0) (dCons (dName 1) dNil))) (dCons (dCall m__law_draw t__law_draw (dCons (dName 0) (dCons (dName 1) dNil))) dNil)))
    (dSeq (dFor (dItL (dLst (dCons (dUn gNeg (dC (.int 1))) (dCons (dBin gIx (dName 2) (dName 5)) (dCons (dCall m__law_draw t__law_draw (dCons (dName 0) (dCons (dName 1) dNil))) (dCons (dBin gAdd (dName 1) (dC (.int 40))) dNil)))))) (gN 6)
      b__law_papers_1)
    (dSeq (dDrop (dMu 3 gAppend (dCons (dBin gAdd (dSl (dName 2) dNo (dSo (dName 4))) (dSl (dName 2) (dSo (dBin gAdd (dName 4) (dC (.int 1)))) dNo)) dNil)))
    (dSeq (dDrop (dMu 3 gAppend (dCons (dSl (dName 2) dNo (dSo (dBin gSub (dName 1) (dC (.int 1))))) dNil)))
    (dFor (dItR1 (dCons (dName 1) dNil)) (gN 7)
      b__law_papers_2)))))
    dNext)
  (dRet (dName 3))))
structure Fr__law_papers where
  (box exams plan papers at_ far fresh one other row day : Slot)
@[simp] def Fr__law_papers.st (f : Fr__law_papers) : List Slot := [f.box, f.exams, f.plan, f.papers, f.at_, f.far, f.fresh, f.one, f.other, f.row, f.day]
def r__law_papers (ds : List D) (as : List Addr) : List Slot := entryR m__law_papers ds as ++ List.replicate 8 .un
def Ok__law_papers : Prop := ∀ ds k as, t__law_papers ds k → ds.length = m__law_papers.length → as.length = nio m__law_papers → d__law_papers { nx := finR m__law_papers as k (.fz .none), rt := finR m__law_papers as k } (entryR m__law_papers ds as ++ List.replicate (11 - m__law_papers.length) .un)
/-- slots: 0 exams, 1 both, 2 order, 3 plan, 4 left, 5 day, 6 there, 7 exam, 8 far -/
def b__law_one_by_one_1 : DTS :=
  (dIfS (dTest (dBin gEq (dComp (dItL (dName 6)) (gN 8) (dTest (dBin gGt (dBin gIx (dBin gIx (dName 1) (dName 7)) (dName 8)) (dC (.int 0)))) (dName 8) [8]) (dLst dNil)))
        (dSeq (dDrop (dMu 6 gAppend (dCons (dName 7) dNil)))
        (dStI 3 gSetL (dName 5) (dName 7)))
        dNext)
def b__law_one_by_one_2 : DTS :=
  (dSeq (dSet 6 (dLst dNil))
    (dSeq (dFor (dItL (dLend 4)) (gN 7)
      b__law_one_by_one_1)
    (dSet 4 (dComp (dItL (dName 4)) (gN 7) (dTest (dBin gNin (dName 7) (dName 6))) (dName 7) [7]))))
def d__law_one_by_one : DTS :=
  (dSeq (dSet 3 (dComp (dItL (dName 2)) (gN 7) dYes (dC (.int 0)) [7]))
  (dSeq (dSet 4 (dFn gListOf (dCons (dName 2) dNil)))
  (dSeq (dFor (dItR1 (dCons (dName 0) dNil)) (gN 5)
    b__law_one_by_one_2)
  (dRet (dName 3)))))
structure Fr__law_one_by_one where
  (exams both order plan left day there exam far : Slot)
@[simp] def Fr__law_one_by_one.st (f : Fr__law_one_by_one) : List Slot := [f.exams, f.both, f.order, f.plan, f.left, f.day, f.there, f.exam, f.far]
def r__law_one_by_one (ds : List D) (as : List Addr) : List Slot := entryR m__law_one_by_one ds as ++ List.replicate 6 .un
def Ok__law_one_by_one : Prop := ∀ ds k as, t__law_one_by_one ds k → ds.length = m__law_one_by_one.length → as.length = nio m__law_one_by_one → d__law_one_by_one { nx := finR m__law_one_by_one as k (.fz .none), rt := finR m__law_one_by_one as k } (entryR m__law_one_by_one ds as ++ List.replicate (9 - m__law_one_by_one.length) .un)
/-- slots: 0 exams, 1 pupils, 2 plan, 3 day, 4 one, 5 other -/
def d_is_plan : DTS :=
  (dSeq (dIfS (dOr (dTest (dBin gNe (dFn gLen (dCons (dName 2) dNil)) (dName 0))) (dNot (dTest (dFn gAll (dCons (dComp (dItL (dName 2)) (gN 3) dYes (dBin gGe (dName 3) (dC (.int 0))) [3]) dNil)))))
    (dRet (dC (.bool false)))
    dNext)
  (dRet (dFn gAll (dCons (dComp (dItL (dCall m_clashes t_clashes (dCons (dName 0) (dCons (dName 1) dNil)))) (gT 2 (gsC (gN 4) (gsC (gN 5) gsN))) dYes (dBin gNe (dBin gIx (dName 2) (dName 4)) (dBin gIx (dName 2) (dName 5))) [4, 5]) dNil))))
structure Fr_is_plan where
  (exams pupils plan day one other : Slot)
@[simp] def Fr_is_plan.st (f : Fr_is_plan) : List Slot := [f.exams, f.pupils, f.plan, f.day, f.one, f.other]
def r_is_plan (ds : List D) (as : List Addr) : List Slot := entryR m_is_plan ds as ++ List.replicate 3 .un
def Ok_is_plan : Prop := ∀ ds k as, t_is_plan ds k → ds.length = m_is_plan.length → as.length = nio m_is_plan → d_is_plan { nx := finR m_is_plan as k (.fz .none), rt := finR m_is_plan as k } (entryR m_is_plan ds as ++ List.replicate (6 - m_is_plan.length) .un)
/-- slots: 0 exams, 1 pupils, 2 order, 3 pairs, 4 plan, 5 exam, 6 gone, 7 day, 8 far -/
def b_one_by_one_1 : DTS :=
  (dAug 7 gAddI (dC (.int 1)))
def b_one_by_one_2 : DTS :=
  (dSeq (dSet 6 (dComp (dItR1 (dCons (dName 0) dNil)) (gN 8) (dTest (dBin (gInD fun b => b) (dTup (dCons (dFn gMin (dCons (dName 5) (dCons (dName 8) dNil))) (dCons (dFn gMax (dCons (dName 5) (dCons (dName 8) dNil))) dNil))) (dName 3))) (dBin gIx (dName 4) (dName 8)) [8]))
    (dSeq (dSet 7 (dC (.int 0)))
    (dSeq (dWhile (dTest (dBin (gInD fun b => b) (dName 7) (dName 6)))
      b_one_by_one_1)
    (dStI 4 gSetL (dName 7) (dName 5)))))
def d_one_by_one : DTS :=
  (dSeq (dSet 3 (dCall m_clashes t_clashes (dCons (dName 0) (dCons (dName 1) dNil))))
  (dSeq (dSet 4 (dComp (dItR1 (dCons (dName 0) dNil)) (gN 5) dYes (dC .none) [5]))
  (dSeq (dFor (dItL (dLend 2)) (gN 5)
    b_one_by_one_2)
  (dRet (dName 4)))))
structure Fr_one_by_one where
  (exams pupils order pairs plan exam gone day far : Slot)
@[simp] def Fr_one_by_one.st (f : Fr_one_by_one) : List Slot := [f.exams, f.pupils, f.order, f.pairs, f.plan, f.exam, f.gone, f.day, f.far]
def r_one_by_one (ds : List D) (as : List Addr) : List Slot := entryR m_one_by_one ds as ++ List.replicate 6 .un
def Ok_one_by_one : Prop := ∀ ds k as, t_one_by_one ds k → ds.length = m_one_by_one.length → as.length = nio m_one_by_one → d_one_by_one { nx := finR m_one_by_one as k (.fz .none), rt := finR m_one_by_one as k } (entryR m_one_by_one ds as ++ List.replicate (9 - m_one_by_one.length) .un)
/-- slots: 0 exams, 1 pupils, 2 pairs -/
def l_by_most_0 : DTE :=
  (dTup (dCons (dUn gNeg (dFn gLen (dCons (dComp (dItL (dName 1)) (gN 2) (dTest (dBin gIn (dName 0) (dName 2))) (dC (.int 1)) [2]) dNil))) (dCons (dName 0) dNil)))
def d_by_most : DTS :=
  (dSeq (dSet 2 (dCall m_clashes t_clashes (dCons (dName 0) (dCons (dName 1) dNil))))
  (dRet (dSortKR 3 [2] (dName 0) l_by_most_0)))
structure Fr_by_most where
  (exams pupils pairs : Slot)
@[simp] def Fr_by_most.st (f : Fr_by_most) : List Slot := [f.exams, f.pupils, f.pairs]
def r_by_most (ds : List D) (as : List Addr) : List Slot := entryR m_by_most ds as ++ List.replicate 1 .un
def Ok_by_most : Prop := ∀ ds k as, t_by_most ds k → ds.length = m_by_most.length → as.length = nio m_by_most → d_by_most { nx := finR m_by_most as k (.fz .none), rt := finR m_by_most as k } (entryR m_by_most ds as ++ List.replicate (3 - m_by_most.length) .un)
/-- slots: 0 plan, 1 day -/
def d_watchers_needed : DTS :=
  (dRet (dFn gMax (dCons (dBin gAdd (dComp (dItL (dName 0)) (gN 1) dYes (dMt "list" gCount (dName 0) (dCons (dName 1) dNil)) [1]) (dLst (dCons (dC (.int 0)) dNil))) dNil)))
structure Fr_watchers_needed where
  (plan day : Slot)
@[simp] def Fr_watchers_needed.st (f : Fr_watchers_needed) : List Slot := [f.plan, f.day]
def r_watchers_needed (ds : List D) (as : List Addr) : List Slot := entryR m_watchers_needed ds as ++ List.replicate 1 .un
def Ok_watchers_needed : Prop := ∀ ds k as, t_watchers_needed ds k → ds.length = m_watchers_needed.length → as.length = nio m_watchers_needed → d_watchers_needed { nx := finR m_watchers_needed as k (.fz .none), rt := finR m_watchers_needed as k } (entryR m_watchers_needed ds as ++ List.replicate (2 - m_watchers_needed.length) .un)
/-- slots: 0 exams, 1 pupils, 2 plan, 3 day, 4 pairs, 5 there, 6 found, 7 exam, 8 far -/
def b_free_exams_1 : DTS :=
  (dIfS (dAnd (dTest (dBin gNin (dName 7) (dName 5))) (dNot (dTest (dFn gAny (dCons (dComp (dItL (dName 5)) (gN 8) dYes (dBin (gInD fun b => b) (dTup (dCons (dFn gMin (dCons (dName 7) (dCons (dName 8) dNil))) (dCons (dFn gMax (dCons (dName 7) (dCons (dName 8) dNil))) dNil))) (dName 4)) [8]) dNil)))))
      (dDrop (dMu 6 gAppend (dCons (dName 7) dNil)))
      dNext)
def d_free_exams : DTS :=
  (dSeq (dSet 4 (dCall m_clashes t_clashes (dCons (dName 0) (dCons (dName 1) dNil))))
  (dSeq (dSet 5 (dComp (dItR1 (dCons (dName 0) dNil)) (gN 7) (dTest (dBin gEq (dBin gIx (dName 2) (dName 7)) (dName 3))) (dName 7) [7]))
  (dSeq (dSet 6 (dLst dNil))
  (dSeq (dFor (dItR1 (dCons (dName 0) dNil)) (gN 7)
    b_free_exams_1)
  (dRet (dName 6))))))
structure Fr_free_exams where
  (exams pupils plan day pairs there found exam far : Slot)
@[simp] def Fr_free_exams.st (f : Fr_free_exams) : List Slot := [f.exams, f.pupils, f.plan, f.day, f.pairs, f.there, f.found, f.exam, f.far]
def r_free_exams (ds : List D) (as : List Addr) : List Slot := entryR m_free_exams ds as ++ List.replicate 5 .un
def Ok_free_exams : Prop := ∀ ds k as, t_free_exams ds k → ds.length = m_free_exams.length → as.length = nio m_free_exams → d_free_exams { nx := finR m_free_exams as k (.fz .none), rt := finR m_free_exams as k } (entryR m_free_exams ds as ++ List.replicate (9 - m_free_exams.length) .un)
/-- slots: 0 exams, 1 both, 2 plan, 3 one, 4 other, 5 day -/
def b__law_right_1 : DTS :=
  (dIfS (dAnd (dTest (dBin gEq (dBin gIx (dName 2) (dName 3)) (dBin gIx (dName 2) (dName 4)))) (dTest (dBin gGt (dBin gIx (dBin gIx (dName 1) (dName 3)) (dName 4)) (dC (.int 0)))))
        (dRet (dC (.bool false)))
        dNext)
def b__law_right_2 : DTS :=
  (dFor (dItR1 (dCons (dName 3) dNil)) (gN 4)
      b__law_right_1)
def d__law_right : DTS :=
  (dSeq (dIfS (dOr (dTest (dBin gNe (dFn gLen (dCons (dName 2) dNil)) (dName 0))) (dTest (dBin gNe (dComp (dItL (dName 2)) (gN 5) (dTest (dBin gLt (dName 5) (dC (.int 0)))) (dName 5) [5]) (dLst dNil))))
    (dRet (dC (.bool false)))
    dNext)
  (dSeq (dFor (dItR1 (dCons (dName 0) dNil)) (gN 3)
    b__law_right_2)
  (dRet (dC (.bool true)))))
structure Fr__law_right where
  (exams both plan one other day : Slot)
@[simp] def Fr__law_right.st (f : Fr__law_right) : List Slot := [f.exams, f.both, f.plan, f.one, f.other, f.day]
def r__law_right (ds : List D) (as : List Addr) : List Slot := entryR m__law_right ds as ++ List.replicate 3 .un
def Ok__law_right : Prop := ∀ ds k as, t__law_right ds k → ds.length = m__law_right.length → as.length = nio m__law_right → d__law_right { nx := finR m__law_right as k (.fz .none), rt := finR m__law_right as k } (entryR m__law_right ds as ++ List.replicate (6 - m__law_right.length) .un)
/-- slots: 0 script, 1 box, 2 lap, 3 exams, 4 those, 5 handed, 6 both, 7 pairs, 8 one, 9 told, 10 degrees, 11 most, 12 plan, 13 order, 14 told_order, 15 days, 16 day, 17 there, 18 fit, 19 told_plan, 20 paper, 21 other, 22 far, 23 exam, 24 minus -/
def b_law_1 : DTS :=
  (dSet 7 (dBin gAdd (dName 7) (dComp (dItR2 (dCons (dBin gAdd (dName 8) (dC (.int 1))) (dCons (dName 3) dNil))) (gN 21) (dTest (dBin gGt (dBin gIx (dBin gIx (dName 6) (dName 8)) (dName 21)) (dC (.int 0)))) (dTup (dCons (dName 8) (dCons (dName 21) dNil))) [21])))
def b_law_2 : DTS :=
  (dSeq (dSet 14 (dFn gListOf (dCons (dName 13) dNil)))
      (dSeq (dSet 12 (dCall m__law_one_by_one t__law_one_by_one (dCons (dName 3) (dCons (dName 6) (dCons (dName 13) dNil)))))
      (dIfS (dOr (dNot (dTest (dCall m__law_same t__law_same (dCons (dCall m_one_by_one t_one_by_one (dCons (dName 3) (dCons (dName 5) (dCons (dName 14) dNil)))) (dCons (dName 12) dNil))))) (dTest (dBin gNe (dName 14) (dName 13))))
        (dRet (dC (.bool false)))
        dNext)))
def b_law_3 : DTS :=
  (dSeq (dSet 17 (dComp (dItR1 (dCons (dName 3) dNil)) (gN 23) (dTest (dBin gEq (dBin gIx (dName 12) (dName 23)) (dName 16))) (dName 23) [23]))
      (dSeq (dSet 18 (dComp (dItR1 (dCons (dName 3) dNil)) (gN 23) (dAnd (dTest (dBin gNe (dBin gIx (dName 12) (dName 23)) (dName 16))) (dTest (dBin gEq (dFn gSum (dCons (dComp (dItL (dName 17)) (gN 22) dYes (dBin gIx (dBin gIx (dName 6) (dName 23)) (dName 22)) [22]) dNil)) (dC (.int 0))))) (dName 23) [23]))
      (dSeq (dSet 19 (dFn gListOf (dCons (dName 12) dNil)))
      (dIfS (dOr (dNot (dTest (dCall m__law_same t__law_same (dCons (dCall m_free_exams t_free_exams (dCons (dName 3) (dCons (dName 5) (dCons (dName 19) (dCons (dName 16) dNil))))) (dCons (dName 18) dNil))))) (dTest (dBin gNe (dName 19) (dName 12))))
        (dRet (dC (.bool false)))
        dNext))))
def b_law_4 : DTS :=
  (dSeq (dSet 19 (dFn gListOf (dCons (dName 20) dNil)))
      (dIfS (dOr (dNot (dTest (dCall m__law_same t__law_same (dCons (dCall m_is_plan t_is_plan (dCons (dName 3) (dCons (dName 5) (dCons (dName 19) dNil)))) (dCons (dCall m__law_right t__law_right (dCons (dName 3) (dCons (dName 6) (dCons (dName 20) dNil)))) dNil))))) (dTest (dBin gNe (dName 19) (dName 20))))
        (dRet (dC (.bool false)))
        dNext))
def b_law_5 : DTS :=
  (dSeq (dSet 3 (dBin gIx (dLst (dCons (dBin gAdd (dC (.int 4)) (dCall m__law_draw t__law_draw (dCons (dName 1) (dCons (dC (.int 3)) dNil)))) (dCons (dBin gAdd (dC (.int 1)) (dCall m__law_draw t__law_draw (dCons (dName 1) (dCons (dC (.int 6)) dNil)))) (dCons (dCall m__law_draw t__law_draw (dCons (dName 1) (dCons (dC (.int 7)) dNil))) dNil)))) (dName 2)))
    (dSeq (dSet 4 (dCall m__law_pupils t__law_pupils (dCons (dName 1) (dCons (dName 3) dNil))))
    (dSeq (dSet 5 (dFn gListOf (dCons (dName 4) dNil)))
    (dSeq (dSet 6 (dCall m__law_both t__law_both (dCons (dName 3) (dCons (dName 4) dNil))))
    (dSeq (dSet 7 (dLst dNil))
    (dSeq (dFor (dItR1 (dCons (dName 3) dNil)) (gN 8)
      b_law_1)
    (dSeq (dSet 9 (dCall m_clashes t_clashes (dCons (dName 3) (dCons (dName 5) dNil))))
    (dSeq (dIfS (dNot (dTest (dCall m__law_same t__law_same (dCons (dName 9) (dCons (dName 7) dNil)))))
      (dRet (dC (.bool false)))
      dNext)
    (dSeq (dDrop (dMu 9 gAppend (dCons (dTup (dCons (dC (.int 0)) (dCons (dC (.int 1)) dNil))) dNil)))
    (dSeq (dIfS (dAnd (dTest (dBin gEq (dName 2) (dC (.int 0)))) (dNot (dTest (dCall m__law_same t__law_same (dCons (dCall m_clashes t_clashes (dCons (dName 3) (dCons (dName 5) dNil))) (dCons (dName 7) dNil))))))
      (dRet (dC (.bool false)))
      dNext)
    (dSeq (dSet 10 (dComp (dItR1 (dCons (dName 3) dNil)) (gN 23) dYes (dFn gLen (dCons (dComp (dItR1 (dCons (dName 3) dNil)) (gN 22) (dTest (dBin gGt (dBin gIx (dBin gIx (dName 6) (dName 23)) (dName 22)) (dC (.int 0)))) (dName 22) [22]) dNil)) [23]))
    (dSeq (dSet 11 (dComp (dItL (dFn gSortD (dCons (dComp (dItR1 (dCons (dName 3) dNil)) (gN 23) dYes (dTup (dCons (dUn gNeg (dBin gIx (dName 10) (dName 23))) (dCons (dName 23) dNil))) [23]) dNil))) (gT 2 (gsC (gN 24) (gsC (gN 23) gsN))) dYes (dName 23) [24, 23]))
    (dSeq (dIfS (dNot (dTest (dCall m__law_same t__law_same (dCons (dCall m_by_most t_by_most (dCons (dName 3) (dCons (dName 5) dNil))) (dCons (dName 11) dNil)))))
      (dRet (dC (.bool false)))
      dNext)
    (dSeq (dSet 12 (dLst dNil))
    (dSeq (dFor (dItL (dLst (dCons (dCall m__law_mixed t__law_mixed (dCons (dName 1) (dCons (dRgL1 (dName 3)) dNil))) (dCons (dName 11) dNil)))) (gN 13)
      b_law_2)
    (dSeq (dSet 15 (dCall m__law_mixed t__law_mixed (dCons (dName 1) (dCons (dRgL1 (dBin gAdd (dName 3) (dC (.int 1)))) dNil))))
    (dSeq (dSet 12 (dComp (dItL (dName 12)) (gN 16) dYes (dBin gIx (dName 15) (dName 16)) [16]))
    (dSeq (dFor (dItL (dLst (dCons (dIf (dTest (dBin gGt (dName 3) (dC (.int 0)))) (dBin gIx (dName 12) (dCall m__law_draw t__law_draw (dCons (dName 1) (dCons (dName 3) dNil)))) (dC (.int 0))) (dCons (dCall m__law_draw t__law_draw (dCons (dName 1) (dCons (dBin gAdd (dName 3) (dC (.int 2))) dNil))) dNil)))) (gN 16)
      b_law_3)
    (dSeq (dIfS (dNot (dTest (dCall m__law_same t__law_same (dCons (dCall m_watchers_needed t_watchers_needed (dCons (dFn gListOf (dCons (dName 12) dNil)) dNil)) (dCons (dFn gMax (dCons (dBin gAdd (dComp (dItL (dName 12)) (gN 16) dYes (dFn gLen (dCons (dComp (dItL (dName 12)) (gN 22) (dTest (dBin gEq (dName 22) (dName 16))) (dC (.int 1)) [22]) dNil)) [16]) (dLst (dCons (dC (.int 0)) dNil))) dNil)) dNil)))))
      (dRet (dC (.bool false)))
      dNext)
    (dSeq (dFor (dItL (dCall m__law_papers t__law_papers (dCons (dName 1) (dCons (dName 3) (dCons (dName 12) dNil))))) (gN 20)
      b_law_4)
    (dIfS (dTest (dBin gNe (dName 5) (dName 4)))
      (dRet (dC (.bool false)))
      dNext)))))))))))))))))))))
def d_law : DTS :=
  (dSeq (dSet 1 (dLst (dCons (dCall m__law_digits t__law_digits (dCons (dName 0) (dCons (dC (.int 0)) (dCons (dC (.int 20)) dNil)))) (dCons (dC (.int 0)) dNil))))
  (dSeq (dFor (dItR1 (dCons (dC (.int 3)) dNil)) (gN 2)
    b_law_5)
  (dSeq (dIfS (dOr (dTest (dBin gIsNot (dCall m_is_plan t_is_plan (dCons (dC (.int 2)) (dCons (dLst (dCons (dTup (dCons (dC (.int 0)) (dCons (dC (.int 1)) dNil))) dNil)) (dCons (dLst (dCons (dC (.int 3)) (dCons (dC (.int 3)) dNil))) dNil)))) (dC (.bool false)))) (dOr (dTest (dBin gIsNot (dCall m_is_plan t_is_plan (dCons (dC (.int 2)) (dCons (dLst (dCons (dTup (dCons (dC (.int 0)) dNil)) (dCons (dTup (dCons (dC (.int 1)) dNil)) dNil))) (dCons (dLst (dCons (dC (.int 3)) (dCons (dC (.int 3)) dNil))) dNil)))) (dC (.bool true)))) (dTest (dBin gIsNot (dCall m_is_plan t_is_plan (dCons (dC (.int 1)) (dCons (dLst dNil) (dCons (dLst (dCons (dUn gNeg (dC (.int 1))) dNil)) dNil)))) (dC (.bool false))))))
    (dRet (dC (.bool false)))
    dNext)
  (dSeq (dIfS (dNot (dTest (dCall m__law_same t__law_same (dCons (dCall m_one_by_one t_one_by_one (dCons (dC (.int 4)) (dCons (dLst (dCons (dTup (dCons (dC (.int 0)) (dCons (dC (.int 3)) dNil))) (dCons (dTup (dCons (dC (.int 1)) (dCons (dC (.int 2)) dNil))) (dCons (dTup (dCons (dC (.int 1)) (dCons (dC (.int 3)) dNil))) (dCons (dTup (dCons (dC (.int 0)) (dCons (dC (.int 2)) dNil))) dNil))))) (dCons (dLst (dCons (dC (.int 0)) (dCons (dC (.int 3)) (dCons (dC (.int 1)) (dCons (dC (.int 2)) dNil))))) dNil)))) (dCons (dLst (dCons (dC (.int 0)) (dCons (dC (.int 0)) (dCons (dC (.int 1)) (dCons (dC (.int 1)) dNil))))) dNil)))))
    (dRet (dC (.bool false)))
    dNext)
  (dRet (dAndV (dCall m__law_same t__law_same (dCons (dCall m_by_most t_by_most (dCons (dC (.int 3)) (dCons (dLst (dCons (dTup (dCons (dC (.int 1)) (dCons (dC (.int 2)) dNil))) dNil)) dNil))) (dCons (dLst (dCons (dC (.int 1)) (dCons (dC (.int 2)) (dCons (dC (.int 0)) dNil)))) dNil))) (dCall m__law_same t__law_same (dCons (dCall m_clashes t_clashes (dCons (dC (.int 3)) (dCons (dLst (dCons (dTup (dCons (dC (.int 0)) (dCons (dC (.int 1)) (dCons (dC (.int 2)) dNil)))) (dCons (dTup (dCons (dC (.int 0)) (dCons (dC (.int 2)) dNil))) dNil))) dNil))) (dCons (dLst (dCons (dTup (dCons (dC (.int 0)) (dCons (dC (.int 1)) dNil))) (dCons (dTup (dCons (dC (.int 0)) (dCons (dC (.int 2)) dNil))) (dCons (dTup (dCons (dC (.int 1)) (dCons (dC (.int 2)) dNil))) dNil)))) dNil)))))))))
structure Fr_law where
  (script box lap exams those handed both pairs one told degrees most plan order told_order days day there fit told_plan paper other far exam minus : Slot)
@[simp] def Fr_law.st (f : Fr_law) : List Slot := [f.script, f.box, f.lap, f.exams, f.those, f.handed, f.both, f.pairs, f.one, f.told, f.degrees, f.most, f.plan, f.order, f.told_order, f.days, f.day, f.there, f.fit, f.told_plan, f.paper, f.other, f.far, f.exam, f.minus]
def r_law (ds : List D) (as : List Addr) : List Slot := entryR m_law ds as ++ List.replicate 24 .un
def Ok_law : Prop := ∀ ds k as, t_law ds k → ds.length = m_law.length → as.length = nio m_law → d_law { nx := finR m_law as k (.fz .none), rt := finR m_law as k } (entryR m_law ds as ++ List.replicate (25 - m_law.length) .un)
end TL.k50

-- part Dcm
/-! Dcm: the defs as transformers over trees. Printed by gen.py. -/
namespace TL.cm
open PySem PySem.Spec L2
variable [Lay]

/-- slots: 0 script, 1 k -/
def d__law_cell : DTS :=
  (dSeq (dIfS (dTest (dBin gLt (dName 1) (dFn gLenS (dCons (dName 0) dNil))))
    (dRet (dBin gIxS (dName 0) (dName 1)))
    dNext)
  (dRet (dC (.int 0))))
structure Fr__law_cell where
  (script k : Slot)
@[simp] def Fr__law_cell.st (f : Fr__law_cell) : List Slot := [f.script, f.k]
def r__law_cell (ds : List D) (as : List Addr) : List Slot := entryR m__law_cell ds as ++ List.replicate 0 .un
def Ok__law_cell : Prop := ∀ ds k as, t__law_cell ds k → ds.length = m__law_cell.length → as.length = nio m__law_cell → d__law_cell { nx := finR m__law_cell as k (.fz .none), rt := finR m__law_cell as k } (entryR m__law_cell ds as ++ List.replicate (2 - m__law_cell.length) .un)
/-- slots: 0 script, 1 first, 2 last, 3 digits, 4 k, 5 cell, 6 lap, 7 seed -/
def b__law_digits_1 : DTS :=
  (dIfS (dTest (dBin gGt (dName 5) (dC (.int 0))))
          (dSeq (dDrop (dMu 3 gAppend (dCons (dBin gMod (dFn gInt (dCons (dName 5) dNil)) (dC (.int 1000))) dNil)))
          (dSet 5 (dBin gFdiv (dName 5) (dC (.int 1000)))))
          dNext)
def b__law_digits_2 : DTS :=
  (dSeq (dSet 7 (dBin gMod (dFn gInt (dCons (dBin gAdd (dBin gAdd (dBin gMul (dName 7) (dC (.int 16807))) (dBin gMul (dC (.int 7)) (dName 6))) (dC (.int 1))) dNil)) (dC (.int 2147483647))))
        (dDrop (dMu 3 gAppend (dCons (dBin gMod (dFn gInt (dCons (dBin gFdiv (dName 7) (dC (.int 997))) dNil)) (dC (.int 1000))) dNil))))
def b__law_digits_3 : DTS :=
  (dSeq (dSet 5 (dCall m__law_cell t__law_cell (dCons (dName 0) (dCons (dName 4) dNil))))
    (dSeq (dIfS (dTest (dBin gLt (dName 5) (dC (.int 0))))
      (dSet 5 (dBin gSub (dC (.int 1)) (dBin gMul (dC (.int 2)) (dName 5))))
      dNext)
    (dIfS (dTest (dBin gGe (dName 5) (dBin gPow (dC (.int 10)) (dC (.int 18)))))
      (dFor (dItR1 (dCons (dC (.int 60)) dNil)) (gN 6)
        b__law_digits_1)
      (dSeq (dSet 7 (dBin gMod (dFn gInt (dCons (dBin gAdd (dBin gAdd (dBin gMul (dName 5) (dC (.int 48271))) (dBin gMul (dName 4) (dC (.int 69621)))) (dC (.int 11))) dNil)) (dC (.int 2147483647))))
      (dFor (dItR1 (dCons (dC (.int 12)) dNil)) (gN 6)
        b__law_digits_2)))))
def d__law_digits : DTS :=
  (dSeq (dSet 3 (dLst dNil))
  (dSeq (dFor (dItR2 (dCons (dName 1) (dCons (dName 2) dNil))) (gN 4)
    b__law_digits_3)
  (dRet (dName 3))))
structure Fr__law_digits where
  (script first last digits k cell lap seed : Slot)
@[simp] def Fr__law_digits.st (f : Fr__law_digits) : List Slot := [f.script, f.first, f.last, f.digits, f.k, f.cell, f.lap, f.seed]
def r__law_digits (ds : List D) (as : List Addr) : List Slot := entryR m__law_digits ds as ++ List.replicate 5 .un
def Ok__law_digits : Prop := ∀ ds k as, t__law_digits ds k → ds.length = m__law_digits.length → as.length = nio m__law_digits → d__law_digits { nx := finR m__law_digits as k (.fz .none), rt := finR m__law_digits as k } (entryR m__law_digits ds as ++ List.replicate (8 - m__law_digits.length) .un)
/-- slots: 0 box, 1 many -/
def d__law_draw : DTS :=
  (dSeq (dStI 0 gSetL (dBin gAdd (dBin gIx (dName 0) (dC (.int 1))) (dC (.int 1))) (dC (.int 1)))
  (dSeq (dIfS (dTest (dBin gGt (dBin gIx (dName 0) (dC (.int 1))) (dFn gLen (dCons (dBin gIx (dName 0) (dC (.int 0))) dNil))))
    (dRet (dBin gMod (dFn gInt (dCons (dBin gAdd (dBin gAdd (dBin gIx (dBin gIx (dName 0) (dC (.int 0))) (dBin gMod (dFn gInt (dCons (dBin gMul (dBin gIx (dName 0) (dC (.int 1))) (dC (.int 31))) dNil)) (dFn gLen (dCons (dBin gIx (dName 0) (dC (.int 0))) dNil)))) (dBin gMul (dBin gIx (dName 0) (dC (.int 1))) (dC (.int 7)))) (dC (.int 3))) dNil)) (dName 1)))
    dNext)
  (dRet (dBin gMod (dFn gInt (dCons (dBin gIx (dBin gIx (dName 0) (dC (.int 0))) (dBin gSub (dBin gIx (dName 0) (dC (.int 1))) (dC (.int 1)))) dNil)) (dName 1)))))
structure Fr__law_draw where
  (box many : Slot)
@[simp] def Fr__law_draw.st (f : Fr__law_draw) : List Slot := [f.box, f.many]
def r__law_draw (ds : List D) (as : List Addr) : List Slot := entryR m__law_draw ds as ++ List.replicate 0 .un
def Ok__law_draw : Prop := ∀ ds k as, t__law_draw ds k → ds.length = m__law_draw.length → as.length = nio m__law_draw → d__law_draw { nx := finR m__law_draw as k (.fz .none), rt := finR m__law_draw as k } (entryR m__law_draw ds as ++ List.replicate (2 - m__law_draw.length) .un)
/-- slots: 0 box, 1 row, 2 left, 3 found, 4 lap -/
def b__law_mixed_1 : DTS :=
  (dDrop (dMu 3 gAppend (dCons (dMu 2 gPop (dCons (dCall m__law_draw t__law_draw (dCons (dName 0) (dCons (dFn gLen (dCons (dName 2) dNil)) dNil))) dNil)) dNil)))
def d__law_mixed : DTS :=
  (dSeq (dParS 2 3 (dFn gListOf (dCons (dName 1) dNil)) (dLst dNil))
  (dSeq (dFor (dItR1 (dCons (dFn gLen (dCons (dName 1) dNil)) dNil)) (gN 4)
    b__law_mixed_1)
  (dRet (dName 3))))
structure Fr__law_mixed where
  (box row left found lap : Slot)
@[simp] def Fr__law_mixed.st (f : Fr__law_mixed) : List Slot := [f.box, f.row, f.left, f.found, f.lap]
def r__law_mixed (ds : List D) (as : List Addr) : List Slot := entryR m__law_mixed ds as ++ List.replicate 3 .un
def Ok__law_mixed : Prop := ∀ ds k as, t__law_mixed ds k → ds.length = m__law_mixed.length → as.length = nio m__law_mixed → d__law_mixed { nx := finR m__law_mixed as k (.fz .none), rt := finR m__law_mixed as k } (entryR m__law_mixed ds as ++ List.replicate (5 - m__law_mixed.length) .un)
/-- slots: 0 box, 1 row -/
def d__law_pick : DTS :=
  (dRet (dBin gIx (dName 1) (dBin gMod (dFn gInt (dCons (dCall m__law_draw t__law_draw (dCons (dName 0) (dCons (dC (.int 1000)) dNil))) dNil)) (dFn gLen (dCons (dName 1) dNil)))))
structure Fr__law_pick where
  (box row : Slot)
@[simp] def Fr__law_pick.st (f : Fr__law_pick) : List Slot := [f.box, f.row]
def r__law_pick (ds : List D) (as : List Addr) : List Slot := entryR m__law_pick ds as ++ List.replicate 0 .un
def Ok__law_pick : Prop := ∀ ds k as, t__law_pick ds k → ds.length = m__law_pick.length → as.length = nio m__law_pick → d__law_pick { nx := finR m__law_pick as k (.fz .none), rt := finR m__law_pick as k } (entryR m__law_pick ds as ++ List.replicate (2 - m__law_pick.length) .un)
/-- slots: 0 told, 1 due, 2 k -/
def b__law_same_1 (tr : TSp) :=
  (dIfS (dNot (dTest (dCall m__law_same tr (dCons (dBin gIx (dName 0) (dName 2)) (dCons (dBin gIx (dName 1) (dName 2)) dNil)))))
      (dRet (dC (.bool false)))
      dNext)
def d__law_same (tr : TSp) : DTS :=
  (dSeq (dIfS (dTest (dUn gIsN (dName 1)))
    (dRet (dUn gIsN (dName 0)))
    dNext)
  (dSeq (dIfS (dTest (dBin gIs (dName 1) (dC (.bool true))))
    (dRet (dBin gIs (dName 0) (dC (.bool true))))
    dNext)
  (dSeq (dIfS (dTest (dBin gIs (dName 1) (dC (.bool false))))
    (dRet (dBin gIs (dName 0) (dC (.bool false))))
    dNext)
  (dSeq (dIfS (dTest (dIsI "str" (dName 1)))
    (dRet (dAndV (dIsI "str" (dName 0)) (dBin gEqS (dFn gRepr (dCons (dName 0) dNil)) (dFn gRepr (dCons (dName 1) dNil)))))
    dNext)
  (dSeq (dIfS (dTest (dIsI "int" (dName 1)))
    (dRet (dAndV (dIsI "int" (dName 0)) (dAndV (dNotV (dIsI "bool" (dName 0))) (dBin gEqS (dFn gRepr (dCons (dName 0) dNil)) (dFn gRepr (dCons (dName 1) dNil))))))
    dNext)
  (dSeq (dIfS (dOr (dAnd (dTest (dIsI "tuple" (dName 1))) (dNot (dTest (dIsI "tuple" (dName 0))))) (dAnd (dTest (dIsI "list" (dName 1))) (dNot (dTest (dIsI "list" (dName 0))))))
    (dRet (dC (.bool false)))
    dNext)
  (dSeq (dIfS (dTest (dBin gNe (dFn gLen (dCons (dName 0) dNil)) (dFn gLen (dCons (dName 1) dNil))))
    (dRet (dC (.bool false)))
    dNext)
  (dSeq (dFor (dItR1 (dCons (dFn gLen (dCons (dName 1) dNil)) dNil)) (gN 2)
    (b__law_same_1 tr))
  (dRet (dC (.bool true)))))))))))
structure Fr__law_same where
  (told due k : Slot)
@[simp] def Fr__law_same.st (f : Fr__law_same) : List Slot := [f.told, f.due, f.k]
def r__law_same (ds : List D) (as : List Addr) : List Slot := entryR m__law_same ds as ++ List.replicate 1 .un
def Ok__law_same (tr : TSp) : Prop := ∀ ds k as, t__law_same ds k → ds.length = m__law_same.length → as.length = nio m__law_same → d__law_same tr { nx := finR m__law_same as k (.fz .none), rt := finR m__law_same as k } (entryR m__law_same ds as ++ List.replicate (3 - m__law_same.length) .un)
end TL.cm

-- part Pcm
/-! Pcm: the common helpers keep their promises. -/
namespace TL.cm
open PySem PySem.Spec L2
variable [Lay]
theorem p__law_cell : Ok__law_cell := by
  rintro ds k as ⟨ns, i, rfl, hi, hk⟩ - ha
  refine ⟨ns, intsOf_map ns, ifd (fun h => ?_) fun h => ?_⟩
  · obtain ⟨n, hn, _⟩ := get_lt hi h
    exact ⟨ns, intsOf_map ns, _, atI_of hi hn, hk _⟩
  · exact hk 0
theorem p__law_draw : Ok__law_draw := by
  rintro ds k as ⟨b, many, rfl, ⟨r, n, rfl, hr, hn⟩, hm, hk⟩ - ha
  obtain ⟨a, rfl⟩ := as1 ha
  have hl : 0 < (r.length : Int) := by
    cases r with
    | nil => exact absurd rfl hr
    | cons => simp
  have lm : (List.map PyData.int r).length = r.length := List.length_map _
  have bx : BoxD (.list [.list (r.map .int), .int (n + 1)]) := ⟨r, n + 1, rfl, hr, by omega⟩
  have fin : ∀ y : Int, k (.fz (.int (y % many))) [.list [.list (r.map .int), .int (n + 1)]] := fun y => hk _ _ (Int.emod_nonneg _ (by omega)) (Int.emod_lt_of_pos _ hm) bx
  refine ⟨_, rfl, trivial, _, rfl, _, rfl, _, rfl, ifd (fun h => ?_) fun h => ?_⟩
  · rw [lm] at h
    obtain ⟨y, hy, _⟩ := get_lt (ns := r) (Int.emod_nonneg ((n + 1) * 31) (by omega)) (Int.emod_lt_of_pos ((n + 1) * 31) hl)
    refine ⟨_, rfl, _, rfl, mulSmall (by decide), _, rfl, ?_⟩
    refine ⟨by rw [lm]; exact hl, _, atI_ints (i := (n + 1) * 31 % ((List.map PyData.int r).length : Int)) (by rw [lm]; exact Int.emod_nonneg _ (by omega)) (by rw [lm]; exact hy), _, rfl, mulSmall (by decide), hm, rfl, rfl, ?_⟩
    exact fin _
  · rw [lm] at h
    obtain ⟨y, hy, _⟩ := get_lt (ns := r) (i := n + 1 - 1) (by omega) (by omega)
    exact ⟨_, rfl, _, rfl, _, atI_ints (by omega) hy, hm, rfl, rfl, fin _⟩
theorem p__law_pick : Ok__law_pick := by
  rintro ds k as ⟨b, row, hd, hb, hr, hk⟩ - ha
  obtain ⟨a, rfl⟩ := as1 ha
  have hl : 0 < (row.length : Int) := by
    cases row with
    | nil => exact absurd rfl hr
    | cons => simp only [List.length_cons]; omega
  have at' : ∀ x : Int, ∃ d, atI row (x % (row.length : Int)) = some d ∧ d ∈ row := fun x => by
    have h0 : 0 ≤ x % (row.length : Int) := Int.emod_nonneg _ (by omega)
    have h1 : x % (row.length : Int) < row.length := Int.emod_lt_of_pos _ hl
    have h2 : (x % (row.length : Int)).toNat < row.length := by omega
    exact ⟨_, atI_of h0 (List.getElem?_eq_getElem h2), List.getElem_mem h2⟩
  rcases hd with rfl | rfl
  · refine ⟨okio1 rfl (by decide) trivial, rfl, _, _, rfl, hb, by decide, fun x b' h1 h2 hb' => ⟨rfl, hl, ?_⟩⟩
    obtain ⟨d, h3, h4⟩ := at' x
    exact ⟨d, h3, rfl, rfl, hk d b' h4 hb'⟩
  · refine ⟨okio1 rfl (by decide) trivial, rfl, _, _, rfl, hb, by decide, fun x b' h1 h2 hb' => ⟨rfl, hl, ?_⟩⟩
    obtain ⟨d, h3, h4⟩ := at' x
    exact ⟨d, h3, rfl, rfl, hk d b' h4 hb'⟩
theorem p__law_digits : Ok__law_digits := by
  rintro ds k as ⟨ns, a, b, rfl, ha0, hab, hb, hk⟩ - ha
  obtain rfl := as0 ha
  have sl : sizeLine = 16777216 := rfl
  have p18 : (0 : Int) < 10 ^ Int.toNat 18 := by decide
  have gd : ∀ (r : List Int) (y : Int), (∀ x ∈ r, 0 ≤ x ∧ x < 1000) → ∀ x ∈ r ++ [y % 1000], 0 ≤ x ∧ x < 1000 := fun r y h x hx => by
    rcases List.mem_append.mp hx with z | z
    · exact h x z
    · rw [List.mem_singleton.mp z]; omega
  have ap : ∀ (r : List Int) (y : Int), r.map PyData.int ++ [.int y] = (r ++ [y]).map .int := fun r y => by simp
  have le : ∀ r : List Int, (r.map PyData.int).length = r.length := fun r => List.length_map _
  refine ⟨by show 0 ≤ sizeLine; omega, ⟨⟨by omega, by omega⟩, by omega, by omega⟩, trivial, ?_⟩
  refine loop_ind (fun done rest ρ => ∃ (r : List Int) (s4 s5 s6 s7 : Slot), ρ = [.fz (scrD ns), .fz (.int a), .fz (.int b), .ow none .l (.list (r.map .int)), s4, s5, s6, s7] ∧ (∀ x ∈ r, 0 ≤ x ∧ x < 1000) ∧ (done ≠ [] → r ≠ []) ∧ r.length ≤ 60 * done.length)
    ⟨[], .un, .un, .un, .un, rfl, by simp, by simp, by simp⟩ ?_ ?_
  · rintro ρ ⟨r, s4, s5, s6, s7, rfl, h1, h2, h3⟩
    refine hk r h1 (h2 fun z => ?_)
    have := congrArg List.length z
    rw [rangeD_len] at this
    simp at this
    omega
  · rintro done d rest ρ he ⟨r, s4, s5, s6, s7, rfl, h1, h2, h3⟩ next
    obtain ⟨rfl, hd⟩ := range_at he
    have hdl : done.length < 1000 := by omega
    refine seq_join (fun ρ => ∃ cell : Int, ρ = [.fz (scrD ns), .fz (.int a), .fz (.int b), .ow none .l (.list (r.map .int)), .fz (.int (a + done.length)), .fz (.int cell), s6, s7]) (fun kk hkk => ⟨okio0 rfl, ns, a + done.length, rfl, by omega, fun cell => hkk _ ⟨cell, rfl⟩⟩) ?_
    rintro ρ ⟨cell, rfl⟩
    refine seq_join (fun ρ => ∃ cell : Int, ρ = [.fz (scrD ns), .fz (.int a), .fz (.int b), .ow none .l (.list (r.map .int)), .fz (.int (a + done.length)), .fz (.int cell), s6, s7]) (fun kk hkk => ifd (fun _ => ⟨mulSmall' (by decide), hkk _ ⟨_, rfl⟩⟩) fun _ => hkk _ ⟨_, rfl⟩) ?_
    rintro ρ ⟨cell, rfl⟩
    refine ⟨⟨by decide, by decide, by decide⟩, ifd (fun h => ?_) fun h => ?_⟩
    · refine ⟨⟨by decide, by decide⟩, trivial, ?_⟩
      refine loop_ind (fun done' rest' ρ => ∃ (r' : List Int) (c : Int) (s6 : Slot), ρ = [.fz (scrD ns), .fz (.int a), .fz (.int b), .ow none .l (.list (r'.map .int)), .fz (.int (a + done.length)), .fz (.int c), s6, s7] ∧ (∀ x ∈ r', 0 ≤ x ∧ x < 1000) ∧ r'.length ≤ r.length + done'.length ∧ (r' ≠ [] ∨ (0 < c ∧ done' = [])))
        ⟨r, cell, s6, rfl, h1, by simp, .inr ⟨by omega, rfl⟩⟩ ?_ ?_
      · rintro ρ ⟨r', c, s6, rfl, g1, g2, g3⟩
        have hl : (rangeD 0 1 (Int.toNat 60)).length = 60 := by rw [rangeD_len]; decide
        refine next _ ⟨r', _, _, _, _, rfl, g1, fun _ => ?_, by simp; omega⟩
        rcases g3 with g3 | ⟨_, g3⟩
        · exact g3
        · rw [g3] at hl; cases hl
      · rintro done' d rest' ρ he' ⟨r', c, s6, rfl, g1, g2, g3⟩ next'
        have hl : done'.length < 60 := (range_at he').2
        refine ifd (fun hc => ?_) fun hc => next' _ ⟨r', c, _, rfl, g1, by simp; omega, .inl ?_⟩
        · refine ⟨trivial, by decide, ⟨by rw [le]; omega, by decide, ?_⟩⟩
          refine next' _ ⟨r' ++ [c % 1000], c / 1000, _, by rw [← ap]; rfl, gd _ _ g1, by simp; omega, .inl (by simp)⟩
        · rcases g3 with g3 | ⟨g3, _⟩
          · exact g3
          · omega
    · refine ⟨mulSmall (by decide), mulSmall (by decide), by decide, ⟨by decide, by decide⟩, trivial, ?_⟩
      refine loop_ind (fun done' rest' ρ => ∃ (r' : List Int) (c : Int) (s6 : Slot), ρ = [.fz (scrD ns), .fz (.int a), .fz (.int b), .ow none .l (.list (r'.map .int)), .fz (.int (a + done.length)), .fz (.int cell), s6, .fz (.int c)] ∧ (∀ x ∈ r', 0 ≤ x ∧ x < 1000) ∧ r'.length = r.length + done'.length)
        ⟨r, _, s6, rfl, h1, by simp⟩ ?_ ?_
      · rintro ρ ⟨r', c, s6, rfl, g1, g2⟩
        have hl : (rangeD 0 1 (Int.toNat 12)).length = 12 := by rw [rangeD_len]; decide
        refine next _ ⟨r', _, _, _, _, rfl, g1, fun _ z => ?_, by rw [hl] at g2; simp; omega⟩
        rw [z, hl] at g2
        simp at g2
      · rintro done' d rest' ρ he' ⟨r', c, s6, rfl, g1, g2⟩ next'
        obtain ⟨rfl, hl⟩ := range_at he'
        have hl : done'.length < 12 := hl
        refine ⟨mulSmall (by decide), mulSmall' (by decide), by decide, trivial, ⟨by decide, by decide⟩, by decide, by rw [le]; omega, ?_⟩
        exact next' _ ⟨r' ++ [_ % 1000], _, _, by rw [← ap]; rfl, gd _ _ g1, by simp; omega⟩
theorem p_same (n : Nat) (tr : TSp) (h : ∀ m, n = m + 1 → ∀ ds k, u__law_same m ds k → tr ds k) : ∀ ds k as, u__law_same n ds k → ds.length = m__law_same.length → as.length = nio m__law_same → d__law_same tr { nx := finR m__law_same as k (.fz .none), rt := finR m__law_same as k } (entryR m__law_same ds as ++ List.replicate (3 - m__law_same.length) .un) := by
  rintro ds k as ⟨d, rfl, hs, hk⟩ - ha
  obtain rfl := as0 ha
  have eqt : ∀ z : Str, k (.fz (.bool (decide (z = z)))) [] := fun z => by rw [decide_eq_true rfl]; exact hk
  have loop : ∀ (es : List D) (c : List D → D), (∀ (i : Nat) x, es[i]? = some x → ∀ kk : Res → Prop, kk (.fz x) → gIx (c es) (.int i) kk) → (∀ (m : Nat), n = m + 1 → ∀ x ∈ es, Sm m x) → n ≠ 0 → es.length ≤ sizeLine →
      dSeq (dFor (dItR1 (dCons (dC (.int es.length)) dNil)) (gN 2) (b__law_same_1 tr)) (dRet (dC (.bool true))) { nx := finR m__law_same [] k (.fz .none), rt := finR m__law_same [] k } [.rd (c es), .rd (c es), .un] := by
    intro es c hc hm hn hl
    have sl : sizeLine = 16777216 := rfl
    obtain ⟨m, rfl⟩ : ∃ m, n = m + 1 := ⟨n - 1, by omega⟩
    refine ⟨⟨by omega, by omega⟩, trivial, ?_⟩
    refine loop_ind (fun done rest ρ => ∃ s2, ρ = [.rd (c es), .rd (c es), s2]) ⟨_, rfl⟩ ?_ ?_
    · rintro ρ ⟨s2, rfl⟩
      exact hk
    · rintro done d rest ρ he ⟨s2, rfl⟩ next
      obtain ⟨rfl, hd⟩ := range_at he
      have hd : done.length < es.length := by omega
      have hx := List.getElem?_eq_getElem hd
      have e0 : (0 : Int) + (done.length : Int) = (done.length : Int) := by omega
      rw [e0]
      refine hc done.length _ hx _ ?_
      refine hc done.length _ hx _ ?_
      refine ⟨okio0 rfl, h m rfl _ _ ⟨_, rfl, hm m rfl _ (List.getElem_mem hd), ?_⟩⟩
      exact next _ ⟨_, rfl⟩
  cases d with
  | none => exact hk
  | bool b => cases b <;> exact hk
  | int i =>
    conv => whnf
    rw [isT_str_int]
    conv => whnf
    rw [isT_int_int]
    conv => whnf
    rw [isT_int_int]
    conv => whnf
    rw [isT_bool_int]
    have hs : i.natAbs.log2 < 1920 := by cases n <;> exact hs
    exact ⟨hs, hs, eqt _⟩
  | str z =>
    conv => whnf
    rw [isT_str_str]
    conv => whnf
    rw [isT_str_str]
    have hs : (reprText z).length ≤ sizeLine := by cases n <;> exact hs
    exact ⟨hs, hs, eqt _⟩
  | list es =>
    cases n with
    | zero => exact hs.elim
    | succ n =>
      obtain ⟨hl, hs⟩ := hs
      conv => whnf
      rw [isT_str_list]
      conv => whnf
      rw [isT_int_list]
      conv => whnf
      rw [isT_tuple_list]
      conv => whnf
      rw [isT_list_list]
      conv => whnf
      rw [isT_list_list]
      refine ⟨sh_int, sh_int, ?_⟩
      have e : (!PyData.eqv (.int (es.length : Int)) (.int es.length)) = false := by rw [eqv_self nb_int]; rfl
      show if (!PyData.eqv (.int (es.length : Int)) (.int es.length)) = true then _ else _
      rw [e]
      exact loop es .list (fun i x hx kk hk => ⟨x, atI_of (by omega) (by simpa using hx), hk⟩) (fun m hm => by cases hm; exact hs) (by omega) hl
  | tuple es =>
    cases n with
    | zero => exact hs.elim
    | succ n =>
      obtain ⟨hl, hs⟩ := hs
      conv => whnf
      rw [isT_str_tuple]
      conv => whnf
      rw [isT_int_tuple]
      conv => whnf
      rw [isT_tuple_tuple]
      conv => whnf
      rw [isT_tuple_tuple]
      conv => whnf
      rw [isT_list_tuple]
      refine ⟨sh_int, sh_int, ?_⟩
      have e : (!PyData.eqv (.int (es.length : Int)) (.int es.length)) = false := by rw [eqv_self nb_int]; rfl
      show if (!PyData.eqv (.int (es.length : Int)) (.int es.length)) = true then _ else _
      rw [e]
      exact loop es .tuple (fun i x hx kk hk => ⟨x, atI_of (by omega) (by simpa using hx), hk⟩) (fun m hm => by cases hm; exact hs) (by omega) hl
  | dict ps => cases n <;> exact hs.elim
theorem rec__law_same {P : Program} {w : World} {K : PySem.W.Frag} {mg : Str → Option Value} {base : Heap} (h0 : Cal P w K mg base 0 "_law_same" m__law_same (fun _ _ => False))
    (step : ∀ {k : Nat} {tr t : TSp}, Cal P w K mg base k "_law_same" m__law_same tr → (∀ ds k as, t ds k → ds.length = m__law_same.length → as.length = nio m__law_same → d__law_same tr { nx := finR m__law_same as k (.fz .none), rt := finR m__law_same as k } (entryR m__law_same ds as ++ List.replicate (3 - m__law_same.length) .un)) → Cal P w K mg base (k + 1) "_law_same" m__law_same t) :
    Cal P w K mg base 12 "_law_same" m__law_same t__law_same := by
  have key : ∀ n : Nat, Cal P w K mg base (n + 1) "_law_same" m__law_same (u__law_same n) := fun n => by
    induction n with
    | zero => exact step h0 (p_same 0 _ fun m hm => by omega)
    | succ n ih => exact step ih (p_same (n + 1) _ fun m hm => by cases hm; exact fun _ _ z => z)
  exact (key 9).weak (by decide)
theorem erase_perm {α : Type} : ∀ {l : List α} {i : Nat} (h : i < l.length), (l[i] :: l.eraseIdx i).Perm l
  | x :: l, 0, _ => by simp
  | x :: l, i + 1, h => by
    have ih := erase_perm (l := l) (i := i) (by simpa using h)
    rw [List.getElem_cons_succ, List.eraseIdx_cons_succ]
    exact (List.Perm.swap _ _ _).trans (ih.cons x)
theorem p__law_mixed : Ok__law_mixed := by
  rintro ds k as ⟨b, row, rfl, hb, hl, hk⟩ - ha
  obtain ⟨a, rfl⟩ := as1 ha
  have q : sizeLine = 16777216 := rfl
  refine seq_to [.ow (some a) .l b, .rd (.list row), .ow none .l (.list row), .ow none .l (.list []), .un] (fun kk hkk => ⟨(by show 0 ≤ sizeLine; decide), hkk⟩) ?_
  refine seq_join (fun ρ => ∃ f b' s4, List.Perm f row ∧ BoxD b' ∧ ρ = [.ow (some a) .l b', .rd (.list row), .ow none .l (.list []), .ow none .l (.list f), s4]) (fun kk hkk => ?_) ?_
  · refine ⟨⟨by omega, by omega⟩, trivial, ?_⟩
    refine loop_ind (fun done rest ρ => ∃ l f b' s4, (f ++ l).Perm row ∧ l.length = rest.length ∧ BoxD b' ∧ ρ = [.ow (some a) .l b', .rd (.list row), .ow none .l (.list l), .ow none .l (.list f), s4]) ⟨row, [], b, _, by simp, by rw [rangeD_len]; rfl, hb, rfl⟩ ?_ ?_
    · rintro ρ ⟨l, f, b', s4, hp, hl, hb', rfl⟩
      have e : l = [] := List.length_eq_zero_iff.mp hl
      subst e
      rw [List.append_nil] at hp
      exact hkk _ ⟨f, b', s4, hp, hb', rfl⟩
    · rintro done d rest ρ he ⟨l, f, b', s4, hp, hll, hb', rfl⟩ next
      have hlen := hp.length_eq
      rw [List.length_append] at hlen
      simp only [List.length_cons] at hll
      refine ⟨trivial, trivial, okio1 rfl (by show (0 : Nat) ∉ []; simp) trivial, rfl, _, _, rfl, hb', by omega, fun x b'' h1 h2 hb'' => ⟨rfl, ?_⟩⟩
      have hx : x.toNat < l.length := by omega
      refine ⟨l[x.toNat], ⟨by omega, by omega⟩, x.toNat, seqIndex_of h1 (by omega), List.getElem?_eq_getElem hx, by omega, ?_⟩
      refine next _ ⟨l.eraseIdx x.toNat, f ++ [l[x.toNat]], b'', _, ?_, ?_, hb'', rfl⟩
      · refine List.Perm.trans ?_ hp
        rw [List.append_assoc]
        refine List.Perm.append_left f ?_
        rw [List.singleton_append]
        exact erase_perm hx
      · rw [List.length_eraseIdx_of_lt hx]
        omega
  rintro ρ ⟨f, b', s4, hp, hb', rfl⟩
  exact ⟨rfl, rfl, hk f b' hp hb'⟩
theorem perm_map {α β : Type} {f : α → β} {r s : List β} (p : r.Perm s) : ∀ {l : List α}, s = l.map f → ∃ l' : List α, r = l'.map f ∧ l'.Perm l := by
  induction p with
  | nil => intro l e; exact ⟨[], rfl, by rw [List.map_eq_nil_iff.mp e.symm]⟩
  | cons x _ ih =>
    intro l e
    cases l with
    | nil => cases e
    | cons y l =>
      simp only [List.map_cons, List.cons.injEq] at e
      obtain ⟨l', e1, e2⟩ := ih e.2
      exact ⟨y :: l', by rw [List.map_cons, e.1, e1], e2.cons y⟩
  | swap x y m =>
    intro l e
    match l, e with
    | a :: b :: l, e =>
      simp only [List.map_cons, List.cons.injEq] at e
      exact ⟨b :: a :: l, by simp only [List.map_cons, e.1, e.2.1, e.2.2], List.Perm.swap _ _ _⟩
  | trans _ _ h1 h2 =>
    intro l e
    obtain ⟨l1, e1, p1⟩ := h2 e
    obtain ⟨l2, e2, p2⟩ := h1 e1
    exact ⟨l2, e2, p2.trans p1⟩
/-- [.. draws .. for .. in ..]: St: the state by its box -/
theorem comp_box {g : DTG} {te : DTE} {src : List (Nat × D)} {vs : List Nat} {k : List D → List Slot → Prop} {items : List D} (St : D → List Slot) (P : Int → Prop) (hl : items.length ≤ sizeLine) (hs : ∀ b, stl src (St b))
    (step : ∀ d, d ∈ items → ∀ b, BoxD b → ∀ kk : D → List Slot → Prop, (∀ (x : Int) b', P x → BoxD b' → kk (.int x) (St b')) → g d (St b) fun ρ1 => te ρ1 fun r ρ3 => fzR r ρ3 fun v ρ4 => kk v (wipeR ρ4 vs))
    (fin : ∀ (ns : List Int) b', ns.length = items.length → (∀ x ∈ ns, P x) → BoxD b' → k (ns.map .int) (St b')) {b : D} (hb : BoxD b) : dCompL g dYes te src vs k items [] (St b) := by
  refine comp_ind (fun acc done rest ρ => ∃ (ns : List Int) (b' : D), acc = ns.map .int ∧ ns.length = done.length ∧ (∀ x ∈ ns, P x) ∧ BoxD b' ∧ ρ = St b') ⟨[], b, rfl, rfl, fun _ h => absurd h List.not_mem_nil, hb, rfl⟩ ?_ ?_
  · rintro acc ρ ⟨ns, b', rfl, h1, h2, h3, rfl⟩
    exact ⟨hs _, fin ns b' h1 h2 h3⟩
  · rintro acc done d rest ρ he ⟨ns, b', rfl, h1, h2, h3, rfl⟩ next
    refine ⟨hs _, step d (by rw [he]; simp) b' h3 (fun v ρ4 => (ns.map PyData.int).length < sizeLine ∧ dCompL g dYes te src vs k rest (ns.map PyData.int ++ [v]) ρ4) fun x b'' hx hb'' => ⟨?_, next _ _ ⟨ns ++ [x], b'', by simp, by simp [h1], fun y hy => ?_, hb'', rfl⟩⟩⟩
    · rw [List.length_map, h1]
      have := congrArg List.length he
      simp at this
      omega
    · rcases List.mem_append.mp hy with z | z
      · exact h2 y z
      · rw [List.mem_singleton.mp z]; exact hx
/-- a draw -/
theorem sm_int {n : Nat} {i : Int} (h : -(2 ^ 100) < i ∧ i < 2 ^ 100) : Sm n (.int i) := by
  have key : i.natAbs.log2 < 1920 := by
    by_cases h0 : i.natAbs = 0
    · rw [h0]; decide
    · refine (Nat.log2_lt h0).mpr ?_
      have h1 : i.natAbs < 2 ^ 100 := by omega
      exact Nat.lt_of_lt_of_le h1 (Nat.pow_le_pow_right (by decide) (by decide))
  cases n <;> exact key
theorem sm_list {n : Nat} {ds : List D} (hl : ds.length ≤ sizeLine) (h : ∀ d ∈ ds, Sm n d) : Sm (n + 1) (.list ds) := ⟨hl, h⟩
theorem sm_tuple {n : Nat} {ds : List D} (hl : ds.length ≤ sizeLine) (h : ∀ d ∈ ds, Sm n d) : Sm (n + 1) (.tuple ds) := ⟨hl, h⟩
theorem sm_bool {n : Nat} {b : Bool} : Sm n (.bool b) := by cases n <;> trivial
theorem sm_none {n : Nat} : Sm n .none := by cases n <;> trivial
theorem sm_ints {n : Nat} {ns : List Int} (hl : ns.length ≤ 16777216) (h : ∀ x ∈ ns, -(2 ^ 100) < x ∧ x < 2 ^ 100) : Sm (n + 1) (.list (ns.map .int)) := sm_list (by rw [List.length_map]; exact hl) fun d hd => by
  obtain ⟨x, hx, rfl⟩ := List.mem_map.mp hd
  exact sm_int (h x hx)
end TL.cm

-- part Pcm2
/-! Pcm2: draws in comprehensions; the specs as rules. -/
namespace TL.cm
open PySem PySem.Spec L2
variable [Lay]
/-- [.. draws .. for .. in ..]: St: the state by its box -/
theorem comp_dr {β : Type} {g : DTG} {te : DTE} {src : List (Nat × D)} {vs : List Nat} {k : List D → List Slot → Prop} {items : List D} (e : β → D) (St : D → List Slot) (P : β → Prop) (hl : items.length ≤ sizeLine) (hs : ∀ b, stl src (St b))
    (step : ∀ d, d ∈ items → ∀ b, BoxD b → ∀ kk : D → List Slot → Prop, (∀ y b', P y → BoxD b' → kk (e y) (St b')) → g d (St b) fun ρ1 => te ρ1 fun r ρ3 => fzR r ρ3 fun v ρ4 => kk v (wipeR ρ4 vs))
    (fin : ∀ (ys : List β) b', ys.length = items.length → (∀ y ∈ ys, P y) → BoxD b' → k (ys.map e) (St b')) {b : D} (hb : BoxD b) : dCompL g dYes te src vs k items [] (St b) := by
  refine comp_ind (fun acc done rest ρ => ∃ (ys : List β) (b' : D), acc = ys.map e ∧ ys.length = done.length ∧ (∀ y ∈ ys, P y) ∧ BoxD b' ∧ ρ = St b') ⟨[], b, rfl, rfl, fun _ h => absurd h List.not_mem_nil, hb, rfl⟩ ?_ ?_
  · rintro acc ρ ⟨ys, b', rfl, h1, h2, h3, rfl⟩
    exact ⟨hs _, fin ys b' h1 h2 h3⟩
  · rintro acc done d rest ρ he ⟨ys, b', rfl, h1, h2, h3, rfl⟩ next
    refine ⟨hs _, step d (by rw [he]; simp) b' h3 (fun v ρ4 => (ys.map e).length < sizeLine ∧ dCompL g dYes te src vs k rest (ys.map e ++ [v]) ρ4) fun x b'' hx hb'' => ⟨?_, next _ _ ⟨ys ++ [x], b'', by simp, by simp [h1], fun y hy => ?_, hb'', rfl⟩⟩⟩
    · rw [List.length_map, h1]
      have := congrArg List.length he
      simp at this
      omega
    · rcases List.mem_append.mp hy with z | z
      · exact h2 y z
      · rw [List.mem_singleton.mp z]; exact hx
/-- a draw -/
theorem draw_ok {b : D} {n : Int} {k : Res → List D → Prop} (hb : BoxD b) (hn : 0 < n) (h : ∀ (x : Nat) b', (x : Int) < n → BoxD b' → k (.fz (.int (x : Int))) [b']) : t__law_draw [b, .int n] k :=
  ⟨b, n, rfl, hb, hn, fun x b' h1 h2 hb' => by
    obtain ⟨y, rfl⟩ := Int.eq_ofNat_of_zero_le h1
    exact h y b' h2 hb'⟩
theorem pick_ok {b : D} {row : List D} {k : Res → List D → Prop} (hb : BoxD b) (hn : row ≠ []) (h : ∀ x b', x ∈ row → BoxD b' → k (.fz x) [b']) : t__law_pick [b, .list row] k := ⟨b, row, .inl rfl, hb, hn, h⟩
theorem same_ok {d : D} {k : Res → List D → Prop} (hs : Sm 9 d) (h : k (.fz (.bool true)) []) : t__law_same [d, d] k := ⟨d, rfl, hs, h⟩
theorem eqv_ne {d : D} (h : Nb d = true) : (!PyData.eqv d d) = false := by rw [eqv_self h]; rfl
end TL.cm

-- part TL36
/-! TL36: plain words: lengths of lists without repeats, least numbers. -/
namespace TL
theorem nodup_len_le {α : Type} [DecidableEq α] : ∀ {l m : List α}, l.Nodup → (∀ x ∈ l, x ∈ m) → l.length ≤ m.length
  | [], m, _, _ => Nat.zero_le _
  | x :: l, m, nd, h => by
    obtain ⟨h1, h2⟩ := List.nodup_cons.mp nd
    have hx : x ∈ m := h x (by simp)
    have := nodup_len_le (l := l) (m := m.erase x) h2 fun y hy => by
      have : y ≠ x := fun z => h1 (z ▸ hy)
      exact (List.mem_erase_of_ne this).mpr (h y (by simp [hy]))
    rw [List.length_erase_of_mem hx] at this
    have : 0 < m.length := List.length_pos_of_mem hx
    simp only [List.length_cons]
    omega
theorem inj_le {d k : Nat} {g : Nat → Nat} (h : ∀ i, i < d → g i < k) (inj : ∀ i j, i < d → j < d → g i = g j → i = j) : d ≤ k := by
  have nd : ((List.range d).map g).Nodup := by
    rw [List.nodup_iff_pairwise_ne, List.pairwise_map]
    refine List.Pairwise.imp_of_mem (R := (· ≠ ·)) (fun {a b} ha hb hab e => hab (inj a b (List.mem_range.mp ha) (List.mem_range.mp hb) e)) ?_
    exact List.nodup_range
  have := nodup_len_le (m := List.range k) nd fun x hx => by
    obtain ⟨i, hi, rfl⟩ := List.mem_map.mp hx
    exact List.mem_range.mpr (h i (List.mem_range.mp hi))
  simpa using this
theorem least {P : Nat → Prop} (h : ∃ d, P d) : ∃ d, P d ∧ ∀ d', d' < d → ¬ P d' := by
  obtain ⟨d, hd⟩ := h
  induction d using Nat.strongRecOn with
  | _ d ih =>
    by_cases hx : ∃ d', d' < d ∧ P d'
    · obtain ⟨d', h1, h2⟩ := hx
      exact ih d' h1 h2
    · exact ⟨d, hd, fun d' h1 h2 => hx ⟨d', h1, h2⟩⟩
theorem perm_len {α : Type} [DecidableEq α] {l m : List α} (h1 : l.Nodup) (h2 : m.Nodup) (h : ∀ x, x ∈ l ↔ x ∈ m) : l.length = m.length :=
  Nat.le_antisymm (nodup_len_le h1 fun x => (h x).mp) (nodup_len_le h2 fun x => (h x).mpr)
/-- a sorted list by its elements -/
theorem sort_is {α : Type} {le : α → α → Bool} {l m : List α} (tr : ∀ a b c, le a b = true → le b c = true → le a c = true) (tot : ∀ a b, (le a b || le b a) = true) (anti : ∀ a b, le a b = true → le b a = true → a = b) (p : m.Perm l) (h : m.Pairwise fun a b => le a b = true) : l.mergeSort le = m :=
  List.Perm.eq_of_pairwise (fun a b _ _ => anti a b) (List.pairwise_mergeSort tr tot l) h ((List.mergeSort_perm l le).trans p.symm)
open PySem PySem.Spec L2
variable [Lay]
theorem intsOf_nats (l : List Nat) : intsOf (l.map fun n : Nat => PyData.int (n : Int)) = some (l.map fun n : Nat => (n : Int)) := by
  rw [← intsOf_map, List.map_map]; rfl
theorem mem_nats {i : Nat} {l : List Nat} : ((i : Int) ∈ l.map fun n : Nat => (n : Int)) ↔ i ∈ l := by
  rw [List.mem_map]
  exact ⟨fun ⟨j, h1, h2⟩ => (Int.ofNat_inj.mp h2) ▸ h1, fun h => ⟨i, h, rfl⟩⟩
theorem boolsOf_fn {α : Type} (l : List α) (f : α → Bool) : boolsOf (l.map fun x => PyData.bool (f x)) = some (l.map f) := by
  rw [← boolsOf_map, List.map_map]; rfl
theorem intsOf_fn {α : Type} (l : List α) (f : α → Int) : intsOf (l.map fun x => PyData.int (f x)) = some (l.map f) := by
  rw [← intsOf_map, List.map_map]; rfl
theorem count_nats (l : List Nat) (x : Nat) : (l.map fun n : Nat => (n : Int)).count (x : Int) = l.count x := by
  induction l with
  | nil => rfl
  | cons a l ih =>
    rw [List.map_cons, List.count_cons, List.count_cons, ih]
    congr 1
    by_cases h : a = x
    · subst h; simp
    · have : ¬ ((a : Int) = (x : Int)) := fun z => h (Int.ofNat_inj.mp z)
      simp [h, this]
theorem at_range {n i : Nat} {c : Nat → D} (h : i < n) : atI ((List.range n).map c) (i : Int) = some (c i) := at_map (List.getElem?_range h)
theorem eqv_ints {a b : List Int} : PyData.eqv (.list (a.map .int)) (.list (b.map .int)) = decide (a = b) := by
  by_cases h : a = b
  · subst h; rw [eqv_self nb_ints]; simp
  · rw [decide_eq_false h, Bool.eq_false_iff]
    exact fun z => h (map_int_inj (PyData.list.inj ((eqv_iff nb_ints nb_ints).mp z)))
theorem eqv_nil {α : Type} [DecidableEq α] {c : α → D} {l : List α} : PyData.eqv (.list (l.map c)) (.list []) = decide (l = []) := by
  cases l with
  | nil => simp [PyData.eqv, PyData.eqvAll]
  | cons a l => simp [PyData.eqv, PyData.eqvAll]
theorem sh_nats {l : List Nat} : Sh (.list (l.map fun n : Nat => PyData.int (n : Int))) := (shn_list (n := 0) fun d hd => by
  obtain ⟨x, _, rfl⟩ := List.mem_map.mp hd
  exact shn_int).sh
theorem sh_nil : Sh (.list []) := (shn_list (n := 0) fun d hd => absurd hd List.not_mem_nil).sh
theorem ne_F {d : D} {A B : Prop} (h : Nb d = true) (hb : B) : if (!PyData.eqv d d) = true then A else B := by
  rw [eqv_self h]
  exact hb
theorem nb_nats {l : List Nat} : Nb (.list (l.map fun n : Nat => PyData.int (n : Int))) = true := nb_list fun d hd => by
  obtain ⟨x, _, rfl⟩ := List.mem_map.mp hd
  exact nb_int
theorem keepS_idem (s : Option Slot) : keepS (some (keepS s)) = keepS s := by
  match s with
  | none => rfl
  | some .un => rfl
  | some (.fz d) => rfl
  | some (.rd d) => rfl
  | some (.ow _ _ _) => rfl
end TL

-- part Pk50a
/-! Pk50a: plain words for law k50. -/
namespace TL
namespace k50
theorem cl_symm (rs : List (List Nat)) (i j : Nat) : cl rs i j = cl rs j i := by
  unfold cl
  congr 1
  funext r
  exact Bool.and_comm _ _
theorem gr_symm (rs : List (List Nat)) (i j : Nat) : gr rs i j = gr rs j i := by
  unfold gr
  rw [cl_symm rs i j]
  congr 1
  simp [eq_comm]
theorem mem_all2 {n : Nat} {p : Nat × Nat} : p ∈ all2 n ↔ p.1 < p.2 ∧ p.2 < n := by
  obtain ⟨a, b⟩ := p
  unfold all2
  simp only [List.mem_flatMap, List.mem_range, List.mem_map, List.mem_range'_1, Prod.mk.injEq]
  constructor
  · rintro ⟨i, hi, j, hj, rfl, rfl⟩
    omega
  · rintro ⟨h1, h2⟩
    exact ⟨a, by omega, b, by omega, rfl, rfl⟩
theorem nodup_all2 (n : Nat) : (all2 n).Nodup := by
  unfold all2
  rw [List.nodup_iff_pairwise_ne, List.pairwise_flatMap]
  refine ⟨fun i _ => ?_, ?_⟩
  · rw [List.pairwise_map]
    refine List.Pairwise.imp (R := (· ≠ ·)) (fun {a b} hab e => hab (Prod.mk.inj e).2) ?_
    exact List.nodup_range' ..
  · refine List.Pairwise.imp (R := (· ≠ ·)) (fun {a b} hab x hx y hy e => hab ?_) List.nodup_range
    obtain ⟨j, _, rfl⟩ := List.mem_map.mp hx
    obtain ⟨j', _, rfl⟩ := List.mem_map.mp hy
    exact (Prod.mk.inj e).1
theorem mem_prs {rs : List (List Nat)} {n : Nat} {p : Nat × Nat} : p ∈ prs rs n ↔ p.1 < p.2 ∧ p.2 < n ∧ gr rs p.1 p.2 = true := by
  unfold prs gr
  rw [List.mem_filter, mem_all2]
  constructor
  · rintro ⟨⟨h1, h2⟩, h3⟩
    exact ⟨h1, h2, by rw [h3]; simp; omega⟩
  · rintro ⟨h1, h2, h3⟩
    simp only [Bool.and_eq_true] at h3
    exact ⟨⟨h1, h2⟩, h3.2⟩
theorem mm_prs {rs : List (List Nat)} {n a b : Nat} (ha : a < n) (hb : b < n) : decide ((min a b, max a b) ∈ prs rs n) = gr rs a b := by
  rw [Bool.eq_iff_iff, decide_eq_true_eq, mem_prs]
  by_cases h : a = b
  · subst h
    simp [gr]
  · rcases Nat.lt_or_gt_of_ne h with h | h
    · rw [Nat.min_eq_left (by omega), Nat.max_eq_right (by omega)]
      exact ⟨fun z => z.2.2, fun z => ⟨h, hb, z⟩⟩
    · rw [Nat.min_eq_right (by omega), Nat.max_eq_left (by omega)]
      constructor
      · intro z; rw [gr_symm]; exact z.2.2
      · intro z; exact ⟨h, ha, by rw [gr_symm]; exact z⟩
theorem deg_eq {rs : List (List Nat)} {n e : Nat} (he : e < n) : ((prs rs n).filter fun p => decide (e ∈ [p.1, p.2])).length = deg n rs e := by
  have hm : ∀ p ∈ (prs rs n).filter (fun p => decide (e ∈ [p.1, p.2])), p.1 < p.2 ∧ p.2 < n ∧ gr rs p.1 p.2 = true ∧ (e = p.1 ∨ e = p.2) := fun p hp => by
    obtain ⟨h1, h2⟩ := List.mem_filter.mp hp
    obtain ⟨h3, h4, h5⟩ := mem_prs.mp h1
    simp only [List.mem_cons, List.not_mem_nil, or_false, decide_eq_true_eq] at h2
    exact ⟨h3, h4, h5, h2⟩
  have e1 : ((prs rs n).filter fun p => decide (e ∈ [p.1, p.2])).length = (((prs rs n).filter fun p => decide (e ∈ [p.1, p.2])).map fun p => p.1 + p.2 - e).length := by simp
  rw [e1]
  unfold deg
  refine perm_len ?_ (List.nodup_range.filter _) fun x => ?_
  · rw [List.nodup_iff_pairwise_ne, List.pairwise_map]
    refine List.Pairwise.imp_of_mem (R := (· ≠ ·)) (fun {a b} ha hb hab z => hab ?_) ((nodup_all2 n).filter _ |>.filter _)
    obtain ⟨a1, a2, a3, a4⟩ := hm a ha
    obtain ⟨b1, b2, b3, b4⟩ := hm b hb
    refine Prod.ext ?_ ?_ <;> omega
  · rw [List.mem_map, List.mem_filter]
    constructor
    · rintro ⟨p, hp, rfl⟩
      obtain ⟨h1, h2, h3, h4⟩ := hm p hp
      rcases h4 with rfl | rfl
      · rw [show p.1 + p.2 - p.1 = p.2 by omega]
        exact ⟨List.mem_range.mpr h2, h3⟩
      · rw [show p.1 + p.2 - p.2 = p.1 by omega]
        exact ⟨List.mem_range.mpr (by omega), by rw [gr_symm]; exact h3⟩
    · rintro ⟨h1, h2⟩
      have h1 := List.mem_range.mp h1
      have ne : e ≠ x := fun z => by subst z; simp [gr] at h2
      rcases Nat.lt_or_gt_of_ne ne with h | h
      · exact ⟨(e, x), List.mem_filter.mpr ⟨mem_prs.mpr ⟨h, h1, h2⟩, by simp⟩, by show e + x - e = x; omega⟩
      · exact ⟨(x, e), List.mem_filter.mpr ⟨mem_prs.mpr ⟨h, he, by rw [gr_symm]; exact h2⟩, by simp⟩, by show x + e - e = x; omega⟩
theorem snoc_split {α : Type} {l done rest : List α} {x e : α} (h : l ++ [x] = done ++ e :: rest) : (done = l ∧ e = x ∧ rest = []) ∨ ∃ rest', l = done ++ e :: rest' := by
  rcases List.eq_nil_or_concat rest with hr | ⟨r', y, hr⟩
  · subst hr
    have := List.append_inj' h rfl
    exact .inl ⟨this.1.symm, (List.cons.inj this.2).1.symm, rfl⟩
  · rw [List.concat_eq_append] at hr
    subst hr
    have h' : l ++ [x] = (done ++ e :: r') ++ [y] := by rw [h]; simp
    exact .inr ⟨r', (List.append_inj' h' rfl).1⟩
theorem ff_ex (rs : List (List Nat)) (order : List Nat) (nd : order.Nodup) : ∃ f, FF rs order f := by
  have key : ∀ m : List Nat, m.reverse.Nodup → ∃ f, FF rs m.reverse f := fun m => by
    induction m with
    | nil => exact fun _ => ⟨fun _ => 0, fun done e rest h => by simp at h⟩
    | cons x m ih =>
      intro nd
      rw [List.reverse_cons] at nd ⊢
      have nd' := List.nodup_append.mp nd
      obtain ⟨f, hf⟩ := ih nd'.1
      have hx : x ∉ m.reverse := fun z => nd'.2.2 x z x (by simp) rfl
      have hB : ∃ d, ∀ y ∈ m.reverse, gr rs x y = true → f y ≠ d := by
        have : ∀ l : List Nat, ∃ B, ∀ y ∈ l, f y < B := fun l => by
          induction l with
          | nil => exact ⟨0, fun y hy => by cases hy⟩
          | cons a l ih =>
            obtain ⟨B, hB⟩ := ih
            exact ⟨B + f a + 1, fun y hy => by
              rcases List.mem_cons.mp hy with rfl | hy
              · omega
              · have := hB y hy; omega⟩
        obtain ⟨B, hB⟩ := this m.reverse
        exact ⟨B, fun y hy _ => by have := hB y hy; omega⟩
      obtain ⟨d, hd, hl⟩ := least hB
      have fe : ∀ y, y ∈ m.reverse → (if y = x then d else f y) = f y := fun y hy => if_neg (fun z : y = x => hx (z ▸ hy))
      refine ⟨fun y => if y = x then d else f y, fun done e rest h => ?_⟩
      rcases snoc_split h with ⟨rfl, rfl, rfl⟩ | ⟨rest', h'⟩
      · simp only [if_true]
        refine ⟨fun y hy g => by rw [fe y hy]; exact hd y hy g, fun d' hd' => ?_⟩
        have := hl d' hd'
        simp only [ne_eq, Classical.not_forall, Classical.not_not] at this
        obtain ⟨y, hy, g, hfy⟩ := this
        exact ⟨y, hy, g, by rw [fe y hy]; simpa using hfy⟩
      · have he : e ∈ m.reverse := by rw [h']; simp
        have hdn : ∀ y ∈ done, y ∈ m.reverse := fun y hy => by rw [h']; simp [hy]
        obtain ⟨h1, h2⟩ := hf done e rest' h'
        simp only []
        rw [fe e he]
        refine ⟨fun y hy g => by rw [fe y (hdn y hy)]; exact h1 y hy g, fun d' hd' => ?_⟩
        obtain ⟨y, hy, g, z⟩ := h2 d' hd'
        exact ⟨y, hy, g, by rw [fe y (hdn y hy)]; exact z⟩
  have := key order.reverse (by rw [List.reverse_reverse]; exact nd)
  rwa [List.reverse_reverse] at this
theorem ff_lt {rs : List (List Nat)} {order : List Nat} {f : Nat → Nat} (h : FF rs order f) {done rest : List Nat} {e : Nat} (he : order = done ++ e :: rest) : f e ≤ done.length := by
  obtain ⟨_, h2⟩ := h done e rest he
  have : ∀ d, ∃ k, d < f e → ∃ x, done[k]? = some x ∧ f x = d := fun d => by
    by_cases hd : d < f e
    · obtain ⟨x, hx, _, hfx⟩ := h2 d hd
      obtain ⟨k, hk⟩ := List.mem_iff_getElem?.mp hx
      exact ⟨k, fun _ => ⟨x, hk, hfx⟩⟩
    · exact ⟨0, fun z => absurd z hd⟩
  refine inj_le (g := fun d => (this d).choose) (fun i hi => ?_) fun i j hi hj e => ?_
  · obtain ⟨x, hx, _⟩ := (this i).choose_spec hi
    exact (List.getElem?_eq_some_iff.mp hx).1
  · obtain ⟨x, hx, h1⟩ := (this i).choose_spec hi
    obtain ⟨y, hy, h2⟩ := (this j).choose_spec hj
    have e : (this i).choose = (this j).choose := e
    rw [e, hy] at hx
    cases hx
    omega
end k50
end TL

-- part Pk50b
/-! Pk50b: the defs of law k50 keep their promises. -/
namespace TL.k50
open PySem PySem.Spec L2 TL.cm
variable [Lay]
theorem sl : sizeLine = 16777216 := rfl
theorem all2_len {n : Nat} (h : n ≤ 6) : (all2 n).length ≤ 36 := by
  have : ∀ m, m ≤ 6 → (all2 m).length ≤ 36 := by decide
  exact this n h
theorem p_clashes : Ok_clashes := by
  rintro ds k as ⟨n, rs, rfl, hn, hR, hk⟩ - ha
  obtain rfl := as0 ha
  have q := sl
  refine seq_join (fun ρ => ρ = [.fz (.int n), .rd (RL rs), .ow none .l (.list ((all2 n).map pr)), .un, .un, .un]) (fun kk hkk => ?_) ?_
  · refine ⟨⟨by omega, by omega⟩, fun p hp => absurd hp List.not_mem_nil, ?_⟩
    show dCompL2 _ _ _ _ _ _ _ _ _ _ (rangeD 0 1 ((n : Int)).toNat) _ _
    rw [Int.toNat_natCast, range0_map]
    refine comp2_of (fun _ => true) (fun i => List.range' (i + 1) (n - (i + 1))) (fun _ j => .int (j : Int)) (fun _ _ => true) (fun i j => pr (i, j)) (fun i => [.fz (.int n), .rd (RL rs), .un, .fz (.int i), .un, .un]) (fun _ => []) ?_ trivial (fun _ _ => trivial) (fun _ _ => rfl) (fun x hx kin kn hy _ => ?_) (fun x hx _ y hy kk kn h _ => ?_) (hkk _ ?_)
    · rw [filter_true]
      have := all2_len hn
      unfold all2 at this
      rw [List.length_flatMap] at this ⊢
      simp at this ⊢
      omega
    · have hx' := List.mem_range.mp hx
      refine ⟨⟨trivial, trivial, trivial⟩, ⟨⟨by omega, by omega⟩, by omega, by omega⟩, fun p hp => absurd hp List.not_mem_nil, ?_⟩
      have := hy rfl
      rw [← range1_map (x + 1)] at this
      rw [show (n - (x + 1) : Nat) = ((n : Int) - ((x : Int) + 1)).toNat by omega, show (((x + 1 : Nat)) : Int) = (x : Int) + 1 by omega] at this
      exact this
    · exact ⟨(by show 2 ≤ sizeLine; omega), h rfl⟩
    · show [Slot.fz (.int (n : Int)), .rd (RL rs), .ow none .l (.list _), _, _, _] = _
      rw [filter_true]
      have e : (List.range n).flatMap (fun x => ((List.range' (x + 1) (n - (x + 1))).filter fun _ => true).map fun j => pr (x, j)) = (all2 n).map pr := by
        unfold all2
        rw [List.map_flatMap]
        congr 1
        funext x
        rw [filter_true, List.map_map]
        rfl
      rw [e]
      rfl
  rintro ρ rfl
  refine ⟨(by simp), ?_⟩
  refine comp_map (fun p => cl rs p.1 p.2) pr (by have := all2_len hn; omega) ⟨rfl, trivial⟩ (fun p hp kk kn hy hno => ?_) hk
  show gT 2 _ (.tuple [.int (p.1 : Int), .int (p.2 : Int)]) _ _
  refine ⟨rfl, fun q hq => absurd hq List.not_mem_nil, ?_⟩
  refine comp_mapA (fun r => .bool (decide (p.1 ∈ r) && decide (p.2 ∈ r))) (by have := hR.len; omega) trivial (fun r hr kk hk => ?_) ?_
  · refine ⟨_, intsOf_nats r, ?_⟩
    refine ifb (fun h => ⟨_, intsOf_nats r, ?_⟩) fun h => ?_
    · have h1 : p.1 ∈ r := mem_nats.mp (of_decide_eq_true h)
      have e : (decide (p.1 ∈ r) && decide (p.2 ∈ r)) = decide ((p.2 : Int) ∈ r.map fun n : Nat => (n : Int)) := by simp only [h1, mem_nats, decide_true, Bool.true_and]
      rw [e] at hk
      exact hk
    · have h1 : ¬ p.1 ∈ r := fun z => of_decide_eq_false h (mem_nats.mpr z)
      have e : (decide (p.1 ∈ r) && decide (p.2 ∈ r)) = false := by simp only [h1, decide_false, Bool.false_and]
      rw [e] at hk
      exact hk
  · refine ⟨_, boolsOf_fn rs fun r => (decide (p.1 ∈ r) && decide (p.2 ∈ r)), ?_⟩
    have e : ((rs.map fun r => (decide (p.1 ∈ r) && decide (p.2 ∈ r))).any fun b => b) = cl rs p.1 p.2 := by rw [List.any_map]; rfl
    refine ifb (b := ((rs.map fun r => (decide (p.1 ∈ r) && decide (p.2 ∈ r))).any fun b => b)) (fun h => ?_) fun h => ?_
    · exact ⟨(by show 2 ≤ sizeLine; omega), hy (e ▸ h)⟩
    · exact hno (e ▸ h)
theorem prs_len {rs : List (List Nat)} {n : Nat} (h : n ≤ 6) : (prs rs n).length ≤ 36 := Nat.le_trans (List.length_filter_le _ _) (all2_len h)
theorem p_is_plan : Ok_is_plan := by
  rintro ds k as ⟨n, rs, plan, rfl, hn, hR, hp, hk⟩ - ha
  obtain rfl := as0 ha
  have q := sl
  refine seq_join (fun ρ => ρ = [.fz (.int n), .rd (RL rs), .rd (IL plan), .un, .un, .un] ∧ plan.length = n ∧ plan.all (fun d => decide (0 ≤ d)) = true) (fun kk hkk => ?_) ?_
  · have hrt : right n rs plan = false → finR m_is_plan [] k (.fz (.bool false)) [] := fun e => by rw [e] at hk; exact hk
    refine ⟨sh_int, sh_int, ifnb (fun h => ?_) fun h => ?_⟩
    · rw [eqv_int, decide_eq_false_iff_not, List.length_map] at h
      exact hrt (by unfold right; rw [decide_eq_false (fun z => h (by rw [z]))]; rfl)
    · rw [eqv_int, decide_eq_true_eq, List.length_map] at h
      have hl : plan.length = n := by omega
      refine ⟨fun q hq => absurd hq List.not_mem_nil, ?_⟩
      refine comp_mapA (fun d => .bool (decide (d ≥ 0))) (by omega) trivial (fun d hd kk hk => hk) ?_
      refine ⟨_, boolsOf_fn plan fun d => decide (d ≥ 0), ?_⟩
      refine ifnb (b := ((plan.map fun d => decide (d ≥ 0)).all fun b => b)) (fun h => ?_) fun h => ?_
      · rw [List.all_map] at h
        exact hrt (by unfold right; rw [show plan.all (fun d => decide (0 ≤ d)) = false from h, Bool.and_false, Bool.false_and])
      · rw [List.all_map] at h
        exact hkk _ ⟨rfl, hl, h⟩
  rintro ρ ⟨rfl, hl, hall⟩
  refine ⟨okio0 rfl, n, rs, rfl, hn, hR, ?_⟩
  refine ⟨fun q hq => absurd hq List.not_mem_nil, ?_⟩
  refine comp_mapA (fun p => .bool (decide (plan[p.1]? ≠ plan[p.2]?))) (by have := prs_len (rs := rs) hn; omega) trivial (fun p hp kk hk => ?_) ?_
  · obtain ⟨h1, h2, _⟩ := mem_prs.mp hp
    have e1 : plan[p.1]? = some (plan[p.1]'(by omega)) := List.getElem?_eq_getElem (by omega)
    have e2 : plan[p.2]? = some (plan[p.2]'(by omega)) := List.getElem?_eq_getElem (by omega)
    generalize plan[p.1]'(by omega) = x at e1
    generalize plan[p.2]'(by omega) = y at e2
    refine ⟨rfl, _, at_map e1, _, at_map e2, sh_int, sh_int, ?_⟩
    rw [e1, e2] at hk
    have e : decide (some x ≠ some y) = !PyData.eqv (.int x) (.int y) := by rw [eqv_int]; by_cases h : x = y <;> simp [h]
    rw [e] at hk
    exact hk
  · refine ⟨_, boolsOf_fn _ fun p : Nat × Nat => decide (plan[p.1]? ≠ plan[p.2]?), ?_⟩
    have e : right n rs plan = (((prs rs n).map fun p : Nat × Nat => decide (plan[p.1]? ≠ plan[p.2]?)).all fun b => b) := by
      unfold right
      rw [decide_eq_true hl, hall, List.all_map]
      rfl
    rw [e] at hk
    exact hk
end TL.k50

-- part Pk50c
/-! Pk50c: the judge, watchers, the order by most, free exams. -/
namespace TL.k50
open PySem PySem.Spec L2 TL.cm
variable [Lay]
theorem p__law_right : Ok__law_right := by
  rintro ds k as ⟨n, rs, M, plan, rfl, hn, hR, hM, hp, hk⟩ - ha
  obtain rfl := as0 ha
  have q := sl
  have hrt : right n rs plan = false → finR m__law_right [] k (.fz (.bool false)) [] := fun e => by rw [e] at hk; exact hk
  refine seq_join (fun ρ => ∃ s5, ρ = [.fz (.int n), .rd (ML n M), .rd (IL plan), .un, .un, s5] ∧ plan.length = n ∧ plan.all (fun d => decide (0 ≤ d)) = true) (fun kk hkk => ?_) ?_
  · refine ⟨sh_int, sh_int, ifnb (fun h => ?_) fun h => ?_⟩
    · rw [eqv_int, decide_eq_false_iff_not, List.length_map] at h
      exact hrt (by unfold right; rw [decide_eq_false (fun z => h (by rw [z]))]; rfl)
    · rw [eqv_int, decide_eq_true_eq, List.length_map] at h
      have hl : plan.length = n := by omega
      refine ⟨fun q hq => absurd hq List.not_mem_nil, ?_⟩
      refine comp_map (fun d => decide (d < 0)) (fun d => .int d) (by omega) trivial (fun d hd kk kn hy hno => ifd (fun h => hy (decide_eq_true h)) fun h => hno (decide_eq_false h)) ?_
      refine ⟨(by show 0 ≤ sizeLine; omega), sh_ints, sh_ints (ns := []), ?_⟩
      show if (!PyData.eqv (.list ((plan.filter fun d => decide (d < 0)).map .int)) (.list (([] : List Int).map .int))) = true then _ else _
      rw [eqv_ints]
      refine ifnb (fun h => ?_) fun h => ?_
      · refine hrt ?_
        rw [decide_eq_false_iff_not, List.filter_eq_nil_iff] at h
        have : plan.all (fun d => decide (0 ≤ d)) = false := by
          rw [Bool.eq_false_iff]
          intro z
          refine h fun d hd => ?_
          have := List.all_eq_true.mp z d hd
          simp at this ⊢
          exact this
        unfold right
        rw [this, Bool.and_false, Bool.false_and]
      · rw [decide_eq_true_eq, List.filter_eq_nil_iff] at h
        refine hkk _ ⟨_, rfl, hl, List.all_eq_true.mpr fun d hd => ?_⟩
        have := h d hd
        simp at this ⊢
        exact this
  rintro ρ ⟨s5, rfl, hl, hall⟩
  have bad : ∀ i j : Nat, j < i → i < n → plan[i]? = plan[j]? → 0 < M i j → right n rs plan = false := fun i j hji hi e hp => by
    have g := (hM.pos i j hi (by omega)).mp hp
    unfold right
    rw [Bool.and_eq_false_iff]
    refine .inr (Bool.eq_false_iff.mpr fun z => ?_)
    have := List.all_eq_true.mp z (j, i) (mem_prs.mpr ⟨hji, hi, by rw [gr_symm]; exact g⟩)
    exact of_decide_eq_true this e.symm
  refine seq_join (fun ρ => ∀ i j : Nat, j < i → i < n → plan[i]? = plan[j]? → ¬ 0 < M i j) (fun kk hkk => ?_) ?_
  · refine ⟨⟨by omega, by omega⟩, trivial, ?_⟩
    refine loop_rg (fun one ρ => ∃ s3 s4, ρ = [.fz (.int n), .rd (ML n M), .rd (IL plan), s3, s4, s5] ∧ ∀ i j : Nat, j < i → i < one → plan[i]? = plan[j]? → ¬ 0 < M i j) ⟨_, _, rfl, fun i j _ h => by omega⟩ ?_ ?_
    · rintro ρ ⟨s3, s4, rfl, h⟩
      exact hkk _ h
    · rintro one ρ kk h1 ⟨s3, s4, rfl, h⟩ next
      refine ⟨⟨by omega, by omega⟩, trivial, ?_⟩
      refine loop_rg (fun oth ρ => ∃ s4, ρ = [.fz (.int n), .rd (ML n M), .rd (IL plan), .fz (.int one), s4, s5] ∧ ∀ j : Nat, j < oth → plan[one]? = plan[j]? → ¬ 0 < M one j) ⟨_, rfl, fun j h => by omega⟩ ?_ ?_
      · rintro ρ ⟨s4, rfl, h'⟩
        refine next _ ⟨_, _, rfl, fun i j hji hi e => ?_⟩
        by_cases hio : i = one
        · subst hio; exact h' j hji e
        · exact h i j hji (by omega) e
      · rintro oth ρ kk h2 ⟨s4, rfl, h'⟩ next'
        have e1 : plan[one]? = some (plan[one]'(by omega)) := List.getElem?_eq_getElem (by omega)
        have e2 : plan[oth]? = some (plan[oth]'(by omega)) := List.getElem?_eq_getElem (by omega)
        generalize plan[one]'(by omega) = x at e1
        generalize plan[oth]'(by omega) = y at e2
        refine ⟨_, at_map e1, _, at_map e2, sh_int, sh_int, ifb (fun hx => ?_) fun hx => ?_⟩
        · rw [eqv_int, decide_eq_true_eq] at hx
          refine ⟨_, at_range h1, _, at_range (by omega), ifd (fun hp => ?_) fun hp => ?_⟩
          · exact hrt (bad one oth h2 h1 (by rw [e1, e2, hx]) hp)
          · refine next' _ ⟨_, rfl, fun j hj e => ?_⟩
            by_cases hjo : j = oth
            · subst hjo; exact hp
            · exact h' j (by omega) e
        · rw [eqv_int, decide_eq_false_iff_not] at hx
          refine next' _ ⟨_, rfl, fun j hj e => ?_⟩
          by_cases hjo : j = oth
          · subst hjo; rw [e1, e2] at e; exact absurd (Option.some.inj e) hx
          · exact h' j (by omega) e
  · intro ρ h
    have : right n rs plan = true := by
      unfold right
      rw [decide_eq_true hl, hall]
      simp only [Bool.true_and]
      refine List.all_eq_true.mpr fun p hp => ?_
      obtain ⟨h1, h2, h3⟩ := mem_prs.mp hp
      refine decide_eq_true fun e => h p.2 p.1 h1 h2 e.symm ?_
      exact (hM.pos p.2 p.1 h2 (by omega)).mpr (by rw [gr_symm]; exact h3)
    rw [this] at hk
    exact hk
theorem p_watchers_needed : Ok_watchers_needed := by
  rintro ds k as ⟨row, m, rfl, hl, hm, hm2, hk⟩ - ha
  obtain rfl := as0 ha
  have q := sl
  refine ⟨fun p hp => absurd hp List.not_mem_nil, ?_⟩
  refine comp_mapA (fun x : Nat => .int (row.count x : Int)) (by omega) trivial (fun x hx kk hk => ⟨rfl, _, intsOf_nats row, by rw [count_nats]; exact hk⟩) ?_
  refine ⟨(by show 1 ≤ sizeLine; decide), by simp; omega, row.map (fun x => (row.count x : Int)) ++ [0], ?_, by simp, fun m' h1 h2 => ?_⟩
  · show intsOf ((row.map fun x => PyData.int (row.count x : Int)) ++ [0].map PyData.int) = _
    rw [← intsOf_map, List.map_append, List.map_map]
    rfl
  · have e : m' = m := by
      have a1 : m ∈ row.map (fun x => (row.count x : Int)) ++ [0] := by
        rcases hm with rfl | ⟨x, hx, rfl⟩
        · simp
        · exact List.mem_append_left _ (List.mem_map.mpr ⟨x, hx, rfl⟩)
      have a2 := h2 m a1
      have a3 : m' ≤ m := by
        rcases List.mem_append.mp h1 with z | z
        · obtain ⟨x, hx, rfl⟩ := List.mem_map.mp z
          exact hm2.2 x hx
        · rw [List.mem_singleton.mp z]; exact hm2.1
      omega
    rw [e]
    exact hk
theorem p_by_most : Ok_by_most := by
  rintro ds k as ⟨n, rs, rfl, hn, hR, hk⟩ - ha
  obtain rfl := as0 ha
  have q := sl
  refine seq_to [.fz (.int n), .rd (RL rs), .ow none .l (PrL (prs rs n))] (fun kk hkk => ⟨okio0 rfl, n, rs, rfl, hn, hR, hkk⟩) ?_
  refine ⟨⟨⟨by omega, by omega⟩, ⟨by omega, by omega⟩, by omega⟩, ?_⟩
  let kf : D → D := fun d => match d with
    | .int i => mkey n rs i.toNat
    | _ => .none
  have ek : (rangeD 0 1 ((n : Int)).toNat).map kf = (List.range n).map (mkey n rs) := by
    rw [Int.toNat_natCast, range0_map, List.map_map]
    exact List.map_congr_left fun i _ => by show mkey n rs ((i : Int)).toNat = _; rw [Int.toNat_natCast]
  have el : ∀ d ∈ rangeD 0 1 ((n : Int)).toNat, ∃ i : Nat, i < n ∧ d = .int (i : Int) ∧ kf d = mkey n rs i := fun d hd => by
    rw [Int.toNat_natCast, range0_map] at hd
    obtain ⟨i, hi, rfl⟩ := List.mem_map.mp hd
    exact ⟨i, List.mem_range.mp hi, rfl, by show mkey n rs ((i : Int)).toNat = _; rw [Int.toNat_natCast]⟩
  refine ⟨kf, by rw [rangeD_len]; omega, by rw [ek]; exact PySem.W.AllAlike.of fun a b => rfl, by rw [ek]; exact PySem.W.Sortable.tuples fun b => ⟨_, _, rfl⟩, fun d hd => ?_, fun d hd => ?_, ?_⟩
  · obtain ⟨i, hi, rfl, e⟩ := el d hd
    rw [e]
    exact ⟨by simp [mkey, PyData.depth, PyData.depthAll], rfl⟩
  · obtain ⟨i, hi, rfl, e⟩ := el d hd
    rw [e]
    show dTup _ [.fz (.int (i : Int)), .fz (PrL (prs rs n)), .un] _
    refine ⟨fun q hq => absurd hq List.not_mem_nil, ?_⟩
    refine comp_map (fun p => decide (i ∈ [p.1, p.2])) (fun _ => .int 1) (by have := prs_len (rs := rs) hn; omega) trivial (fun p hp kk kn hy hno => ?_) ?_
    · refine ⟨_, intsOf_nats [p.1, p.2], ifb (fun h => ?_) fun h => ?_⟩
      · exact hy (decide_eq_true (mem_nats.mp (of_decide_eq_true h)))
      · exact hno (decide_eq_false fun z => of_decide_eq_false h (mem_nats.mpr z))
    · refine ⟨(by show 2 ≤ sizeLine; omega), ?_⟩
      rw [List.length_map, deg_eq hi]
      rfl
  · have e : sortedBy kf (rangeD 0 1 ((n : Int)).toNat) = (most n rs).map fun i : Nat => .int (i : Int) := by
      rw [Int.toNat_natCast, range0_map]
      unfold sortedBy most
      rw [List.map_mergeSort (r := PySem.W.dataLe false (mkey n rs)) (s := PySem.W.dataLe false kf) (f := fun i : Nat => PyData.int (i : Int)) (fun a _ b _ => ?_)]
      show PySem.W.dataLe false (mkey n rs) a b = PySem.W.dataLe false kf (.int (a : Int)) (.int (b : Int))
      have : ∀ a : Nat, kf (.int (a : Int)) = mkey n rs a := fun a => by show mkey n rs ((a : Int)).toNat = _; rw [Int.toNat_natCast]
      unfold PySem.W.dataLe PySem.W.sortLe
      simp only [this]
    show k (.tm .l (.list (sortedBy kf (rangeD 0 1 ((n : Int)).toNat)))) []
    rw [e]
    exact hk
theorem shn_pr {k : Nat} (p : Nat × Nat) : ShN (k + 1) (pr p) := shn_tuple fun d hd => by
  simp only [List.mem_cons, List.not_mem_nil, or_false] at hd
  rcases hd with rfl | rfl <;> exact shn_int
theorem sh_prl (ps : List (Nat × Nat)) : Sh (PrL ps) := (shn_list (n := 1) fun d hd => by
  obtain ⟨p, _, rfl⟩ := List.mem_map.mp hd
  exact shn_pr p).sh
theorem nb_pr (p : Nat × Nat) : Nb (pr p) = true := nb_tuple fun d hd => by
  simp only [List.mem_cons, List.not_mem_nil, or_false] at hd
  rcases hd with rfl | rfl <;> exact nb_int
theorem pr_inj (p q : Nat × Nat) (h : pr p = pr q) : p = q := by
  unfold pr at h
  injection h with h
  injection h with h1 h2
  injection h2 with h2 _
  injection h1 with h1
  injection h2 with h2
  exact Prod.ext (Int.ofNat_inj.mp h1) (Int.ofNat_inj.mp h2)
/-- (min(a, b), max(a, b)) in pairs -/
theorem mm_in {rs : List (List Nat)} {n a b : Nat} (ha : a < n) (hb : b < n) : (((prs rs n).map pr).any fun z => PyData.eqv z (.tuple [.int (if (b : Int) < (a : Int) then (b : Int) else (a : Int)), .int (if (b : Int) > (a : Int) then (b : Int) else (a : Int))])) = gr rs a b := by
  have e : PyData.tuple [.int (if (b : Int) < (a : Int) then (b : Int) else (a : Int)), .int (if (b : Int) > (a : Int) then (b : Int) else (a : Int))] = pr (min a b, max a b) := by
    unfold pr
    by_cases h : b < a
    · rw [if_pos (by omega), if_neg (by omega), Nat.min_eq_right (by omega), Nat.max_eq_left (by omega)]
    · rw [if_neg (by omega), Nat.min_eq_left (by omega), Nat.max_eq_right (by omega)]
      by_cases h2 : a < b
      · rw [if_pos (by omega)]
      · rw [if_neg (by omega), show a = b by omega]
  rw [e, ← mm_prs ha hb, List.any_map, Bool.eq_iff_iff, List.any_eq_true, decide_eq_true_eq]
  constructor
  · rintro ⟨p, hp, h⟩
    have h : PyData.eqv (pr p) (pr (min a b, max a b)) = true := h
    rw [eqv_inj nb_pr pr_inj, decide_eq_true_eq] at h
    rw [← h]; exact hp
  · intro h
    exact ⟨_, h, eqv_self (nb_pr _)⟩
theorem sh_mm {a b c d : Int} : Sh (.tuple [.int a, .int b]) := (shn_tuple (n := 0) fun d hd => by
  simp only [List.mem_cons, List.not_mem_nil, or_false] at hd
  rcases hd with rfl | rfl <;> exact shn_int).sh
theorem p_free_exams : Ok_free_exams := by
  rintro ds k as ⟨n, rs, plan, day, rfl, hn, hR, hl, hk⟩ - ha
  obtain rfl := as0 ha
  have q := sl
  let St : Slot → Slot → Slot → Slot → List Slot := fun there found exam far => [.fz (.int n), .rd (RL rs), .rd (NL plan), .fz (.int day), .ow none .l (PrL (prs rs n)), there, found, exam, far]
  let th : List Nat := (List.range n).filter fun f => decide (plan[f]? = some day)
  let cond : Nat → Bool := fun e => decide (plan[e]? ≠ some day) && th.all fun f => !gr rs e f
  refine seq_to (St .un .un .un .un) (fun kk hkk => ⟨okio0 rfl, n, rs, rfl, hn, hR, hkk⟩) ?_
  refine seq_join (fun ρ => ∃ s7 s8, ρ = St (.ow none .l (NL th)) .un s7 s8) (fun kk hkk => ?_) ?_
  · refine ⟨⟨by omega, by omega⟩, fun p hp => absurd hp List.not_mem_nil, ?_⟩
    show dCompL _ _ _ _ _ _ (rangeD 0 1 ((n : Int)).toNat) _ _
    rw [Int.toNat_natCast]
    refine comp_rg (fun e => decide (plan[e]? = some day)) (fun e => .int (e : Int)) (by omega) trivial (fun i hi kk kn hy hno => ?_) (hkk _ ⟨.un, .un, rfl⟩)
    have e1 : plan[i]? = some (plan[i]'(by omega)) := List.getElem?_eq_getElem (by omega)
    generalize plan[i]'(by omega) = x at e1
    refine ⟨_, at_map e1, sh_int, sh_int, ifb (fun h => ?_) fun h => ?_⟩
    · rw [eqv_int, decide_eq_true_eq] at h
      exact hy (decide_eq_true (by rw [e1, Int.ofNat_inj.mp h]))
    · rw [eqv_int, decide_eq_false_iff_not] at h
      exact hno (decide_eq_false fun z => h (by rw [e1] at z; rw [Option.some.inj z]))
  rintro ρ ⟨s7, s8, rfl⟩
  refine seq_to (St (.ow none .l (NL th)) (.ow none .l (NL [])) s7 s8) (fun kk hkk => ⟨(by show 0 ≤ sizeLine; omega), hkk⟩) ?_
  refine seq_join (fun ρ => ∃ s7 s8, ρ = St (.ow none .l (NL th)) (.ow none .l (NL ((List.range n).filter cond))) s7 s8) (fun kk hkk => ?_) ?_
  · refine ⟨⟨by omega, by omega⟩, trivial, ?_⟩
    show dLoop _ _ _ (rangeD 0 1 ((n : Int)).toNat) _
    rw [Int.toNat_natCast]
    refine loop_rg (fun i ρ => ∃ s7 s8, ρ = St (.ow none .l (NL th)) (.ow none .l (NL ((List.range i).filter cond))) s7 s8) ⟨_, _, rfl⟩ (fun ρ h => hkk ρ h) ?_
    rintro i ρ kk hi ⟨s7, s8, rfl⟩ next
    have yes : cond i = true → kk (St (.ow none .l (NL th)) (.ow none .l (.list (((List.range i).filter cond).map (fun m : Nat => PyData.int (m : Int)) ++ [.int (i : Int)]))) (.fz (.int i)) (keepS (some s8))) := fun h => next _ ⟨_, _, by
      rw [List.range_succ, List.filter_append, List.filter_cons_of_pos h]
      unfold NL
      rw [List.map_append]
      rfl⟩
    have no : ∀ s8, cond i = false → kk (St (.ow none .l (NL th)) (.ow none .l (NL ((List.range i).filter cond))) (.fz (.int i)) s8) := fun s8 h => next _ ⟨_, _, by
      rw [List.range_succ, List.filter_append, List.filter_cons_of_neg (by rw [h]; decide), List.filter_nil, List.append_nil]⟩
    have mth : ∀ x, x ∈ th ↔ x < n ∧ plan[x]? = some day := fun x => by
      rw [List.mem_filter, List.mem_range, decide_eq_true_eq]
    refine ⟨_, intsOf_nats th, ifnb (fun h => ?_) fun h => ?_⟩
    · have h1 : plan[i]? ≠ some day := fun z => of_decide_eq_false h (mem_nats.mpr ((mth i).mpr ⟨hi, z⟩))
      refine ⟨?_, ?_⟩
      · exact fun q hq => by rw [List.mem_singleton.mp hq]; show (5 : Nat) ∉ [8]; decide
      · refine comp_mapA (fun f => .bool (gr rs i f)) (by have : th.length ≤ n := by simpa using List.length_filter_le (fun f => decide (plan[f]? = some day)) (List.range n)
                                                          omega) ⟨rfl, trivial⟩ (fun f hf kk hk => ?_) ?_
        · refine ⟨(by show 2 ≤ sizeLine; omega), sh_mm (c := 0) (d := 0), sh_prl _, ?_⟩
          have := mm_in (rs := rs) hi ((mth f).mp hf).1
          rw [← this] at hk
          exact hk
        · refine ⟨_, boolsOf_fn th (gr rs i), ifnb (fun h => ?_) fun h => ?_⟩
          · refine ⟨trivial, (by rw [List.length_map]; have := List.length_filter_le cond (List.range i); simp at this; omega), yes ?_⟩
            show (decide (plan[i]? ≠ some day) && th.all fun f => !gr rs i f) = true
            rw [decide_eq_true h1, Bool.true_and, List.all_eq_true]
            intro f hf
            rw [List.any_map] at h
            have := List.any_eq_false.mp h f hf
            simpa using this
          · refine no _ ?_
            show (decide (plan[i]? ≠ some day) && th.all fun f => !gr rs i f) = false
            rw [decide_eq_true h1, Bool.true_and, List.all_eq_false]
            rw [List.any_map] at h
            obtain ⟨f, hf, hg⟩ := List.any_eq_true.mp h
            exact ⟨f, hf, by simpa using hg⟩
    · refine no _ ?_
      have := (mth i).mp (mem_nats.mp (of_decide_eq_true h))
      show (decide (plan[i]? ≠ some day) && _) = false
      rw [this.2, decide_eq_false (by simp), Bool.false_and]
  rintro ρ ⟨s7, s8, rfl⟩
  exact hk
end TL.k50

-- part Pk50d
/-! Pk50d: plans one by one. -/
namespace TL.k50
open PySem PySem.Spec L2 TL.cm
variable [Lay]
/-- the plan as far as done -/
def po (n : Nat) (f : Nat → Nat) (done : List Nat) : D := .list ((List.range n).map fun e => if e ∈ done then .int (f e : Int) else .none)
theorem po_set {n e : Nat} {f : Nat → Nat} {done : List Nat} (he : e < n) : ((List.range n).map fun x => if x ∈ done then PyData.int (f x : Int) else .none).set e (.int (f e : Int)) = (List.range n).map fun x => if x ∈ done ++ [e] then PyData.int (f x : Int) else .none := by
  refine List.ext_getElem? fun i => ?_
  rw [List.getElem?_set]
  by_cases hi : i < n
  · rw [List.getElem?_map, List.getElem?_map, List.getElem?_range hi]
    by_cases h : e = i
    · subst h
      simp [he]
    · rw [if_neg h]
      simp [show ¬ i = e from fun z => h z.symm]
  · rw [List.getElem?_eq_none (by simp; omega), List.getElem?_eq_none (by simp; omega)]
    split
    · rw [if_neg (by simp; omega)]
    · rfl
theorem p_one_by_one : Ok_one_by_one := by
  rintro ds k as ⟨n, rs, order, f, rfl, hn, hR, hp, hf, hk⟩ - ha
  obtain rfl := as0 ha
  have q := sl
  have hlt : ∀ x ∈ order, x < n := fun x hx => List.mem_range.mp (hp.mem_iff.mp hx)
  let St : D → Slot → Slot → Slot → Slot → List Slot := fun pl s5 s6 s7 s8 => [.fz (.int n), .rd (RL rs), .rd (NL order), .ow none .l (PrL (prs rs n)), .ow none .l pl, s5, s6, s7, s8]
  refine seq_to [.fz (.int n), .rd (RL rs), .rd (NL order), .ow none .l (PrL (prs rs n)), .un, .un, .un, .un, .un] (fun kk hkk => ⟨okio0 rfl, n, rs, rfl, hn, hR, hkk⟩) ?_
  refine seq_join (fun ρ => ∃ s5, ρ = St (po n f []) s5 .un .un .un) (fun kk hkk => ?_) ?_
  · refine ⟨⟨by omega, by omega⟩, fun p hp => absurd hp List.not_mem_nil, ?_⟩
    show dCompL _ _ _ _ _ _ (rangeD 0 1 ((n : Int)).toNat) _ _
    rw [Int.toNat_natCast]
    refine comp_rgA (fun _ => .none) (by omega) trivial (fun i hi kk hk => hk) (hkk _ ⟨.un, ?_⟩)
    unfold po
    simp only [List.not_mem_nil, if_false]
    rfl
  rintro ρ ⟨s5, rfl⟩
  refine seq_join (fun ρ => ∃ s5 s6 s7 s8, ρ = St (po n f order) s5 s6 s7 s8) (fun kk hkk => ?_) ?_
  · refine ⟨trivial, ?_⟩
    refine loop_map (fun done _ ρ => ∃ s5 s6 s7 s8, ρ = St (po n f done) s5 s6 s7 s8) ⟨_, _, _, _, rfl⟩ hkk ?_
    rintro done e rest ρ kk he ⟨s5, s6, s7, s8, rfl⟩ next
    have hen : e < n := hlt e (by rw [he]; simp)
    have hdn : ∀ x ∈ done, x < n := fun x hx => hlt x (by rw [he]; simp [hx])
    obtain ⟨f1, f2⟩ := hf done e rest he
    let gone : List D := ((List.range n).filter (gr rs e)).map fun x => if x ∈ done then PyData.int (f x : Int) else .none
    refine seq_join (fun ρ => ∃ s8, ρ = St (po n f done) (.fz (.int e)) (.ow none .l (.list gone)) s7 s8) (fun kk hkk => ?_) ?_
    · refine ⟨⟨by omega, by omega⟩, fun p hp => absurd hp List.not_mem_nil, ?_⟩
      show dCompL _ _ _ _ _ _ (rangeD 0 1 ((n : Int)).toNat) _ _
      rw [Int.toNat_natCast]
      refine comp_rg (gr rs e) (fun x => if x ∈ done then PyData.int (f x : Int) else .none) (by omega) trivial (fun i hi kk kn hy hno => ?_) (hkk _ ⟨_, rfl⟩)
      refine ⟨(by show 2 ≤ sizeLine; omega), sh_mm (c := 0) (d := 0), sh_prl _, ifb (fun h => ?_) fun h => ?_⟩
      · rw [mm_in hen hi] at h
        exact ⟨_, at_range hi, hy h⟩
      · rw [mm_in hen hi] at h
        exact hno h
    rintro ρ ⟨s8, rfl⟩
    refine seq_to (St (po n f done) (.fz (.int e)) (.ow none .l (.list gone)) (.fz (.int (0 : Nat))) s8) (fun kk hkk => hkk) ?_
    refine seq_to (St (po n f done) (.fz (.int e)) (.ow none .l (.list gone)) (.fz (.int (f e))) s8) (fun kk hkk => ?_) ?_
    · have shg : Sh (.list gone) := (shn_list (n := 0) fun d hd => by
        obtain ⟨x, _, rfl⟩ := List.mem_map.mp hd
        split
        · exact shn_int
        · exact shn_none).sh
      have tst : ∀ d : Nat, d ≤ f e → (gone.any fun z => PyData.eqv z (.int (d : Int))) = decide (d < f e) := fun d hd => by
        rw [Bool.eq_iff_iff, List.any_eq_true, decide_eq_true_eq]
        constructor
        · rintro ⟨z, hz, h⟩
          obtain ⟨x, hx, rfl⟩ := List.mem_map.mp hz
          split at h
          · rename_i hxd
            rw [eqv_int, decide_eq_true_eq] at h
            have := f1 x hxd (List.mem_filter.mp hx).2
            have := Int.ofNat_inj.mp h
            omega
          · simp [PyData.eqv] at h
        · intro h
          obtain ⟨x, hx, g, e1⟩ := f2 d h
          refine ⟨.int (f x : Int), List.mem_map.mpr ⟨x, List.mem_filter.mpr ⟨List.mem_range.mpr (hdn x hx), g⟩, by simp [hx]⟩, ?_⟩
          rw [eqv_int, e1]; simp
      refine while_ind (fun m ρ => ∃ d : Nat, d ≤ f e ∧ m = f e - d ∧ ρ = St (po n f done) (.fz (.int e)) (.ow none .l (.list gone)) (.fz (.int (d : Int))) s8) ⟨_, 0, by omega, rfl, rfl⟩ ?_
      rintro m ρ kk2 ⟨d, hd, rfl, rfl⟩ next2
      refine ⟨sh_int, shg, ?_⟩
      show if (gone.any fun z => PyData.eqv z (.int (d : Int))) = true then _ else _
      rw [tst d hd]
      refine ifd (fun h => ?_) fun h => ?_
      · refine ⟨trivial, ?_⟩
        show kk2 (St (po n f done) (.fz (.int e)) (.ow none .l (.list gone)) (.fz (.int ((d : Int) + 1))) s8)
        exact next2 _ (f e - (d + 1)) (by omega) ⟨d + 1, h, rfl, rfl⟩
      · have : d = f e := by omega
        subst this
        exact hkk
    · refine ⟨trivial, e, ixN_of (by omega) (by simp; omega), ?_⟩
      have := next (St (po n f (done ++ [e])) (.fz (.int e)) (.ow none .l (.list gone)) (.fz (.int (f e))) s8) ⟨_, _, _, _, rfl⟩
      unfold po at this
      rw [← po_set hen] at this
      exact this
  rintro ρ ⟨s5, s6, s7, s8, rfl⟩
  have e : po n f order = NL ((List.range n).map f) := by
    unfold po NL
    rw [List.map_map]
    congr 1
    refine List.map_congr_left fun x hx => ?_
    rw [if_pos (hp.mem_iff.mpr hx)]
    rfl
  rw [← e] at hk
  exact hk
theorem filter_split {α : Type} {p : α → Bool} : ∀ {l done rest : List α} {e : α}, l.filter p = done ++ e :: rest → ∃ a b, l = a ++ e :: b ∧ a.filter p = done
  | [], done, rest, e, h => by simp at h
  | x :: l, done, rest, e, h => by
    by_cases hx : p x = true
    · rw [List.filter_cons_of_pos hx] at h
      cases done with
      | nil =>
        rw [List.nil_append] at h
        injection h with h1 h2
        subst h1
        exact ⟨[], l, rfl, rfl⟩
      | cons y done =>
        rw [List.cons_append] at h
        injection h with h1 h2
        subst h1
        obtain ⟨a, b, e1, e2⟩ := filter_split h2
        exact ⟨x :: a, b, by rw [e1]; rfl, by rw [List.filter_cons_of_pos hx, e2]⟩
    · rw [List.filter_cons_of_neg hx] at h
      obtain ⟨a, b, e1, e2⟩ := filter_split h
      exact ⟨x :: a, b, by rw [e1]; rfl, by rw [List.filter_cons_of_neg hx, e2]⟩
/-- the plan on the way: those at s have their day -/
def pz (n : Nat) (f : Nat → Nat) (s : Nat → Bool) : D := .list ((List.range n).map fun e => .int (if s e = true then (f e : Int) else 0))
theorem pz_set {n e : Nat} {f : Nat → Nat} {s : Nat → Bool} (he : e < n) : ((List.range n).map fun x => PyData.int (if s x = true then (f x : Int) else 0)).set e (.int (f e : Int)) = (List.range n).map fun x => PyData.int (if (s x || decide (x = e)) = true then (f x : Int) else 0) := by
  refine List.ext_getElem? fun i => ?_
  rw [List.getElem?_set]
  by_cases hi : i < n
  · rw [List.getElem?_map, List.getElem?_map, List.getElem?_range hi]
    by_cases h : e = i
    · subst h
      simp [he]
    · rw [if_neg h]
      simp [show ¬ i = e from fun z => h z.symm]
  · rw [List.getElem?_eq_none (by simp; omega), List.getElem?_eq_none (by simp; omega)]
    split
    · rw [if_neg (by simp; omega)]
    · rfl
theorem p__law_one_by_one : Ok__law_one_by_one := by
  rintro ds k as ⟨n, rs, M, order, f, rfl, hn, hR, hM, hp, hf, hk⟩ - ha
  obtain rfl := as0 ha
  have q := sl
  have hlt : ∀ x ∈ order, x < n := fun x hx => List.mem_range.mp (hp.mem_iff.mp hx)
  have hlen : order.length = n := by rw [hp.length_eq, List.length_range]
  let St : Slot → Slot → Slot → Slot → Slot → Slot → List Slot := fun pl lf s5 s6 s7 s8 => [.fz (.int n), .rd (ML n M), .rd (NL order), pl, lf, s5, s6, s7, s8]
  refine seq_join (fun ρ => ∃ s7, ρ = St (.ow none .l (pz n f fun e => decide (f e < 0))) .un .un .un s7 .un) (fun kk hkk => ?_) ?_
  · refine ⟨fun p hp => absurd hp List.not_mem_nil, ?_⟩
    refine comp_mapA (fun _ => .int 0) (by omega) trivial (fun x hx kk hk => hk) (hkk _ ⟨.un, ?_⟩)
    have e : order.map (fun _ => PyData.int 0) = (List.range n).map fun e => PyData.int (if decide (f e < 0) = true then (f e : Int) else 0) := by
      simp only [Nat.not_lt_zero, decide_false, Bool.false_eq_true, if_false, List.map_const', List.length_range, hlen]
    show [Slot.fz (.int (n : Int)), .rd (ML n M), .rd (NL order), .ow none .l (.list (order.map fun _ => PyData.int 0)), _, _, _, _, _] = _
    rw [e]
    rfl
  rintro ρ ⟨s7, rfl⟩
  let left : Nat → List Nat := fun d => order.filter fun e => decide (d ≤ f e)
  refine seq_join (fun ρ => ρ = St (.ow none .l (pz n f fun e => decide (f e < 0))) (.ow none .l (NL (left 0))) .un .un s7 .un) (fun kk hkk => ?_) ?_
  · refine hkk _ ?_
    have e : left 0 = order := List.filter_eq_self.mpr fun x _ => by simp
    rw [e]
    rfl
  rintro ρ rfl
  refine seq_join (fun ρ => ∃ s5 s6 s7 s8, ρ = St (.ow none .l (pz n f fun e => decide (f e < n))) (.ow none .l (NL (left n))) s5 s6 s7 s8) (fun kk hkk => ?_) ?_
  · refine ⟨⟨by omega, by omega⟩, trivial, ?_⟩
    show dLoop _ _ _ (rangeD 0 1 ((n : Int)).toNat) _
    rw [Int.toNat_natCast]
    refine loop_rg (fun d ρ => ∃ s5 s6 s7 s8, ρ = St (.ow none .l (pz n f fun e => decide (f e < d))) (.ow none .l (NL (left d))) s5 s6 s7 s8) ⟨_, _, _, _, rfl⟩ hkk ?_
    rintro d ρ kk hd ⟨s5, s6, s7, s8, rfl⟩ next
    refine seq_to (St (.ow none .l (pz n f fun e => decide (f e < d))) (.ow none .l (NL (left d))) (.fz (.int d)) (.ow none .l (NL [])) s7 s8) (fun kk hkk => ⟨(by show 0 ≤ sizeLine; omega), hkk⟩) ?_
    let th : List Nat → List Nat := fun done => done.filter fun e => decide (f e = d)
    let pl : List Nat → Nat → Bool := fun done e => decide (f e < d) || decide (e ∈ th done)
    refine seq_join (fun ρ => ∃ s7 s8, ρ = St (.ow none .l (pz n f (pl (left d)))) (.fz (NL (left d))) (.fz (.int d)) (.ow none .l (NL (th (left d)))) s7 s8) (fun kk hkk => ?_) ?_
    · refine ⟨trivial, ?_⟩
      refine loop_map (fun done _ ρ => ∃ s7 s8, ρ = St (.ow none .l (pz n f (pl done))) (.fz (NL (left d))) (.fz (.int d)) (.ow none .l (NL (th done))) s7 s8) ⟨s7, s8, ?_⟩ hkk ?_
      · have e : pl [] = fun e => decide (f e < d) := by
          funext e
          show (decide (f e < d) || decide (e ∈ ([] : List Nat).filter _)) = _
          simp
        rw [e]
        rfl
      · rintro done e rest ρ kk he ⟨s7, s8, rfl⟩ next
        obtain ⟨a, b, e1, e2⟩ := filter_split he
        have hen : e < n := hlt e (by rw [e1]; simp)
        have hde : d ≤ f e := by
          have : e ∈ left d := by rw [he]; simp
          simpa using (List.mem_filter.mp this).2
        obtain ⟨f1, f2⟩ := hf a e b e1
        have thn : ∀ x ∈ th done, x < n := fun x hx => by
          have : x ∈ left d := by rw [he]; simp [(List.mem_filter.mp hx).1]
          exact hlt x (List.mem_filter.mp this).1
        have key : (th done).filter (fun x => decide (0 < M e x)) = [] ↔ f e = d := by
          rw [List.filter_eq_nil_iff]
          constructor
          · intro h
            refine Classical.byContradiction fun z => ?_
            obtain ⟨x, hx, g, hfx⟩ := f2 d (by omega)
            have hxd : x ∈ th done := List.mem_filter.mpr ⟨by rw [← e2]; exact List.mem_filter.mpr ⟨hx, by simp [hfx]⟩, by simp [hfx]⟩
            exact h x hxd (decide_eq_true ((hM.pos e x hen (thn x hxd)).mpr g))
          · intro h x hx z
            have g := (hM.pos e x hen (thn x hx)).mp (of_decide_eq_true z)
            obtain ⟨h1, h2⟩ := List.mem_filter.mp hx
            refine f1 x ?_ g ?_
            · rw [← e2] at h1; exact (List.mem_filter.mp h1).1
            · rw [h]; simpa using h2
        have tl : (th done).length ≤ n := by
          have h1 : (th done).length ≤ done.length := List.length_filter_le ..
          have h2 : done.length ≤ (left d).length := by rw [he]; simp
          have h3 : (left d).length ≤ order.length := List.length_filter_le ..
          omega
        have th1 : th (done ++ [e]) = if f e = d then th done ++ [e] else th done := by
          show (done ++ [e]).filter _ = _
          rw [List.filter_append]
          by_cases h : f e = d
          · rw [if_pos h, List.filter_cons_of_pos (by simp [h]), List.filter_nil]
          · rw [if_neg h, List.filter_cons_of_neg (by simp [h]), List.filter_nil, List.append_nil]
        refine ⟨fun q hq => by rw [List.mem_singleton.mp hq]; show (6 : Nat) ∉ [8]; decide, ?_⟩
        refine comp_map (fun x => decide (0 < M e x)) (fun x => .int (x : Int)) (by omega) ⟨rfl, trivial⟩ (fun x hx kk kn hy hno => ?_) ?_
        · exact ⟨_, at_range hen, _, at_range (thn x hx), ifd (fun h => hy (decide_eq_true h)) fun h => hno (decide_eq_false h)⟩
        · refine ⟨(by show 0 ≤ sizeLine; omega), sh_nats, sh_nil, ?_⟩
          show if PyData.eqv (.list (((th done).filter fun x => decide (0 < M e x)).map fun x : Nat => PyData.int (x : Int))) (.list []) = true then _ else _
          rw [eqv_nil]
          refine ifd (fun h => ?_) fun h => ?_
          · have hfe := key.mp h
            refine ⟨trivial, (by rw [List.length_map]; omega), trivial, e, ixN_of (by omega) (by simp; omega), ?_⟩
            rw [if_pos hfe] at th1
            have := next (St (.ow none .l (pz n f (pl (done ++ [e])))) (.fz (NL (left d))) (.fz (.int d)) (.ow none .l (NL (th (done ++ [e])))) (.fz (.int e)) (keepS (some s8))) ⟨_, _, rfl⟩
            have epl : pl (done ++ [e]) = fun x => pl done x || decide (x = e) := by
              funext x
              show (decide (f x < d) || decide (x ∈ th (done ++ [e]))) = ((decide (f x < d) || decide (x ∈ th done)) || decide (x = e))
              rw [th1]
              simp [Bool.or_assoc]
            rw [epl, th1] at this
            unfold pz NL at this
            rw [← pz_set hen, hfe, List.map_append] at this
            exact this
          · have hfe : f e ≠ d := fun z => h (key.mpr z)
            rw [if_neg hfe] at th1
            have := next (St (.ow none .l (pz n f (pl (done ++ [e])))) (.fz (NL (left d))) (.fz (.int d)) (.ow none .l (NL (th (done ++ [e])))) (.fz (.int e)) (keepS (some s8))) ⟨_, _, rfl⟩
            have epl : pl (done ++ [e]) = pl done := by
              funext x
              show (decide (f x < d) || decide (x ∈ th (done ++ [e]))) = _
              rw [th1]
            rw [epl, th1] at this
            exact this
    rintro ρ ⟨s7, s8, rfl⟩
    refine ⟨fun q hq => absurd hq List.not_mem_nil, ?_⟩
    refine comp_map (fun x => !decide (x ∈ th (left d))) (fun x => .int (x : Int)) (by have : (left d).length ≤ order.length := List.length_filter_le _ _; omega) trivial (fun x hx kk kn hy hno => ?_) ?_
    · refine ⟨_, intsOf_nats (th (left d)), ifnb (fun h => ?_) fun h => ?_⟩
      · exact hy (by rw [decide_eq_false fun z => of_decide_eq_false h (mem_nats.mpr z)]; rfl)
      · exact hno (by rw [decide_eq_true (mem_nats.mp (of_decide_eq_true h))]; rfl)
    · have el : (left d).filter (fun x => !decide (x ∈ th (left d))) = left (d + 1) := by
        show (order.filter _).filter _ = order.filter _
        rw [List.filter_filter]
        refine List.filter_congr fun x hx => ?_
        rw [Bool.eq_iff_iff]
        have : x ∈ th (left d) ↔ d ≤ f x ∧ f x = d := by
          show x ∈ (order.filter _).filter _ ↔ _
          simp [List.mem_filter, hx, and_comm]
        simp only [Bool.and_eq_true, Bool.not_eq_true', decide_eq_false_iff_not, decide_eq_true_eq, this]
        omega
      have ep : pz n f (pl (left d)) = pz n f fun e => decide (f e < d + 1) := by
        unfold pz
        congr 1
        refine List.map_congr_left fun x hx => ?_
        have hxo := hp.mem_iff.mpr hx
        have : x ∈ th (left d) ↔ d ≤ f x ∧ f x = d := by
          show x ∈ (order.filter _).filter _ ↔ _
          simp [List.mem_filter, hxo, and_comm]
        have e : pl (left d) x = decide (f x < d + 1) := by
          show (decide (f x < d) || decide (x ∈ th (left d))) = _
          rw [Bool.eq_iff_iff]
          simp only [Bool.or_eq_true, decide_eq_true_eq, this]
          omega
        rw [e]
      have := next (St (.ow none .l (pz n f fun e => decide (f e < d + 1))) (.ow none .l (NL (left (d + 1)))) (.fz (.int d)) (.ow none .l (NL (th (left d)))) (keepS (some s7)) s8) ⟨_, _, _, _, rfl⟩
      rw [← el, ← ep] at this
      exact this
  rintro ρ ⟨s5, s6, s7, s8, rfl⟩
  have e : (pz n f fun e => decide (f e < n)) = NL ((List.range n).map f) := by
    unfold pz NL
    rw [List.map_map]
    congr 1
    refine List.map_congr_left fun x hx => ?_
    obtain ⟨a, b, e1⟩ := List.append_of_mem (hp.mem_iff.mpr hx)
    have := ff_lt hf e1
    have hl := congrArg List.length e1
    simp at hl
    rw [if_pos (by simp; omega)]
    rfl
  rw [← e] at hk
  exact hk
end TL.k50

-- part Pk50e
/-! Pk50e: what is drawn. -/
namespace TL.k50
open PySem PySem.Spec L2 TL.cm
variable [Lay]
/-- rows on the way -/
structure Rw (n m : Nat) (rs : List (List Nat)) : Prop where
  len : rs.length ≤ m
  row : ∀ r ∈ rs, r.length ≤ 6 ∧ ∀ x ∈ r, x < n
theorem Rw.app {n m m' : Nat} {rs ss : List (List Nat)} (h : Rw n m rs) (h' : Rw n m' ss) : Rw n (m + m') (rs ++ ss) :=
  ⟨by rw [List.length_append]; have := h.len; have := h'.len; omega, fun r hr => (List.mem_append.mp hr).elim (h.row r) (h'.row r)⟩
theorem p__law_pupils : Ok__law_pupils := by
  rintro ds k as ⟨b, n, rfl, hb, hn, hk⟩ - ha
  obtain ⟨a, rfl⟩ := as1 ha
  have q := sl
  let St : D → Slot → Slot → Slot → Slot → Slot → Slot → Slot → Slot → List Slot := fun b s2 s3 s4 s5 s6 s7 s8 s9 => [.ow (some a) .l b, .fz (.int n), s2, s3, s4, s5, s6, s7, s8, s9]
  refine seq_join (fun ρ => ∃ b' kind hub, BoxD b' ∧ (0 ≤ kind ∧ kind < 5) ∧ ρ = St b' (.fz (.int kind)) (.fz (.int hub)) .un .un .un .un .un .un) (fun kk hkk => ?_) ?_
  · refine ⟨okio1 rfl (by show (0 : Nat) ∉ []; simp) trivial, rfl, _, _, rfl, hb, by decide, fun x b1 h1 h2 hb1 => ?_⟩
    refine ⟨rfl, okio1 rfl (by show (0 : Nat) ∉ []; simp) trivial, rfl, _, _, rfl, hb1, by decide, fun y b2 h3 h4 hb2 => ?_⟩
    exact ⟨rfl, (by show 2 ≤ sizeLine; omega), rfl, hkk _ ⟨b2, x, y, hb2, ⟨h1, h2⟩, rfl⟩⟩
  rintro ρ ⟨b1, kind, hub, hb1, hkind, rfl⟩
  refine seq_to (St b1 (.fz (.int kind)) (.fz (.int hub)) (.ow none .l (.list [])) .un .un .un .un .un) (fun kk hkk => ⟨(by show 0 ≤ sizeLine; omega), hkk⟩) ?_
  refine seq_join (fun ρ => ∃ b' rs s5 s6 s7 s8, BoxD b' ∧ Rw n 100 rs ∧ ρ = St b' (.fz (.int kind)) (.fz (.int hub)) (.ow none .l (.list (rs.map NL))) s5 s6 s7 s8 .un) (fun kk hkk => ?_) ?_
  · refine ifd (fun hpos => ?_) fun hpos => hkk _ ⟨b1, [], .un, .un, .un, .un, hb1, ⟨by simp, fun r hr => absurd hr List.not_mem_nil⟩, rfl⟩
    have hn0 : 0 < n := by omega
    refine seq_join (fun ρ => ∃ b' fr, BoxD b' ∧ fr.Perm (List.range n) ∧ ρ = St b' (.fz (.int kind)) (.fz (.int hub)) (.ow none .l (.list [])) (.ow none .l (NL fr)) .un .un .un .un) (fun kk hkk => ?_) ?_
    · refine ⟨⟨⟨by omega, by omega⟩, ⟨by omega, by omega⟩, by omega⟩, okio1 rfl (by show (0 : Nat) ∉ []; simp) trivial, rfl, _, _, rfl, hb1, by rw [rangeD_len]; omega, fun r b' hr hb' => ?_⟩
      rw [show ((n : Int) - 0).toNat = n by omega, range0_map] at hr
      obtain ⟨fr, rfl, hfr⟩ := perm_map hr rfl
      exact ⟨rfl, hkk _ ⟨b', fr, hb', hfr, rfl⟩⟩
    rintro ρ ⟨b2, fr, hb2, hfr, rfl⟩
    have hfl : fr.length = n := by rw [hfr.length_eq, List.length_range]
    have hfm : ∀ x ∈ fr, x < n := fun x hx => List.mem_range.mp (hfr.mem_iff.mp hx)
    refine seq_join (fun ρ => ∃ b' size, BoxD b' ∧ (1 ≤ size ∧ size ≤ n) ∧ ρ = St b' (.fz (.int kind)) (.fz (.int hub)) (.ow none .l (.list [])) (.ow none .l (NL fr)) (.fz (.int (size : Nat))) .un .un .un) (fun kk hkk => ?_) ?_
    · refine ⟨okio1 rfl (by show (0 : Nat) ∉ []; simp) trivial, rfl, _, _, rfl, hb2, by decide, fun x b' h1 h2 hb' => ⟨rfl, hkk _ ⟨b', (if (n : Int) - x > 1 then (n : Int) - x else 1).toNat, hb', ⟨by split <;> omega, by split <;> omega⟩, ?_⟩⟩⟩
      rw [Int.toNat_of_nonneg (by split <;> omega)]
      rfl
    rintro ρ ⟨b3, size, hb3, hsz, rfl⟩
    have at' : ∀ k : Nat, k < n → atI (fr.map fun m : Nat => PyData.int (m : Int)) (k : Int) = some (.int (fr.getD k 0 : Nat)) := fun k hk => at_map (by rw [List.getD_eq_getElem?_getD, List.getElem?_eq_getElem (by omega)]; rfl)
    have gm : ∀ k : Nat, k < n → fr.getD k 0 < n := fun k hk => hfm _ (by rw [List.getD_eq_getElem?_getD, List.getElem?_eq_getElem (by omega)]; exact List.getElem_mem _)
    have two : ∀ (g1 g2 : Nat → Nat) (m : Nat), m ≤ 6 → (∀ k, k < m → g1 k < n ∧ g2 k < n) → Rw n 6 ((List.range m).map fun k => [fr.getD (g1 k) 0, fr.getD (g2 k) 0]) := fun g1 g2 m hm h => ⟨by simp; omega, fun r hr => by
      obtain ⟨k, hk, rfl⟩ := List.mem_map.mp hr
      have := h k (List.mem_range.mp hk)
      refine ⟨by simp, fun x hx => ?_⟩
      simp only [List.mem_cons, List.not_mem_nil, or_false] at hx
      rcases hx with rfl | rfl
      · exact gm _ this.1
      · exact gm _ this.2⟩
    refine seq_join (fun ρ => ∃ rs s7, Rw n 20 rs ∧ ρ = St b3 (.fz (.int kind)) (.fz (.int hub)) (.ow none .l (.list (rs.map NL))) (.ow none .l (NL fr)) (.fz (.int (size : Nat))) s7 .un .un) (fun kk hkk => ?_) ?_
    · have no : kk (St b3 (.fz (.int kind)) (.fz (.int hub)) (.ow none .l (.list [])) (.ow none .l (NL fr)) (.fz (.int (size : Nat))) .un .un .un) := hkk _ ⟨[], .un, ⟨by simp, fun r hr => absurd hr List.not_mem_nil⟩, rfl⟩
      refine ⟨sh_int, sh_int, ifb (fun h => ifd (fun hs2 => ?_) fun _ => no) fun _ => no⟩
      let r1 : List (List Nat) := (List.range size).map fun k => [fr.getD k 0, fr.getD ((k + 1) % size) 0]
      have hr1 : Rw n 6 r1 := two (fun k => k) (fun k => (k + 1) % size) size (by omega) fun k hk => ⟨by omega, by have := Nat.mod_lt (k + 1) (show 0 < size by omega); omega⟩
      refine seq_join (fun ρ => ρ = St b3 (.fz (.int kind)) (.fz (.int hub)) (.ow none .l (.list (r1.map NL))) (.ow none .l (NL fr)) (.fz (.int (size : Nat))) .un .un .un) (fun kk hkk => ?_) ?_
      · refine ⟨⟨by omega, by omega⟩, fun p hp => absurd hp List.not_mem_nil, ?_⟩
        show dCompL _ _ _ _ _ _ (rangeD 0 1 ((size : Int)).toNat) _ _
        rw [Int.toNat_natCast]
        refine comp_rgA (fun k => NL [fr.getD k 0, fr.getD ((k + 1) % size) 0]) (by omega) trivial (fun k hk kk h => ?_) (hkk _ ?_)
        · refine ⟨_, at' k (by omega), (by omega), (.int (fr.getD ((k + 1) % size) 0 : Nat)), ?_, ?_⟩
          · have := at' ((k + 1) % size) (by have := Nat.mod_lt (k + 1) (show 0 < size by omega); omega)
            rw [show (((k + 1) % size : Nat) : Int) = ((k : Int) + 1) % (size : Int) from rfl] at this
            exact this
          · exact ⟨(by show 2 ≤ sizeLine; omega), h⟩
        · show [Slot.ow (some a) .l b3, _, _, _, .ow none .l (.list _), _, _, _, _, _] = _
          have e : (List.range size).map (fun k => NL [fr.getD k 0, fr.getD ((k + 1) % size) 0]) = r1.map NL := by rw [List.map_map]; rfl
          rw [e]
          rfl
      rintro ρ rfl
      have no2 : kk (St b3 (.fz (.int kind)) (.fz (.int hub)) (.ow none .l (.list (r1.map NL))) (.ow none .l (NL fr)) (.fz (.int (size : Nat))) .un .un .un) := hkk _ ⟨r1, .un, ⟨by have := hr1.len; omega, hr1.row⟩, rfl⟩
      refine ⟨sh_int, sh_int, ifb (fun h => ifd (fun hs2 => ?_) fun _ => no2) fun _ => no2⟩
      let r2 : List (List Nat) := (List.range size).map fun k => [fr.getD k 0, fr.getD size 0]
      have hr2 : Rw n 6 r2 := two (fun k => k) (fun _ => size) size (by omega) fun k hk => ⟨by omega, by omega⟩
      refine ⟨⟨by omega, by omega⟩, fun p hp => absurd hp List.not_mem_nil, ?_⟩
      show dCompL _ _ _ _ _ _ (rangeD 0 1 ((size : Int)).toNat) _ _
      rw [Int.toNat_natCast]
      refine comp_rgA (fun k => NL [fr.getD k 0, fr.getD size 0]) (by omega) trivial (fun k hk kk h => ⟨_, at' k (by omega), _, at' size (by omega), (by show 2 ≤ sizeLine; omega), h⟩) ?_
      refine ⟨by have := hr1.len; simp; omega, ?_⟩
      have := hkk (St b3 (.fz (.int kind)) (.fz (.int hub)) (.ow none .l (.list ((r1 ++ r2).map NL))) (.ow none .l (NL fr)) (.fz (.int (size : Nat))) (keepS (some .un)) .un .un) ⟨r1 ++ r2, _, ⟨by have := (hr1.app hr2).len; omega, (hr1.app hr2).row⟩, rfl⟩
      have e : (r1 ++ r2).map NL = r1.map NL ++ (List.range size).map fun k => NL [fr.getD k 0, fr.getD size 0] := by
        have e2 : (List.range size).map (fun k => NL [fr.getD k 0, fr.getD size 0]) = r2.map NL := by rw [List.map_map]; rfl
        rw [List.map_append, e2]
      rw [e] at this
      exact this
    rintro ρ ⟨r1, s7, hr1, rfl⟩
    have no3 : ∀ b', BoxD b' → kk (St b' (.fz (.int kind)) (.fz (.int hub)) (.ow none .l (.list (r1.map NL))) (.ow none .l (NL fr)) (.fz (.int (size : Nat))) s7 .un .un) := fun b' hb' => hkk _ ⟨b', r1, _, _, _, _, hb', ⟨by have := hr1.len; omega, hr1.row⟩, rfl⟩
    have k1 : ∃ m : Nat, atI [PyData.int 5, .int 2, .int 9, .int 4, .int 3] kind = some (.int (m : Int)) ∧ 0 < m ∧ m < 10 := by
      have : kind = 0 ∨ kind = 1 ∨ kind = 2 ∨ kind = 3 ∨ kind = 4 := by omega
      rcases this with rfl | rfl | rfl | rfl | rfl
      · exact ⟨5, rfl, by decide⟩
      · exact ⟨2, rfl, by decide⟩
      · exact ⟨9, rfl, by decide⟩
      · exact ⟨4, rfl, by decide⟩
      · exact ⟨3, rfl, by decide⟩
    have k2 : ∃ m : Int, atI [PyData.int 3, .int 2, .int 2, .int 5, .int 4] kind = some (.int m) := by
      have : kind = 0 ∨ kind = 1 ∨ kind = 2 ∨ kind = 3 ∨ kind = 4 := by omega
      rcases this with rfl | rfl | rfl | rfl | rfl <;> exact ⟨_, rfl⟩
    obtain ⟨m, em, hm0, hm⟩ := k1
    obtain ⟨m2, em2⟩ := k2
    have loop : ∀ b', BoxD b' → dFor (dItR1 (dCons (dCall m__law_draw t__law_draw (dCons (dName 0) (dCons (dBin gIx (dLst (dCons (dC (.int 5)) (dCons (dC (.int 2)) (dCons (dC (.int 9)) (dCons (dC (.int 4)) (dCons (dC (.int 3)) dNil)))))) (dName 2)) dNil))) dNil)) (gN 7) b__law_pupils_1 { nx := kk, rt := finR m__law_pupils [a] k } (St b' (.fz (.int kind)) (.fz (.int hub)) (.ow none .l (.list (r1.map NL))) (.ow none .l (NL fr)) (.fz (.int (size : Nat))) s7 .un .un) := fun b' hb' => by
      refine ⟨(by show 5 ≤ sizeLine; omega), _, em, okio1 rfl (by show (0 : Nat) ∉ []; simp) trivial, rfl, _, _, rfl, hb', by omega, fun x b4 h1 h2 hb4 => ⟨rfl, ⟨by omega, by omega⟩, trivial, ?_⟩⟩
      have hx10 : x.toNat < 10 := by omega
      refine loop_rg (fun i ρ => ∃ b' rs s7 s8, BoxD b' ∧ Rw n (20 + i) rs ∧ ρ = St b' (.fz (.int kind)) (.fz (.int hub)) (.ow none .l (.list (rs.map NL))) (.ow none .l (NL fr)) (.fz (.int (size : Nat))) s7 s8 .un) ⟨b4, r1, _, _, hb4, hr1, rfl⟩ ?_ ?_
      · rintro ρ ⟨b', rs, s7, s8, hb', hrs, rfl⟩
        exact hkk _ ⟨b', rs, _, _, _, _, hb', ⟨by have := hrs.len; omega, hrs.row⟩, rfl⟩
      · rintro i ρ kk2 hi ⟨b', rs, s7, s8, hb', hrs, rfl⟩ next
        refine ⟨trivial, fun q hq => by rw [List.mem_singleton.mp hq]; show (5 : Nat) ∉ [8]; decide, ?_⟩
        refine comp_ind (fun acc done rest ρ => ∃ b' r, BoxD b' ∧ acc = r.map (fun m : Nat => PyData.int (m : Int)) ∧ r.length ≤ done.length ∧ (∀ x ∈ r, x ∈ fr) ∧ ρ = St b' (.fz (.int kind)) (.fz (.int hub)) (.ow none .l (.list (rs.map NL))) (.ow none .l (NL fr)) (.fz (.int (size : Nat))) (.fz (.int i)) .un .un) ⟨b', [], hb', rfl, by simp, fun x hx => absurd hx List.not_mem_nil, rfl⟩ ?_ ?_
        · rintro acc ρ ⟨b5, r, hb5, rfl, h3, h4, rfl⟩
          have hrl : r.length ≤ 6 := by rw [List.length_map] at h3; omega
          refine ⟨⟨rfl, trivial⟩, (by rw [List.length_map]; have := hrs.len; omega), ?_⟩
          have := next (St b5 (.fz (.int kind)) (.fz (.int hub)) (.ow none .l (.list ((rs ++ [r]).map NL))) (.ow none .l (NL fr)) (.fz (.int (size : Nat))) (.fz (.int i)) (keepS (some s8)) .un) ⟨b5, rs ++ [r], _, _, hb5, ⟨by have := hrs.len; simp; omega, fun y hy => ?_⟩, rfl⟩
          · rw [List.map_append] at this
            exact this
          · rcases List.mem_append.mp hy with z | z
            · exact hrs.row y z
            · rw [List.mem_singleton.mp z]
              exact ⟨hrl, fun x hx => hfm x (h4 x hx)⟩
        · rintro acc done d rest ρ he ⟨b5, r, hb5, rfl, h3, h4, rfl⟩ ih
          have hd : d ∈ fr.map fun m : Nat => PyData.int (m : Int) := by rw [he]; simp
          obtain ⟨x, hx, rfl⟩ := List.mem_map.mp hd
          refine ⟨⟨rfl, trivial⟩, okio1 rfl (by show (0 : Nat) ∉ []; simp) trivial, rfl, _, _, rfl, hb5, by omega, fun y b6 h1 h2 hb6 => ⟨rfl, (by show 5 ≤ sizeLine; omega), _, em2, ifd (fun h => ⟨?_, ?_⟩) fun h => ?_⟩⟩
          · have hl := congrArg List.length he
            simp at hl
            rw [List.length_map]
            omega
          · have := ih ((r ++ [x]).map fun m : Nat => PyData.int (m : Int)) _ ⟨b6, r ++ [x], hb6, rfl, by simp; omega, fun z hz => (List.mem_append.mp hz).elim (h4 z) fun hz => by rw [List.mem_singleton.mp hz]; exact hx, rfl⟩
            rw [List.map_append] at this
            exact this
          · exact ih _ _ ⟨b6, r, hb6, rfl, by simp; omega, h4, rfl⟩
    refine ⟨sh_int, sh_int, ifnb (fun h => loop b3 hb3) fun h => ?_⟩
    refine ⟨okio1 rfl (by show (0 : Nat) ∉ []; simp) trivial, rfl, _, _, rfl, hb3, by decide, fun x b4 h1 h2 hb4 => ⟨rfl, sh_int, sh_int, ifb (fun _ => loop b4 hb4) fun _ => no3 b4 hb4⟩⟩
  rintro ρ ⟨b', rs, s5, s6, s7, s8, hb', hrs, rfl⟩
  let sN : List Nat → List Nat := fun r => (srt (r.map fun n : Nat => (n : Int))).map Int.toNat
  have sNe : ∀ r, (sN r).map (fun n : Nat => (n : Int)) = srt (r.map fun n : Nat => (n : Int)) := fun r => by
    show ((srt _).map Int.toNat).map _ = _
    rw [List.map_map]
    conv => rhs; rw [← List.map_id (srt _)]
    refine List.map_congr_left fun x hx => ?_
    obtain ⟨y, _, rfl⟩ := List.mem_map.mp (srt_mem.mp hx)
    show ((Int.toNat (y : Int) : Nat) : Int) = _
    rw [Int.toNat_natCast]; rfl
  have sNm : ∀ r x, x ∈ sN r → x ∈ r := fun r x hx => by
    obtain ⟨y, hy, rfl⟩ := List.mem_map.mp hx
    obtain ⟨z, hz, rfl⟩ := List.mem_map.mp (srt_mem.mp hy)
    rw [Int.toNat_natCast]; exact hz
  have sNl : ∀ r, (sN r).length = r.length := fun r => by
    show ((srt _).map Int.toNat).length = _
    rw [List.length_map, srt_len, List.length_map]
  refine ⟨fun q hq => by rw [List.mem_singleton.mp hq]; show (4 : Nat) ∉ [9]; decide, ?_⟩
  refine comp_mapA (fun r => rw (sN r)) (by have := hrs.len; omega) ⟨rfl, trivial⟩ (fun r hr kk hk => ?_) ?_
  · refine ⟨_, intsOf_nats r, fun ms h1 h2 => ?_⟩
    rw [srt_eq h1 h2, ← sNe, List.map_map]
    exact hk
  · have := hk (rs.map sN) b' ⟨by rw [List.length_map]; exact hrs.len, fun r hr => ?_⟩ hb'
    · have e : (rs.map fun r => rw (sN r)) = (rs.map sN).map rw := by rw [List.map_map]; rfl
      rw [e]
      exact ⟨rfl, rfl, this⟩
    · obtain ⟨r', hr', rfl⟩ := List.mem_map.mp hr
      have := hrs.row r' hr'
      exact ⟨by rw [sNl]; omega, fun x hx => this.2 x (sNm r' x hx)⟩
end TL.k50

-- part Pk50f
/-! Pk50f: papers. -/
namespace TL.k50
open PySem PySem.Spec L2 TL.cm
variable [Lay]
structure Pps (m : Nat) (ps : List (List Int)) : Prop where
  len : ps.length ≤ m
  all : ∀ p ∈ ps, Pap p
theorem Pps.snoc {m : Nat} {ps : List (List Int)} {p : List Int} (h : Pps m ps) (hp : Pap p) : Pps (m + 1) (ps ++ [p]) :=
  ⟨by have := h.len; simp; omega, fun r hr => (List.mem_append.mp hr).elim (h.all r) fun z => by rw [List.mem_singleton.mp z]; exact hp⟩
theorem Pap.app {p r : List Int} (hp : p.length ≤ 10 ∧ ∀ x ∈ p, -100 ≤ x ∧ x ≤ 100) (hr : r.length ≤ 10 ∧ ∀ x ∈ r, -100 ≤ x ∧ x ≤ 100) : Pap (p ++ r) :=
  ⟨by rw [List.length_append]; omega, fun x hx => (List.mem_append.mp hx).elim (hp.2 x) (hr.2 x)⟩
theorem p__law_papers : Ok__law_papers := by
  rintro ds k as ⟨b, n, plan, rfl, hb, hn, hl, hpl, hk⟩ - ha
  obtain ⟨a, rfl⟩ := as1 ha
  have q := sl
  let pI : List Int := plan.map fun m : Nat => (m : Int)
  have pIl : pI.length = n := by show (plan.map _).length = n; rw [List.length_map, hl]
  have pIm : ∀ x ∈ pI, 0 ≤ x ∧ x ≤ 10 := fun x hx => by
    obtain ⟨y, hy, rfl⟩ := List.mem_map.mp hx
    have := hpl y hy
    omega
  have ePI : (plan.map fun m : Nat => PyData.int (m : Int)) = pI.map PyData.int := by rw [List.map_map]; rfl
  let St : D → List (List Int) → Slot → Slot → Slot → Slot → Slot → Slot → Slot → List Slot := fun b ps s4 s5 s6 s7 s8 s9 s10 => [.ow (some a) .l b, .fz (.int n), .rd (NL plan), .ow none .l (.list (ps.map IL)), s4, s5, s6, s7, s8, s9, s10]
  refine seq_join (fun ρ => ∃ ps s10, Pps 5 ps ∧ ρ = St b ps .un .un .un .un .un .un s10) (fun kk hkk => ?_) ?_
  · refine ⟨(by show 1 ≤ sizeLine; omega), (by simp; omega), (by show 0 ≤ sizeLine; omega), ⟨⟨by omega, by omega⟩, ⟨by omega, by omega⟩, by omega⟩, fun q hq => absurd hq List.not_mem_nil, ?_⟩
    refine comp_mapA (fun m : Nat => .int ((m : Int) + 5)) (by omega) trivial (fun x hx kk h => h) ?_
    refine ⟨(by show 5 ≤ sizeLine; omega), ?_⟩
    have h1 : Pap pI := ⟨by omega, fun x hx => by have := pIm x hx; omega⟩
    have h2 : Pap (pI ++ [9]) := Pap.app ⟨by omega, fun x hx => by have := pIm x hx; omega⟩ ⟨by simp, fun x hx => by rw [List.mem_singleton.mp hx]; omega⟩
    have h3 : Pap [] := ⟨by simp, fun x hx => absurd hx List.not_mem_nil⟩
    have h4 : Pap ((List.range n).map fun i : Nat => (i : Int)) := ⟨by simp; omega, fun x hx => by
      obtain ⟨i, hi, rfl⟩ := List.mem_map.mp hx
      have := List.mem_range.mp hi
      omega⟩
    have h5 : Pap (plan.map fun m : Nat => (m : Int) + 5) := ⟨by simp; omega, fun x hx => by
      obtain ⟨i, hi, rfl⟩ := List.mem_map.mp hx
      have := hpl i hi
      omega⟩
    have := hkk (St b [pI, pI ++ [9], [], (List.range n).map fun i : Nat => (i : Int), plan.map fun m : Nat => (m : Int) + 5] .un .un .un .un .un .un (keepS (some .un))) ⟨_, _, ⟨by simp, fun p hp => by
      simp only [List.mem_cons, List.not_mem_nil, or_false] at hp
      rcases hp with rfl | rfl | rfl | rfl | rfl <;> assumption⟩, rfl⟩
    have e1 : IL pI = .list (plan.map fun m : Nat => PyData.int (m : Int)) := by rw [ePI]; rfl
    have e2 : IL (pI ++ [9]) = .list ((plan.map fun m : Nat => PyData.int (m : Int)) ++ [.int 9]) := by rw [ePI]; unfold IL; rw [List.map_append]; rfl
    have e4 : IL ((List.range n).map fun i : Nat => (i : Int)) = .list (rangeD 0 1 ((n : Int) - 0).toNat) := by
      rw [show ((n : Int) - 0).toNat = n by omega, range0_map]; unfold IL; rw [List.map_map]; rfl
    have e5 : IL (plan.map fun m : Nat => (m : Int) + 5) = .list (plan.map fun m : Nat => PyData.int ((m : Int) + 5)) := by unfold IL; rw [List.map_map]; rfl
    show kk _
    have eS : St b [pI, pI ++ [9], [], (List.range n).map fun i : Nat => (i : Int), plan.map fun m : Nat => (m : Int) + 5] .un .un .un .un .un .un (keepS (some .un)) = [.ow (some a) .l b, .fz (.int n), .rd (NL plan), .ow none .l (.list [IL pI, IL (pI ++ [9]), IL [], IL ((List.range n).map fun i : Nat => (i : Int)), IL (plan.map fun m : Nat => (m : Int) + 5)]), .un, .un, .un, .un, .un, .un, .un] := rfl
    rw [eS, e1, e2, e4, e5] at this
    exact this
  rintro ρ ⟨ps, s10, hps, rfl⟩
  refine seq_join (fun ρ => ∃ b' ps s4 s5 s6 s7 s8 s9, BoxD b' ∧ Pps 100 ps ∧ ρ = St b' ps s4 s5 s6 s7 s8 s9 s10) (fun kk hkk => ?_) ?_
  · refine ifd (fun hpos => ?_) fun hpos => hkk _ ⟨b, ps, .un, .un, .un, .un, .un, .un, hb, ⟨by have := hps.len; omega, hps.all⟩, rfl⟩
    have hn0 : 0 < n := by omega
    refine seq_join (fun ρ => ∃ b' at_ far, BoxD b' ∧ at_ < n ∧ far < n ∧ ρ = St b' ps (.fz (.int (at_ : Nat))) (.fz (.int (far : Nat))) .un .un .un .un s10) (fun kk hkk => ?_) ?_
    · refine ⟨okio1 rfl (by show (0 : Nat) ∉ []; simp) trivial, rfl, _, _, rfl, hb, by omega, fun x b1 h1 h2 hb1 => ?_⟩
      refine ⟨rfl, okio1 rfl (by show (0 : Nat) ∉ []; simp) trivial, rfl, _, _, rfl, hb1, by omega, fun y b2 h3 h4 hb2 => ?_⟩
      obtain ⟨x, rfl⟩ := Int.eq_ofNat_of_zero_le h1
      obtain ⟨y, rfl⟩ := Int.eq_ofNat_of_zero_le h3
      exact ⟨rfl, hkk _ ⟨b2, x, y, hb2, by omega, by omega, rfl⟩⟩
    rintro ρ ⟨b1, at_, far, hb1, hat, hfar, rfl⟩
    have take : ∀ i : Nat, cutD (plan.map fun m : Nat => PyData.int (m : Int)) none (some (i : Int)) = (pI.take i).map .int := fun i => by rw [cut_to (by omega), ePI, Int.toNat_natCast, List.map_take]
    have drop : ∀ i : Nat, cutD (plan.map fun m : Nat => PyData.int (m : Int)) (some (i : Int)) none = (pI.drop i).map .int := fun i => by rw [cut_from (by omega), ePI, Int.toNat_natCast, List.map_drop]
    have pt : ∀ i : Nat, (pI.take i).length ≤ 6 ∧ ∀ x ∈ pI.take i, -100 ≤ x ∧ x ≤ 100 := fun i => ⟨by rw [List.length_take]; omega, fun x hx => by have := pIm x (List.mem_of_mem_take hx); omega⟩
    have pd : ∀ i : Nat, (pI.drop i).length ≤ 6 ∧ ∀ x ∈ pI.drop i, -100 ≤ x ∧ x ≤ 100 := fun i => ⟨by rw [List.length_drop]; omega, fun x hx => by have := pIm x (List.mem_of_mem_drop hx); omega⟩
    have efar : plan[far]? = some (plan[far]'(by omega)) := List.getElem?_eq_getElem (by omega)
    have hpf := hpl _ (List.getElem_mem (l := plan) (n := far) (by omega))
    generalize plan[far]'(by omega) = pf at efar hpf
    refine seq_join (fun ρ => ∃ b' ps s6, BoxD b' ∧ Pps 9 ps ∧ ρ = St b' ps (.fz (.int (at_ : Nat))) (.fz (.int (far : Nat))) s6 .un .un .un s10) (fun kk hkk => ?_) ?_
    · refine ⟨_, at_map efar, okio1 rfl (by show (0 : Nat) ∉ []; simp) trivial, rfl, _, _, rfl, hb1, by omega, fun x b2 h1 h2 hb2 => ?_⟩
      refine ⟨rfl, (by show 4 ≤ sizeLine; omega), trivial, ?_⟩
      show dLoop _ _ _ ([(-1 : Int), pf, x, n + 40].map PyData.int) _
      refine loop_map (fun done _ ρ => ∃ ps s6, Pps (5 + done.length) ps ∧ ρ = St b2 ps (.fz (.int (at_ : Nat))) (.fz (.int (far : Nat))) s6 .un .un .un s10) ⟨ps, _, hps, rfl⟩ ?_ ?_
      · rintro ρ ⟨ps, s6, hps, rfl⟩
        exact hkk _ ⟨b2, ps, _, hb2, ⟨by have := hps.len; simpa using this, hps.all⟩, rfl⟩
      · rintro done fr rest ρ kk2 he ⟨ps, s6, hps, rfl⟩ next
        have hfr : -100 ≤ fr ∧ fr ≤ 100 := by
          have : fr ∈ [(-1 : Int), pf, x, n + 40] := by rw [he]; simp
          simp only [List.mem_cons, List.not_mem_nil, or_false] at this
          rcases this with rfl | rfl | rfl | rfl <;> omega
        have hdl : done.length < 4 := by
          have := congrArg List.length he
          simp at this
          omega
        have hP : Pap ((pI.take at_ ++ [fr]) ++ pI.drop (at_ + 1)) := Pap.app ⟨by have := (pt at_).1; simp; omega, fun y hy => (List.mem_append.mp hy).elim ((pt at_).2 y) fun z => by rw [List.mem_singleton.mp z]; exact hfr⟩ ⟨by have := (pd (at_ + 1)).1; omega, (pd (at_ + 1)).2⟩
        have drop1 := drop (at_ + 1)
        rw [show ((at_ + 1 : Nat) : Int) = (at_ : Int) + 1 from rfl] at drop1
        have take1 := take at_
        refine ⟨trivial, (by show 1 ≤ sizeLine; omega), ?_, ?_, ?_, ?_⟩
        · rw [take1, List.length_map]
          have := (pt at_).1
          simp only [List.length_cons, List.length_nil]
          omega
        · rw [take1, drop1, List.length_append, List.length_map, List.length_map]
          have := (pt at_).1
          have := (pd (at_ + 1)).1
          simp only [List.length_cons, List.length_nil]
          omega
        · rw [List.length_map]; have := hps.len; omega
        · have := next (St b2 (ps ++ [(pI.take at_ ++ [fr]) ++ pI.drop (at_ + 1)]) (.fz (.int (at_ : Nat))) (.fz (.int (far : Nat))) (.fz (.int fr)) .un .un .un s10) ⟨_, _, by have := hps.snoc hP; rw [List.length_append]; exact this, rfl⟩
          have e : IL ((pI.take at_ ++ [fr]) ++ pI.drop (at_ + 1)) = .list ((cutD (plan.map fun m : Nat => PyData.int (m : Int)) none (some (at_ : Int)) ++ [.int fr]) ++ cutD (plan.map fun m : Nat => PyData.int (m : Int)) (some ((at_ : Int) + 1)) none) := by
            rw [take1, drop1]; unfold IL; rw [List.map_append, List.map_append]; rfl
          have eS : St b2 (ps ++ [(pI.take at_ ++ [fr]) ++ pI.drop (at_ + 1)]) (.fz (.int (at_ : Nat))) (.fz (.int (far : Nat))) (.fz (.int fr)) .un .un .un s10 = [.ow (some a) .l b2, .fz (.int n), .rd (NL plan), .ow none .l (.list (ps.map IL ++ [IL ((pI.take at_ ++ [fr]) ++ pI.drop (at_ + 1))])), .fz (.int (at_ : Nat)), .fz (.int (far : Nat)), .fz (.int fr), .un, .un, .un, s10] := by
            show [Slot.ow (some a) .l b2, _, _, .ow none .l (.list ((ps ++ [_]).map IL)), _, _, _, _, _, _, _] = _
            rw [List.map_append]
            rfl
          rw [eS, e] at this
          exact this
    rintro ρ ⟨b2, ps, s6, hb2, hps, rfl⟩
    have sn : ∀ (b2 : D) (ps : List (List Int)) (p : List Int) (s6 s7 s8 s9 : Slot) (d : D), IL p = d → St b2 (ps ++ [p]) (.fz (.int (at_ : Nat))) (.fz (.int (far : Nat))) s6 s7 s8 s9 s10 = [.ow (some a) .l b2, .fz (.int n), .rd (NL plan), .ow none .l (.list (ps.map IL ++ [d])), .fz (.int (at_ : Nat)), .fz (.int (far : Nat)), s6, s7, s8, s9, s10] := fun b2 ps p s6 s7 s8 s9 d e => by
      subst e
      show [Slot.ow (some a) .l b2, _, _, .ow none .l (.list ((ps ++ [_]).map IL)), _, _, _, _, _, _, _] = _
      rw [List.map_append]
      rfl
    refine seq_join (fun ρ => ∃ ps, Pps 10 ps ∧ ρ = St b2 ps (.fz (.int (at_ : Nat))) (.fz (.int (far : Nat))) s6 .un .un .un s10) (fun kk hkk => ?_) ?_
    · have drop1 := drop (at_ + 1)
      rw [show ((at_ + 1 : Nat) : Int) = (at_ : Int) + 1 from rfl] at drop1
      have take1 := take at_
      have hP : Pap (pI.take at_ ++ pI.drop (at_ + 1)) := Pap.app ⟨by have := (pt at_).1; omega, (pt at_).2⟩ ⟨by have := (pd (at_ + 1)).1; omega, (pd (at_ + 1)).2⟩
      refine ⟨trivial, ?_, ?_, ?_⟩
      · rw [take1, drop1, List.length_map, List.length_map]
        have := (pt at_).1
        have := (pd (at_ + 1)).1
        omega
      · rw [List.length_map]; have := hps.len; omega
      · have := hkk _ ⟨_, hps.snoc hP, rfl⟩
        rw [sn b2 ps _ _ _ _ _ (.list (cutD (plan.map fun m : Nat => PyData.int (m : Int)) none (some (at_ : Int)) ++ cutD (plan.map fun m : Nat => PyData.int (m : Int)) (some ((at_ : Int) + 1)) none)) (by rw [take1, drop1]; unfold IL; rw [List.map_append])] at this
        exact this
    rintro ρ ⟨ps, hps, rfl⟩
    refine seq_join (fun ρ => ∃ ps, Pps 11 ps ∧ ρ = St b2 ps (.fz (.int (at_ : Nat))) (.fz (.int (far : Nat))) s6 .un .un .un s10) (fun kk hkk => ?_) ?_
    · have take1 := take (n - 1)
      rw [show ((n - 1 : Nat) : Int) = (n : Int) - 1 by omega] at take1
      have hP : Pap (pI.take (n - 1)) := ⟨by have := (pt (n - 1)).1; omega, (pt (n - 1)).2⟩
      refine ⟨trivial, ?_, ?_⟩
      · rw [List.length_map]; have := hps.len; omega
      · have := hkk _ ⟨_, hps.snoc hP, rfl⟩
        rw [sn b2 ps _ _ _ _ _ (.list (cutD (plan.map fun m : Nat => PyData.int (m : Int)) none (some ((n : Int) - 1)))) (by rw [take1]; rfl)] at this
        exact this
    rintro ρ ⟨ps, hps, rfl⟩
    refine ⟨⟨by omega, by omega⟩, trivial, ?_⟩
    show dLoop _ _ _ (rangeD 0 1 ((n : Int)).toNat) _
    rw [Int.toNat_natCast]
    refine loop_rg (fun i ρ => ∃ b' ps s7 s8 s9, BoxD b' ∧ Pps (11 + i) ps ∧ ρ = St b' ps (.fz (.int (at_ : Nat))) (.fz (.int (far : Nat))) s6 s7 s8 s9 s10) ⟨b2, ps, _, _, _, hb2, hps, rfl⟩ ?_ ?_
    · rintro ρ ⟨b', ps, s7, s8, s9, hb', hps, rfl⟩
      exact hkk _ ⟨b', ps, _, _, _, _, _, _, hb', ⟨by have := hps.len; omega, hps.all⟩, rfl⟩
    · rintro one ρ kk2 hone ⟨b3, ps, s7, s8, s9, hb3, hps, rfl⟩ next
      refine seq_join (fun ρ => ∃ b' oth, BoxD b' ∧ oth < n ∧ ρ = St b' ps (.fz (.int (at_ : Nat))) (.fz (.int (far : Nat))) s6 (.fz (.int one)) (.fz (.int (oth : Nat))) s9 s10) (fun kk hkk => ?_) ?_
      · refine ⟨okio1 rfl (by show (0 : Nat) ∉ []; simp) trivial, rfl, _, _, rfl, hb3, by split <;> omega, fun x b4 h1 h2 hb4 => ⟨rfl, (by omega), hkk _ ⟨b4, (((one : Int) + 1 + x) % (n : Int)).toNat, hb4, ?_, ?_⟩⟩⟩
        · have := Int.emod_lt_of_pos ((one : Int) + 1 + x) (show (0 : Int) < n by omega)
          have := Int.emod_nonneg ((one : Int) + 1 + x) (show (n : Int) ≠ 0 by omega)
          omega
        · rw [Int.toNat_of_nonneg (Int.emod_nonneg ((one : Int) + 1 + x) (show (n : Int) ≠ 0 by omega))]
          rfl
      rintro ρ ⟨b4, oth, hb4, hoth, rfl⟩
      refine seq_to (St b4 ps (.fz (.int (at_ : Nat))) (.fz (.int (far : Nat))) s6 (.fz (.int one)) (.fz (.int (oth : Nat))) (.ow none .l (.list (rangeD 0 1 ((n : Int) - 0).toNat))) s10) (fun kk hkk => ⟨⟨⟨by omega, by omega⟩, ⟨by omega, by omega⟩, by omega⟩, hkk⟩) ?_
      let row : List Int := ((List.range n).map fun i : Nat => (i : Int)).set one oth
      have erow : (rangeD 0 1 ((n : Int) - 0).toNat).set one (.int oth) = row.map .int := by
        rw [show ((n : Int) - 0).toNat = n by omega, range0_map]
        show _ = (((List.range n).map fun i : Nat => (i : Int)).set one oth).map PyData.int
        rw [List.map_set, List.map_map]
        rfl
      have hP : Pap row := ⟨by show (((List.range n).map fun i : Nat => (i : Int)).set one oth).length ≤ 20; simp; omega, fun x hx => by
        rcases List.mem_or_eq_of_mem_set hx with z | rfl
        · obtain ⟨i, hi, rfl⟩ := List.mem_map.mp z
          have := List.mem_range.mp hi
          omega
        · omega⟩
      refine seq_to (St b4 ps (.fz (.int (at_ : Nat))) (.fz (.int (far : Nat))) s6 (.fz (.int one)) (.fz (.int (oth : Nat))) (.ow none .l (IL row)) s10) (fun kk hkk => ⟨trivial, one, ixN_of (n := (rangeD 0 1 ((n : Int) - 0).toNat).length) (i := (one : Int)) (by omega) (by rw [rangeD_len]; omega), ?_⟩) ?_
      · unfold IL at hkk
        rw [← erow] at hkk
        exact hkk
      refine ⟨trivial, (by rw [List.length_map]; have := hps.len; omega), ?_⟩
      have := next _ ⟨b4, ps ++ [row], .fz (.int one), .fz (.int (oth : Nat)), .fz (IL row), hb4, hps.snoc hP, rfl⟩
      rw [sn b4 ps _ _ _ _ _ _ rfl] at this
      exact this
  rintro ρ ⟨b', ps, s4, s5, s6, s7, s8, s9, hb', hps, rfl⟩
  exact ⟨rfl, rfl, hk ps b' hps.all hps.len hb'⟩
end TL.k50

-- part Pk50g
/-! Pk50g: the law's turns. -/
namespace TL.k50
open PySem PySem.Spec L2 TL.cm
variable [Lay]
theorem nb_RL (rs : List (List Nat)) : Nb (RL rs) = true := nb_list fun d hd => by
  obtain ⟨a, _, rfl⟩ := List.mem_map.mp hd
  exact nb_tuple fun d hd => by
    obtain ⟨x, _, rfl⟩ := List.mem_map.mp hd
    exact nb_int
theorem sh_RL (rs : List (List Nat)) : Sh (RL rs) := (shn_list (n := 2) fun d hd => by
  obtain ⟨a, _, rfl⟩ := List.mem_map.mp hd
  exact shn_tuple fun d hd => by
    obtain ⟨x, _, rfl⟩ := List.mem_map.mp hd
    exact shn_int).sh
theorem sm_NL {n : Nat} {l : List Nat} (hl : l.length ≤ 16777216) (h : ∀ x ∈ l, x < 2 ^ 100) : Sm (n + 1) (NL l) := sm_list (by rw [List.length_map]; exact hl) fun d hd => by
  obtain ⟨x, hx, rfl⟩ := List.mem_map.mp hd
  exact sm_int (by have := h x hx; omega)
theorem sm_PrL {n : Nat} {l : List (Nat × Nat)} (hl : l.length ≤ 16777216) (h : ∀ p ∈ l, p.1 < 2 ^ 100 ∧ p.2 < 2 ^ 100) : Sm (n + 2) (PrL l) := sm_list (by rw [List.length_map]; exact hl) fun d hd => by
  obtain ⟨x, hx, rfl⟩ := List.mem_map.mp hd
  refine sm_tuple (by show 2 ≤ sizeLine; decide) fun d hd => ?_
  simp only [List.mem_cons, List.not_mem_nil, or_false] at hd
  have := h x hx
  rcases hd with rfl | rfl <;> exact sm_int (by omega)
/-- what stands through a turn -/
@[simp] def bs (f : Fr_law) (n : Nat) (rs : List (List Nat)) (M : Nat → Nat → Int) : Fr_law := { f with exams := .fz (.int n), those := .ow none .l (RL rs), handed := .ow none .l (RL rs), both := .ow none .l (ML n M) }
section
variable {n : Nat} {rs : List (List Nat)} {M : Nat → Nat → Int} (hn : n ≤ 6) (hR : Rows n rs) (hM : Both n rs M)
include hn hR hM
/-- free exams as reckoned here -/
theorem body3 {f : Fr_law} {E : DEnds} {plan : List Nat} {day : Nat} (hpl : plan.length = n) (hf : keepS (some f.far) = f.far) (hk : ∀ s17 s18 s19 s23, E.nx ({ bs f n rs M with plan := .ow none .l (NL plan), day := .fz (.int day), there := s17, fit := s18, told_plan := s19, exam := s23 } : Fr_law).st) :
    b_law_3 E ({ bs f n rs M with plan := .ow none .l (NL plan), day := .fz (.int day) } : Fr_law).st := by
  have q := sl
  let Z : Slot → Slot → Slot → Slot → List Slot := fun s17 s18 s19 s23 => ({ bs f n rs M with plan := .ow none .l (NL plan), day := .fz (.int day), there := s17, fit := s18, told_plan := s19, exam := s23 } : Fr_law).st
  let th : List Nat := (List.range n).filter fun x => decide (plan[x]? = some day)
  have mth : ∀ x, x ∈ th ↔ x < n ∧ plan[x]? = some day := fun x => by
    rw [List.mem_filter, List.mem_range, decide_eq_true_eq]
  have thl : th.length ≤ n := by simpa using List.length_filter_le (fun f => decide (plan[f]? = some day)) (List.range n)
  have pl : ∀ i, i < n → ∃ x, plan[i]? = some x := fun i hi => ⟨plan[i]'(by omega), List.getElem?_eq_getElem (by omega)⟩
  refine seq_join (fun ρ => ∃ s23, ρ = Z (.ow none .l (NL th)) f.fit f.told_plan s23) (fun kk hkk => ?_) ?_
  · refine ⟨⟨by omega, by omega⟩, fun p hp => absurd hp List.not_mem_nil, ?_⟩
    show dCompL _ _ _ _ _ _ (rangeD 0 1 ((n : Int)).toNat) _ _
    rw [Int.toNat_natCast]
    refine comp_rg (fun e => decide (plan[e]? = some day)) (fun e => .int (e : Int)) (by omega) trivial (fun i hi kk kn hy hno => ?_) (hkk _ ⟨keepS (some f.exam), rfl⟩)
    obtain ⟨x, e1⟩ := pl i hi
    refine ⟨_, at_map e1, sh_int, sh_int, ifb (fun h => ?_) fun h => ?_⟩
    · rw [eqv_int, decide_eq_true_eq] at h
      exact hy (decide_eq_true (by rw [e1, Int.ofNat_inj.mp h]))
    · rw [eqv_int, decide_eq_false_iff_not] at h
      exact hno (decide_eq_false fun z => h (by rw [e1] at z; rw [Option.some.inj z]))
  rintro ρ ⟨s23, rfl⟩
  refine seq_join (fun ρ => ∃ s23, ρ = Z (.ow none .l (NL th)) (.ow none .l (NL (free n rs plan day))) f.told_plan s23) (fun kk hkk => ?_) ?_
  · refine ⟨⟨by omega, by omega⟩, fun p hp => absurd hp List.not_mem_nil, ?_⟩
    show dCompL _ _ _ _ _ _ (rangeD 0 1 ((n : Int)).toNat) _ _
    rw [Int.toNat_natCast]
    refine comp_rg (fun e => decide (plan[e]? ≠ some day) && th.all fun f => !gr rs e f) (fun e => .int (e : Int)) (by omega) trivial (fun i hi kk kn hy hno => ?_) (hkk _ ⟨keepS (some s23), rfl⟩)
    obtain ⟨x, e1⟩ := pl i hi
    refine ⟨_, at_map e1, sh_int, sh_int, ifnb (fun h => ?_) fun h => ?_⟩
    · rw [eqv_int, decide_eq_false_iff_not] at h
      have h1 : plan[i]? ≠ some day := fun z => h (by rw [e1] at z; rw [Option.some.inj z])
      rw [decide_eq_true h1, Bool.true_and] at hy hno
      refine ⟨fun q hq => by rw [List.mem_singleton.mp hq]; show (17 : Nat) ∉ [22]; decide, ?_⟩
      refine comp_mapA (fun x => .int (M i x)) (by omega) ⟨rfl, trivial⟩ (fun x hx kk hk => ⟨_, at_range hi, _, at_range ((mth x).mp hx).1, hk⟩) ?_
      refine ⟨_, intsOf_fn th (M i), sh_int, sh_int, ?_⟩
      rw [eqv_int]
      show if decide ((th.map (M i)).sum = 0) = true then _ else _
      have key : ∀ l : List Nat, (∀ x ∈ l, x < n) → 0 ≤ (l.map (M i)).sum ∧ ((l.map (M i)).sum = 0 ↔ (l.all fun f => !gr rs i f) = true) := fun l => by
        induction l with
        | nil => intro _; simp
        | cons y l ih =>
          intro hl
          obtain ⟨i1, i2⟩ := ih fun x hx => hl x (List.mem_cons_of_mem _ hx)
          have h2 := hM.pos i y hi (hl y List.mem_cons_self)
          have h3 := hM.nn i y
          rw [List.map_cons, List.sum_cons, List.all_cons, Bool.and_eq_true]
          refine ⟨by omega, fun h => ⟨?_, i2.mp (by omega)⟩, fun h => ?_⟩
          · have : ¬ gr rs i y = true := fun z => by have := h2.mpr z; omega
            simpa using this
          · have : ¬ 0 < M i y := fun z => by have := h2.mp z; simp [this] at h
            have := i2.mpr h.2
            omega
      have k2 := (key th fun x hx => ((mth x).mp hx).1).2
      have e22 : ∀ (P : Slot → Prop), P f.far → P (keepS (some f.far)) := fun P h => by rw [hf]; exact h
      refine ifd (fun h => ?_) fun h => ?_
      · exact e22 (fun s => kk (.int (i : Int)) (wipeR ({ bs f n rs M with plan := .ow none .l (NL plan), day := .fz (.int day), there := .ow none .l (NL th), far := s, exam := s23 } : Fr_law).st [23])) (hy (k2.mp h))
      · exact e22 (fun s => kn (wipeR ({ bs f n rs M with plan := .ow none .l (NL plan), day := .fz (.int day), there := .ow none .l (NL th), far := s, exam := s23 } : Fr_law).st [23])) (hno (Bool.eq_false_iff.mpr fun z => h (k2.mpr z)))
    · rw [eqv_int, decide_eq_true_eq] at h
      exact hno (by rw [decide_eq_false (fun z : plan[i]? ≠ some day => z (by rw [e1, Int.ofNat_inj.mp h])), Bool.false_and])
  rintro ρ ⟨s23, rfl⟩
  refine seq_to (Z (.ow none .l (NL th)) (.ow none .l (NL (free n rs plan day))) (.ow none .l (NL plan)) s23) (fun kk hkk => hkk) ?_
  have sm : Sm 9 (NL (free n rs plan day)) := sm_NL (by have : (free n rs plan day).length ≤ (List.range n).length := List.length_filter_le _ _; simp at this; omega) fun x hx => by
    have := List.mem_range.mp (List.mem_filter.mp hx).1
    omega
  exact ⟨okio0 rfl, n, rs, plan, day, rfl, hn, hR, hpl, okio0 rfl, _, rfl, sm, sh_nats, sh_nats, ne_F nb_nats (hk _ _ _ _)⟩
/-- the pairs as reckoned here -/
theorem body1 {f : Fr_law} {E : DEnds} (hk : ∀ s8 s21, E.nx ({ bs f n rs M with pairs := .ow none .l (PrL (prs rs n)), one := s8, other := s21 } : Fr_law).st) :
    dFor (dItR1 (dCons (dName 3) dNil)) (gN 8) b_law_1 E ({ bs f n rs M with pairs := .ow none .l (.list []) } : Fr_law).st := by
  have q := sl
  let pf : Nat → List (Nat × Nat) := fun i => ((List.range i).flatMap fun a => (List.range' (a + 1) (n - (a + 1))).map fun j => (a, j)).filter fun p => cl rs p.1 p.2
  have pf1 : ∀ i, i < n → pf (i + 1) = pf i ++ ((List.range' (i + 1) (n - (i + 1))).filter fun j => decide (0 < M i j)).map fun j => (i, j) := fun i hi => by
    show ((List.range (i + 1)).flatMap _).filter _ = _
    rw [List.range_succ, List.flatMap_append, List.filter_append, List.flatMap_singleton, List.filter_map]
    congr 2
    refine List.filter_congr fun j hj => ?_
    have hj := List.mem_range'_1.mp hj
    show cl rs i j = _
    have := hM.pos i j hi (by omega)
    have e : gr rs i j = cl rs i j := by unfold gr; rw [decide_eq_true (show i ≠ j by omega), Bool.true_and]
    rw [e] at this
    rw [Bool.eq_iff_iff, decide_eq_true_eq]
    exact this.symm
  have pfl : ∀ i, i ≤ n → (pf i).length ≤ 36 := fun i hi => by
    refine Nat.le_trans (List.length_filter_le _ _) ?_
    have : ((List.range i).flatMap fun a => (List.range' (a + 1) (n - (a + 1))).map fun j => (a, j)).length = ((List.range i).map fun a => n - (a + 1)).sum := by simp [List.length_flatMap]
    rw [this]
    have : ∀ n, n ≤ 6 → ∀ i, i ≤ n → ((List.range i).map fun a => n - (a + 1)).sum ≤ 36 := by decide
    exact this n hn i hi
  refine ⟨⟨by omega, by omega⟩, trivial, ?_⟩
  show dLoop _ _ _ (rangeD 0 1 ((n : Int)).toNat) _
  rw [Int.toNat_natCast]
  refine loop_rg (fun i ρ => i ≤ n ∧ ∃ s8 s21, ρ = ({ bs f n rs M with pairs := .ow none .l (PrL (pf i)), one := s8, other := s21 } : Fr_law).st) ⟨by omega, _, _, rfl⟩ (fun ρ ⟨_, s8, s21, h⟩ => by rw [h]; exact hk _ _) ?_
  rintro i ρ kk hi ⟨_, s8, s21, rfl⟩ next
  refine ⟨⟨⟨by omega, by omega⟩, by omega, by omega⟩, fun p hp => absurd hp List.not_mem_nil, ?_⟩
  have er : rangeD ((i : Int) + 1) 1 ((n : Int) - ((i : Int) + 1)).toNat = (List.range' (i + 1) (n - (i + 1))).map fun j : Nat => PyData.int (j : Int) := by
    rw [← range1_map (i + 1), show (n - (i + 1) : Nat) = ((n : Int) - ((i : Int) + 1)).toNat by omega]
    rfl
  rw [er]
  refine comp_map (fun j => decide (0 < M i j)) (fun j => pr (i, j)) (by simp; omega) trivial (fun j hj kk kn hy hno => ?_) ?_
  · have hj := List.mem_range'_1.mp hj
    exact ⟨_, at_range hi, _, at_range (by omega), ifd (fun h => ⟨(by show 2 ≤ sizeLine; omega), hy (decide_eq_true h)⟩) fun h => hno (decide_eq_false h)⟩
  · have e2 : (((List.range' (i + 1) (n - (i + 1))).filter fun j => decide (0 < M i j)).map fun j => pr (i, j)) = (((List.range' (i + 1) (n - (i + 1))).filter fun j => decide (0 < M i j)).map fun j => (i, j)).map pr := by rw [List.map_map]; rfl
    refine ⟨?_, ?_⟩
    · rw [e2, ← List.length_append, ← List.map_append, ← pf1 i hi, List.length_map]
      have := pfl (i + 1) (by omega)
      omega
    · have := next _ ⟨by omega, .fz (.int i), keepS (some s21), rfl⟩
      rw [pf1 i hi] at this
      unfold PrL at this
      rw [List.map_append, ← e2] at this
      exact this
/-- the orders -/
theorem body2 {f : Fr_law} {E : DEnds} {order : List Nat} {o : D} {s13 : Slot} (hp : order.Perm (List.range n)) (hk : ∀ pl s14, pl.length = n → (∀ x ∈ pl, x < n) → E.nx ({ bs f n rs M with plan := .ow none .l (NL pl), order := .fz (NL order), told_order := s14 } : Fr_law).st) :
    b_law_2 E ({ bs f n rs M with order := .fz (NL order) } : Fr_law).st := by
  have q := sl
  have nd : order.Nodup := hp.nodup_iff.mpr List.nodup_range
  obtain ⟨g, hg⟩ := ff_ex rs order nd
  have hl : order.length = n := by rw [hp.length_eq, List.length_range]
  have hgn : ∀ x ∈ (List.range n).map g, x < n := fun x hx => by
    obtain ⟨e, he, rfl⟩ := List.mem_map.mp hx
    obtain ⟨a, b, e1⟩ := List.append_of_mem (hp.mem_iff.mpr he)
    have := ff_lt hg e1
    have := congrArg List.length e1
    simp at this
    omega
  refine seq_to (({ bs f n rs M with order := .fz (NL order), told_order := .ow none .l (NL order) } : Fr_law).st) (fun kk hkk => hkk) ?_
  refine seq_to (({ bs f n rs M with order := .fz (NL order), told_order := .ow none .l (NL order), plan := .ow none .l (NL ((List.range n).map g)) } : Fr_law).st) (fun kk hkk => ⟨okio0 rfl, n, rs, M, order, g, rfl, hn, hR, hM, hp, hg, hkk⟩) ?_
  exact ⟨okio0 rfl, n, rs, order, g, rfl, hn, hR, hp, hg, okio0 rfl, _, rfl, sm_NL (by simp; omega) (fun x hx => by have := hgn x hx; omega), sh_nats, sh_nats, ne_F nb_nats (hk _ _ (by simp) hgn)⟩
/-- the judge -/
theorem body4 {f : Fr_law} {E : DEnds} {p : List Int} (hp : Pap p) (hk : ∀ s19, E.nx ({ bs f n rs M with told_plan := s19, paper := .fz (IL p) } : Fr_law).st) :
    b_law_4 E ({ bs f n rs M with paper := .fz (IL p) } : Fr_law).st := by
  have hl := hp.1
  refine seq_to (({ bs f n rs M with paper := .fz (IL p), told_plan := .ow none .l (IL p) } : Fr_law).st) (fun kk hkk => hkk) ?_
  exact ⟨okio0 rfl, n, rs, p, rfl, hn, hR, by omega, okio0 rfl, n, rs, M, p, rfl, hn, hR, hM, by omega, okio0 rfl, _, rfl, sm_bool, sh_ints, sh_ints, ne_F nb_ints (hk _)⟩
end
end TL.k50

-- part Pk50h
/-! Pk50h: a lap of the law. -/
namespace TL.k50
open PySem PySem.Spec L2 TL.cm
variable [Lay]
theorem prs_sm {n : Nat} {rs : List (List Nat)} (hn : n ≤ 6) : Sm 9 (PrL (prs rs n)) := sm_PrL (n := 7) (by have := prs_len (rs := rs) hn; omega) fun p hp => by
  obtain ⟨h1, h2, _⟩ := mem_prs.mp hp
  omega
theorem most_perm (n : Nat) (rs : List (List Nat)) : (most n rs).Perm (List.range n) := List.mergeSort_perm ..
theorem body5 {b : D} (hb : BoxD b) {lap : Nat} (hlap : lap < 3) {f_ : Fr_law} {E : DEnds} (hf_ : keepS (some f_.far) = f_.far) (hk : ∀ (f' : Fr_law) b', BoxD b' → keepS (some f'.far) = f'.far → E.nx ({ f' with box := .ow none .l b' } : Fr_law).st) :
    b_law_5 E ({ f_ with box := .ow none .l b, lap := .fz (.int lap) } : Fr_law).st := by
  have q := sl
  refine seq_join (fun ρ => ∃ (n : Nat) (b : D), BoxD b ∧ n ≤ 6 ∧ ρ = ({ f_ with box := .ow none .l b, lap := .fz (.int lap), exams := .fz (.int n) } : Fr_law).st) (fun kk hkk => ?_) ?_
  · refine ⟨okio1 rfl (by show (1 : Nat) ∉ []; simp) trivial, rfl, _, _, rfl, hb, by decide, fun x b1 h1 h2 hb1 => ?_⟩
    refine ⟨rfl, okio1 rfl (by show (1 : Nat) ∉ []; simp) trivial, rfl, _, _, rfl, hb1, by decide, fun y b2 h3 h4 hb2 => ?_⟩
    refine ⟨rfl, okio1 rfl (by show (1 : Nat) ∉ []; simp) trivial, rfl, _, _, rfl, hb2, by decide, fun z b3 h5 h6 hb3 => ?_⟩
    obtain ⟨x, rfl⟩ := Int.eq_ofNat_of_zero_le h1
    obtain ⟨y, rfl⟩ := Int.eq_ofNat_of_zero_le h3
    obtain ⟨z, rfl⟩ := Int.eq_ofNat_of_zero_le h5
    refine ⟨rfl, (by show 3 ≤ sizeLine; omega), ?_⟩
    have : lap = 0 ∨ lap = 1 ∨ lap = 2 := by omega
    rcases this with rfl | rfl | rfl
    · exact ⟨_, rfl, hkk _ ⟨4 + x, b3, hb3, by omega, rfl⟩⟩
    · exact ⟨_, rfl, hkk _ ⟨1 + y, b3, hb3, by omega, rfl⟩⟩
    · exact ⟨_, rfl, hkk _ ⟨z, b3, hb3, by omega, rfl⟩⟩
  rintro ρ ⟨n, b, hb, hn, rfl⟩
  refine seq_join (fun ρ => ∃ (rs : List (List Nat)) (b : D), BoxD b ∧ Rows n rs ∧ ρ = ({ f_ with box := .ow none .l b, lap := .fz (.int lap), exams := .fz (.int n), those := .ow none .l (RL rs) } : Fr_law).st) (fun kk hkk => ⟨okio1 rfl (by show (1 : Nat) ∉ []; simp) trivial, rfl, b, n, rfl, hb, hn, fun rs b' hR hb' => ⟨rfl, hkk _ ⟨rs, b', hb', hR, rfl⟩⟩⟩) ?_
  rintro ρ ⟨rs, b, hb, hR, rfl⟩
  refine seq_to (({ f_ with box := .ow none .l b, lap := .fz (.int lap), exams := .fz (.int n), those := .ow none .l (RL rs), handed := .ow none .l (RL rs) } : Fr_law).st) (fun kk hkk => hkk) ?_
  refine seq_join (fun ρ => ∃ M, Both n rs M ∧ ρ = ({ bs f_ n rs M with box := .ow none .l b, lap := .fz (.int lap) } : Fr_law).st) (fun kk hkk => ⟨okio0 rfl, n, rs, rfl, hn, hR, fun M hM => hkk _ ⟨M, hM, rfl⟩⟩) ?_
  rintro ρ ⟨M, hM, rfl⟩
  refine seq_to (({ bs f_ n rs M with box := .ow none .l b, lap := .fz (.int lap), pairs := .ow none .l (.list []) } : Fr_law).st) (fun kk hkk => ⟨(by show 0 ≤ sizeLine; omega), hkk⟩) ?_
  refine seq_join (fun ρ => ∃ f : Fr_law, ρ = ({ bs f n rs M with box := .ow none .l b, lap := .fz (.int lap), pairs := .ow none .l (PrL (prs rs n)) } : Fr_law).st ∧ keepS (some f.far) = f.far) (fun kk hkk => ?_) ?_
  · exact body1 hn hR hM (f := { f_ with box := .ow none .l b, lap := .fz (.int lap) }) (E := { E with nx := kk }) fun s8 s21 => hkk _ ⟨{ f_ with one := s8, other := s21 }, rfl, hf_⟩
  rintro ρ ⟨f, rfl, hf⟩
  refine seq_join (fun ρ => ∃ f : Fr_law, ρ = ({ bs f n rs M with box := .ow none .l b, lap := .fz (.int lap), pairs := .ow none .l (PrL (prs rs n)), told := .ow none .l (PrL (prs rs n)) } : Fr_law).st ∧ keepS (some f.far) = f.far) (fun kk hkk => ⟨okio0 rfl, n, rs, rfl, hn, hR, hkk _ ⟨f, rfl, hf⟩⟩) ?_
  rintro ρ ⟨f, rfl, hf⟩
  refine seq_to (({ bs f n rs M with box := .ow none .l b, lap := .fz (.int lap), pairs := .ow none .l (PrL (prs rs n)), told := .ow none .l (PrL (prs rs n)) } : Fr_law).st) (fun kk hkk => ⟨okio0 rfl, _, rfl, prs_sm hn, hkk⟩) ?_
  refine seq_to (({ bs f n rs M with box := .ow none .l b, lap := .fz (.int lap), pairs := .ow none .l (PrL (prs rs n)), told := .ow none .l (.list ((prs rs n).map pr ++ [.tuple [.int 0, .int 1]])) } : Fr_law).st) (fun kk hkk => ⟨trivial, (by show 2 ≤ sizeLine; omega), (by rw [List.length_map]; have := prs_len (rs := rs) hn; omega), hkk⟩) ?_
  refine seq_to (({ bs f n rs M with box := .ow none .l b, lap := .fz (.int lap), pairs := .ow none .l (PrL (prs rs n)), told := .ow none .l (.list ((prs rs n).map pr ++ [.tuple [.int 0, .int 1]])) } : Fr_law).st) (fun kk hkk => ⟨sh_int, sh_int, ifb (fun _ => ⟨okio0 rfl, n, rs, rfl, hn, hR, okio0 rfl, _, rfl, prs_sm hn, hkk⟩) fun _ => hkk⟩) ?_
  let G : Fr_law → D → Fr_law := fun f b => { bs f n rs M with box := .ow none .l b, lap := .fz (.int lap) }
  refine seq_join (fun ρ => ∃ f : Fr_law, ρ = ({ G f b with degrees := .ow none .l (.list ((List.range n).map fun e => PyData.int (deg n rs e : Int))) } : Fr_law).st ∧ keepS (some f.far) = f.far) (fun kk hkk => ?_) ?_
  · refine ⟨⟨by omega, by omega⟩, fun p hp => absurd hp List.not_mem_nil, ?_⟩
    show dCompL _ _ _ _ _ _ (rangeD 0 1 ((n : Int)).toNat) _ _
    rw [Int.toNat_natCast]
    refine comp_rgA (fun e => .int (deg n rs e : Int)) (by omega) trivial (fun i hi kk hk => ?_) (hkk _ ⟨{ f with exam := keepS (some f.exam), pairs := _, told := _ }, rfl, hf⟩)
    refine ⟨⟨by omega, by omega⟩, fun p hp => absurd hp List.not_mem_nil, ?_⟩
    show dCompL _ _ _ _ _ _ (rangeD 0 1 ((n : Int)).toNat) _ _
    rw [Int.toNat_natCast]
    refine comp_rg (fun x => decide (0 < M i x)) (fun x => .int (x : Int)) (by omega) trivial (fun x hx kk kn hy hno => ⟨_, at_range hi, _, at_range hx, ifd (fun h => hy (decide_eq_true h)) fun h => hno (decide_eq_false h)⟩) ?_
    have e : (((List.range n).filter fun x => decide (0 < M i x)).map fun x : Nat => PyData.int (x : Int)).length = deg n rs i := by
      rw [List.length_map]
      unfold deg
      congr 1
      refine List.filter_congr fun x hx => ?_
      have := hM.pos i x hi (List.mem_range.mp hx)
      rw [Bool.eq_iff_iff, decide_eq_true_eq]
      exact this
    have e22 : ∀ (P : Slot → Prop), P f.far → P (keepS (some f.far)) := fun P h => by rw [hf]; exact h
    rw [← e] at hk
    exact e22 (fun s => kk _ (wipeR ({ G f b with pairs := .ow none .l (PrL (prs rs n)), told := .ow none .l (.list ((prs rs n).map pr ++ [.tuple [.int 0, .int 1]])), far := s } : Fr_law).st [23])) hk
  rintro ρ ⟨f, rfl, hf⟩
  refine seq_join (fun ρ => ∃ f : Fr_law, ρ = ({ G f b with most := .ow none .l (NL (most n rs)) } : Fr_law).st ∧ keepS (some f.far) = f.far) (fun kk hkk => ?_) ?_
  · refine ⟨⟨by omega, by omega⟩, fun p hp => absurd hp List.not_mem_nil, ?_⟩
    show dCompL _ _ _ _ _ _ (rangeD 0 1 ((n : Int)).toNat) _ _
    rw [Int.toNat_natCast]
    refine comp_rgA (fun e => mkey n rs e) (by omega) trivial (fun i hi kk hk => ⟨_, at_range hi, (by show 2 ≤ sizeLine; omega), hk⟩) ?_
    refine ⟨⟨by simp; omega, PySem.W.AllAlike.of fun a b => rfl, PySem.W.Sortable.tuples fun b => ⟨_, _, rfl⟩, fun d hd => ?_⟩, fun p hp => absurd hp List.not_mem_nil, ?_⟩
    · obtain ⟨i, _, rfl⟩ := List.mem_map.mp hd
      exact ⟨by simp [mkey, PyData.depth, PyData.depthAll], rfl⟩
    · have e : sortedBy id ((List.range n).map (mkey n rs)) = (most n rs).map (mkey n rs) := by
        unfold sortedBy most
        rw [List.map_mergeSort (r := PySem.W.dataLe false (mkey n rs)) (s := PySem.W.dataLe false id) (f := mkey n rs) (fun a _ b _ => rfl)]
      rw [e]
      refine comp_mapA (fun e => .int (e : Int)) (by have := (most_perm n rs).length_eq; simp at this; omega) trivial (fun e he kk hk => ⟨rfl, hk⟩) (hkk _ ⟨{ f with degrees := _, exam := keepS (some (keepS (some f.exam))), minus := keepS (some f.minus) }, rfl, hf⟩)
  rintro ρ ⟨f, rfl, hf⟩
  have hmp := most_perm n rs
  have hml : (most n rs).length = n := by rw [hmp.length_eq, List.length_range]
  have hmm : ∀ x ∈ most n rs, x < n := fun x hx => List.mem_range.mp (hmp.mem_iff.mp hx)
  refine seq_to (({ G f b with most := .ow none .l (NL (most n rs)) } : Fr_law).st) (fun kk hkk => ⟨okio0 rfl, n, rs, rfl, hn, hR, okio0 rfl, _, rfl, sm_NL (by omega) (fun x hx => by have := hmm x hx; omega), hkk⟩) ?_
  refine seq_to (({ G f b with most := .ow none .l (NL (most n rs)), plan := .ow none .l (NL []) } : Fr_law).st) (fun kk hkk => ⟨(by show 0 ≤ sizeLine; omega), hkk⟩) ?_
  refine seq_join (fun ρ => ∃ (f : Fr_law) (b : D) (pl : List Nat), BoxD b ∧ pl.length = n ∧ (∀ x ∈ pl, x < n) ∧ ρ = ({ G f b with plan := .ow none .l (NL pl) } : Fr_law).st ∧ keepS (some f.far) = f.far) (fun kk hkk => ?_) ?_
  · refine ⟨⟨⟨by omega, by omega⟩, ⟨by omega, by omega⟩, by omega⟩, okio1 rfl (by show (1 : Nat) ∉ []; simp) trivial, rfl, _, _, rfl, hb, by rw [rangeD_len]; omega, fun r b' hr hb' => ?_⟩
    rw [show ((n : Int) - 0).toNat = n by omega, range0_map] at hr
    obtain ⟨fr, rfl, hfr⟩ := perm_map hr rfl
    refine ⟨rfl, (by show 2 ≤ sizeLine; omega), trivial, ?_⟩
    show dLoop _ _ _ ([fr, most n rs].map NL) _
    refine loop_map (fun done _ ρ => ∃ (f : Fr_law) (pl : List Nat), ρ = ({ G f b' with plan := .ow none .l (NL pl) } : Fr_law).st ∧ keepS (some f.far) = f.far ∧ (done ≠ [] → pl.length = n ∧ ∀ x ∈ pl, x < n)) ⟨{ f with most := .fz (NL (most n rs)) }, [], rfl, hf, fun z => absurd rfl z⟩ ?_ ?_
    · rintro ρ ⟨f, pl, rfl, hf, h⟩
      have := h (by simp)
      exact hkk _ ⟨f, b', pl, hb', this.1, this.2, rfl, hf⟩
    · rintro done o rest ρ kk2 he ⟨f, pl, rfl, hf, -⟩ next
      have ho : o.Perm (List.range n) := by
        have : o ∈ [fr, most n rs] := by rw [he]; simp
        simp only [List.mem_cons, List.not_mem_nil, or_false] at this
        rcases this with rfl | rfl
        · exact hfr
        · exact hmp
      exact body2 hn hR hM (f := { G f b' with plan := .ow none .l (NL pl) }) (E := { nx := _, rt := _, bk := _, ct := _ }) (o := .none) (s13 := .un) ho fun pl2 s14 h1 h2 => next _ ⟨{ f with order := _, told_order := s14 }, pl2, rfl, hf, fun _ => ⟨h1, h2⟩⟩
  rintro ρ ⟨f, b, pl, hb, hpl, hplm, rfl, hf⟩
  refine seq_join (fun ρ => ∃ (b : D) (dys : List Nat), BoxD b ∧ dys.Perm (List.range (n + 1)) ∧ ρ = ({ G f b with plan := .ow none .l (NL pl), days := .ow none .l (NL dys) } : Fr_law).st) (fun kk hkk => ?_) ?_
  · refine ⟨⟨⟨by omega, by omega⟩, ⟨by omega, by omega⟩, by omega⟩, okio1 rfl (by show (1 : Nat) ∉ []; simp) trivial, rfl, _, _, rfl, hb, by rw [rangeD_len]; omega, fun r b' hr hb' => ?_⟩
    rw [show ((n : Int) + 1 - 0).toNat = n + 1 by omega, range0_map] at hr
    obtain ⟨fr, rfl, hfr⟩ := perm_map hr rfl
    exact ⟨rfl, hkk _ ⟨b', fr, hb', hfr, rfl⟩⟩
  rintro ρ ⟨b, dys, hb, hdys, rfl⟩
  have hdl : dys.length = n + 1 := by rw [hdys.length_eq, List.length_range]
  have hdm : ∀ x ∈ dys, x ≤ n := fun x hx => by have := List.mem_range.mp (hdys.mem_iff.mp hx); omega
  refine seq_join (fun ρ => ∃ (f : Fr_law) (pl : List Nat), pl.length = n ∧ (∀ x ∈ pl, x ≤ n) ∧ ρ = ({ G f b with plan := .ow none .l (NL pl) } : Fr_law).st ∧ keepS (some f.far) = f.far) (fun kk hkk => ?_) ?_
  · refine ⟨fun q hq => by rw [List.mem_singleton.mp hq]; show (12 : Nat) ∉ [16]; decide, ?_⟩
    have gd : ∀ x ∈ pl, dys[x]? = some (dys.getD x 0) := fun x hx => by have := hplm x hx; rw [List.getD_eq_getElem?_getD, List.getElem?_eq_getElem (by omega)]; rfl
    refine comp_mapA (fun x : Nat => .int (dys.getD x 0 : Nat)) (by omega) ⟨rfl, trivial⟩ (fun x hx kk hk => ⟨_, at_map (gd x hx), hk⟩) ?_
    have e : pl.map (fun x : Nat => PyData.int (dys.getD x 0 : Nat)) = (pl.map fun x => dys.getD x 0).map fun m : Nat => PyData.int (m : Int) := by rw [List.map_map]; rfl
    rw [e]
    exact hkk _ ⟨{ f with days := _, day := keepS (some f.day) }, pl.map fun x => dys.getD x 0, by simp [hpl], fun x hx => by
      obtain ⟨y, hy, rfl⟩ := List.mem_map.mp hx
      exact hdm _ (List.mem_of_getElem? (gd y hy)), rfl, hf⟩
  clear hpl hplm
  rintro ρ ⟨f, pl, hpl, hplm, rfl, hf⟩
  refine seq_join (fun ρ => ∃ (f : Fr_law) (b : D), BoxD b ∧ ρ = ({ G f b with plan := .ow none .l (NL pl) } : Fr_law).st ∧ keepS (some f.far) = f.far) (fun kk hkk => ?_) ?_
  · have fin : ∀ (b' : D) (v1 v2 : Nat), BoxD b' → dLoop (gN 16) b_law_3 { E with nx := kk } ([v1, v2].map fun m : Nat => PyData.int (m : Int)) (({ G f b' with plan := .ow none .l (NL pl) } : Fr_law).st) := fun b' v1 v2 hb' => by
      refine loop_map (fun _ _ ρ => ∃ (f : Fr_law), ρ = ({ G f b' with plan := .ow none .l (NL pl) } : Fr_law).st ∧ keepS (some f.far) = f.far) ⟨f, rfl, hf⟩ (fun ρ ⟨f, h, hf⟩ => hkk ρ ⟨f, b', hb', h, hf⟩) ?_
      rintro done v rest ρ kk2 he ⟨f, rfl, hf⟩ next
      exact body3 hn hR hM (f := { G f b' with plan := .ow none .l (NL pl) }) (E := { nx := _, rt := _, bk := _, ct := _ }) (plan := pl) (day := v) hpl hf fun s17 s18 s19 s23 => next _ ⟨{ f with day := _, there := s17, fit := s18, told_plan := s19, exam := s23 }, rfl, hf⟩
    refine ifd (fun h => ?_) fun h => ?_
    · refine ⟨okio1 rfl (by show (1 : Nat) ∉ []; simp) trivial, rfl, _, _, rfl, hb, h, fun x b1 h1 h2 hb1 => ?_⟩
      obtain ⟨x, rfl⟩ := Int.eq_ofNat_of_zero_le h1
      have e1 : pl[x]? = some (pl[x]'(by omega)) := List.getElem?_eq_getElem (by omega)
      generalize pl[x]'(by omega) = v1 at e1
      refine ⟨rfl, _, at_map e1, okio1 rfl (by show (1 : Nat) ∉ []; simp) trivial, rfl, _, _, rfl, hb1, by omega, fun y b2 h3 h4 hb2 => ?_⟩
      obtain ⟨y, rfl⟩ := Int.eq_ofNat_of_zero_le h3
      exact ⟨rfl, (by show 2 ≤ sizeLine; omega), trivial, fin b2 v1 y hb2⟩
    · refine ⟨okio1 rfl (by show (1 : Nat) ∉ []; simp) trivial, rfl, _, _, rfl, hb, by omega, fun y b2 h3 h4 hb2 => ?_⟩
      obtain ⟨y, rfl⟩ := Int.eq_ofNat_of_zero_le h3
      exact ⟨rfl, (by show 2 ≤ sizeLine; omega), trivial, fin b2 0 y hb2⟩
  rintro ρ ⟨f, b, hb, rfl, hf⟩
  let cs : List Int := pl.map (fun x => (pl.count x : Int)) ++ [0]
  obtain ⟨m, hm1, hm2⟩ := has_max (ns := cs) (by simp [cs])
  have hm0 : 0 ≤ m := hm2 0 (by simp [cs])
  have hmx : ∀ x ∈ pl, (pl.count x : Int) ≤ m := fun x hx => hm2 _ (List.mem_append_left _ (List.mem_map.mpr ⟨x, hx, rfl⟩))
  have hmc : m = 0 ∨ ∃ x ∈ pl, m = pl.count x := by
    rcases List.mem_append.mp hm1 with z | z
    · obtain ⟨x, hx, rfl⟩ := List.mem_map.mp z
      exact .inr ⟨x, hx, rfl⟩
    · exact .inl (List.mem_singleton.mp z)
  have hm6 : m ≤ 6 := by
    rcases hmc with rfl | ⟨x, hx, rfl⟩
    · omega
    · have := List.count_le_length (a := x) (l := pl); omega
  refine seq_join (fun ρ => ∃ (f : Fr_law), ρ = ({ G f b with plan := .ow none .l (NL pl) } : Fr_law).st ∧ keepS (some f.far) = f.far) (fun kk hkk => ?_) ?_
  · refine ⟨okio0 rfl, pl, m, rfl, by omega, hmc, ⟨hm0, hmx⟩, ?_⟩
    refine ⟨fun q hq => by rw [List.mem_singleton.mp hq]; show (12 : Nat) ∉ [16]; decide, ?_⟩
    refine comp_mapA (fun x : Nat => .int (pl.count x : Int)) (by omega) ⟨rfl, trivial⟩ (fun x hx kk hk => ?_) ?_
    · refine ⟨fun q hq => by rw [List.mem_singleton.mp hq]; show (12 : Nat) ∉ [22]; decide, ?_⟩
      refine comp_map (fun y => decide (y = x)) (fun _ => .int 1) (by omega) ⟨rfl, trivial⟩ (fun y hy kk kn hyes hno => ⟨sh_int, sh_int, ifb (fun h => ?_) fun h => ?_⟩) ?_
      · rw [eqv_int, decide_eq_true_eq] at h
        exact hyes (decide_eq_true (Int.ofNat_inj.mp h))
      · rw [eqv_int, decide_eq_false_iff_not] at h
        exact hno (decide_eq_false fun z => h (by rw [z]))
      · have e : ((pl.filter fun y => decide (y = x)).map fun _ => PyData.int 1).length = pl.count x := by
          rw [List.length_map, List.count_eq_length_filter]
          congr 1
        have e22 : ∀ (P : Slot → Prop), P f.far → P (keepS (some f.far)) := fun P h => by rw [hf]; exact h
        rw [← e] at hk
        exact e22 (fun s => kk _ (wipeR ({ G f b with plan := .ow none .l (NL pl), far := s } : Fr_law).st [16])) hk
    · refine ⟨(by show 1 ≤ sizeLine; omega), (by simp; omega), cs, ?_, by simp [cs], fun m' h1 h2 => ?_⟩
      · show intsOf ((pl.map fun x => PyData.int (pl.count x : Int)) ++ [0].map PyData.int) = _
        rw [← intsOf_map, List.map_append, List.map_map]
        rfl
      · have e : m' = m := by
          have := h2 m hm1
          have := hm2 m' h1
          omega
        subst e
        exact ⟨okio0 rfl, _, rfl, sm_int (by omega), hkk _ ⟨{ f with day := keepS (some f.day) }, rfl, hf⟩⟩
  rintro ρ ⟨f, rfl, hf⟩
  refine seq_join (fun ρ => ∃ (f : Fr_law) (b : D), BoxD b ∧ ρ = ({ G f b with plan := .ow none .l (NL pl) } : Fr_law).st ∧ keepS (some f.far) = f.far) (fun kk hkk => ?_) ?_
  · refine ⟨okio1 rfl (by show (1 : Nat) ∉ [12]; decide) trivial, rfl, b, n, pl, rfl, hb, hn, hpl, fun x hx => by have := hplm x hx; omega, fun ps b' h1 h2 hb' => ⟨rfl, trivial, ?_⟩⟩
    refine loop_map (fun _ _ ρ => ∃ (f : Fr_law), ρ = ({ G f b' with plan := .ow none .l (NL pl) } : Fr_law).st ∧ keepS (some f.far) = f.far) ⟨f, rfl, hf⟩ (fun ρ ⟨f, h, hf⟩ => hkk ρ ⟨f, b', hb', h, hf⟩) ?_
    rintro done p rest ρ kk2 he ⟨f, rfl, hf⟩ next
    exact body4 hn hR hM (f := { G f b' with plan := .ow none .l (NL pl) }) (E := { nx := _, rt := _, bk := _, ct := _ }) (p := p) (h1 p (by rw [he]; simp)) fun s19 => next _ ⟨{ f with told_plan := s19, paper := _ }, rfl, hf⟩
  rintro ρ ⟨f, b, hb, rfl, hf⟩
  exact ⟨sh_RL _, sh_RL _, ne_F (nb_RL _) (hk ({ G f b with plan := .ow none .l (NL pl) }) b hb hf)⟩
end TL.k50

-- part Pk50
/-! Pk50: the law. -/
namespace TL.k50
open PySem PySem.Spec L2 TL.cm
variable [Lay]
theorem ff_of {rs : List (List Nat)} {order : List Nat} {f : Nat → Nat} (h : ∀ k, k < order.length → (∀ x ∈ order.take k, gr rs (order.getD k 0) x = true → f x ≠ f (order.getD k 0)) ∧ ∀ d, d < f (order.getD k 0) → ∃ x ∈ order.take k, gr rs (order.getD k 0) x = true ∧ f x = d) : FF rs order f := fun done e rest he => by
  subst he
  have := h done.length (by simp)
  simpa using this
theorem most3 : most 3 [[1, 2]] = [1, 2, 0] := by
  show (List.range 3).mergeSort (PySem.W.dataLe false fun e : Nat => .tuple [.int (-(deg 3 [[1, 2]] e : Int)), .int (e : Int)]) = _
  rw [PySem.W.dataLe_ii]
  refine sort_is (fun a b c h1 h2 => ?_) (fun a b => ?_) (fun a b h1 h2 => ?_) (by decide) (by decide)
  · simp only [decide_eq_true_eq] at h1 h2 ⊢
    omega
  · simp only [Bool.or_eq_true, decide_eq_true_eq]
    omega
  · simp only [decide_eq_true_eq] at h1 h2
    omega
theorem p_law : Ok_law := by
  rintro ds k as ⟨ns, rfl, hk⟩ - ha
  obtain rfl := as0 ha
  have q := sl
  let f0 : Fr_law := ⟨.fz (scrD ns), .un, .un, .un, .un, .un, .un, .un, .un, .un, .un, .un, .un, .un, .un, .un, .un, .un, .un, .un, .un, .un, .un, .un, .un⟩
  refine seq_join (fun ρ => ∃ b, BoxD b ∧ ρ = ({ f0 with box := .ow none .l b } : Fr_law).st) (fun kk hkk => ?_) ?_
  · exact ⟨okio0 rfl, ns, 0, 20, rfl, by decide, by decide, by decide, fun r h1 h2 => ⟨(by show 2 ≤ sizeLine; decide), hkk _ ⟨_, ⟨r, 0, rfl, h2, by decide⟩, rfl⟩⟩⟩
  rintro ρ ⟨b, hb, rfl⟩
  refine seq_join (fun ρ => ∃ f : Fr_law, ρ = f.st) (fun kk hkk => ?_) ?_
  · refine ⟨⟨by decide, by decide⟩, trivial, ?_⟩
    show dLoop _ _ _ (rangeD 0 1 3) _
    refine loop_rg (fun i ρ => ∃ (f : Fr_law) (b : D), BoxD b ∧ keepS (some f.far) = f.far ∧ ρ = ({ f with box := .ow none .l b } : Fr_law).st) ⟨f0, b, hb, rfl, rfl⟩ (fun ρ ⟨f, b, hb, _, h⟩ => hkk ρ ⟨{ f with box := .ow none .l b }, h⟩) ?_
    rintro i ρ kk' hi ⟨f, b, hb, hf, rfl⟩ next
    exact body5 hb hi (f_ := f) (E := { nx := _, rt := _, bk := _, ct := _ }) hf fun f' b' hb' hf' => next _ ⟨f', b', hb', hf', rfl⟩
  rintro ρ ⟨f, rfl⟩
  have r1 : right 2 [[0, 1]] [3, 3] = false := by decide
  have r2 : right 2 [[0], [1]] [3, 3] = true := by decide
  have r3 : right 1 [] [-1] = false := by decide
  refine seq_to f.st (fun kk hkk => ?_) ?_
  · refine ⟨(by show 2 ≤ sizeLine; omega), (by show 1 ≤ sizeLine; omega), (by show 2 ≤ sizeLine; omega), okio0 rfl, 2, [[0, 1]], [3, 3], rfl, by decide, ⟨by decide, by decide⟩, by decide, ?_⟩
    rw [r1]
    refine ⟨(by show 1 ≤ sizeLine; omega), (by show 1 ≤ sizeLine; omega), (by show 2 ≤ sizeLine; omega), (by show 2 ≤ sizeLine; omega), okio0 rfl, 2, [[0], [1]], [3, 3], rfl, by decide, ⟨by decide, by decide⟩, by decide, ?_⟩
    rw [r2]
    refine ⟨(by show 0 ≤ sizeLine; omega), (by show 1 ≤ sizeLine; omega), okio0 rfl, 1, [], [-1], rfl, by decide, ⟨by decide, by decide⟩, by decide, ?_⟩
    rw [r3]
    exact hkk
  refine seq_to f.st (fun kk hkk => ?_) ?_
  · refine ⟨(by show 2 ≤ sizeLine; omega), (by show 2 ≤ sizeLine; omega), (by show 2 ≤ sizeLine; omega), (by show 2 ≤ sizeLine; omega), (by show 4 ≤ sizeLine; omega), (by show 4 ≤ sizeLine; omega), okio0 rfl, 4, [[0, 3], [1, 2], [1, 3], [0, 2]], [0, 3, 1, 2], (fun e => if e ≤ 1 then 0 else 1), rfl, by decide, ⟨by decide, by decide⟩, by decide, ff_of (by decide), ?_⟩
    exact ⟨(by show 4 ≤ sizeLine; omega), okio0 rfl, NL [0, 0, 1, 1], rfl, sm_NL (by decide) (by decide), hkk⟩
  refine ⟨(by show 2 ≤ sizeLine; omega), (by show 1 ≤ sizeLine; omega), okio0 rfl, 3, [[1, 2]], rfl, by decide, ⟨by decide, by decide⟩, ?_⟩
  rw [most3]
  refine ⟨(by show 3 ≤ sizeLine; omega), okio0 rfl, NL [1, 2, 0], rfl, sm_NL (by decide) (by decide), ?_⟩
  refine ⟨(by show 3 ≤ sizeLine; omega), (by show 2 ≤ sizeLine; omega), (by show 2 ≤ sizeLine; omega), okio0 rfl, 3, [[0, 1, 2], [0, 2]], rfl, by decide, ⟨by decide, by decide⟩, ?_⟩
  have e : prs [[0, 1, 2], [0, 2]] 3 = [(0, 1), (0, 2), (1, 2)] := by decide
  rw [e]
  exact ⟨(by show 2 ≤ sizeLine; omega), (by show 2 ≤ sizeLine; omega), (by show 2 ≤ sizeLine; omega), (by show 3 ≤ sizeLine; omega), okio0 rfl, PrL [(0, 1), (0, 2), (1, 2)], rfl, sm_PrL (by decide) (by decide), hk⟩
end TL.k50

-- part Hk50a
/-! Hk50a: _law_both as a reading: a list of lists of numbers that are written. -/
namespace TL.k50
open PySem PySem.Spec L2 TL.cm
open Evl (Ex ex_l ex_t)
/-- a walk over what stands -/
theorem it_ind {J : It} {xs : List V} {g : TG} {tb : TS} {D : Ends} (Good : Hp → Prop) (hJ : ∀ H, Good H → (∀ i, xs.length ≤ i → J.stop i H) ∧ ∀ i x, xs[i]? = some x → J.go i H ∧ ∀ y H', J.yld i H y H' → H' = H ∧ y = x) (I : Nat → L2.St → Hp → Prop) (hg : ∀ i σ H, I i σ H → Good H) {σ : L2.St} {H : Hp} (h0 : I 0 σ H)
    (hend : ∀ σ H, I xs.length σ H → D.nx σ H) (step : ∀ i x σ H, xs[i]? = some x → I i σ H → g x σ H fun σ2 H2 => tb { D with nx := I (i + 1), ct := I (i + 1), bk := D.nx } σ2 H2) :
    ∃ W : Nat → Nat → L2.St → Hp → Prop, (∃ m, W 0 m σ H) ∧ ∀ i m σ H, W i m σ H → (J.stop i H ∧ D.nx σ H) ∨ (J.go i H ∧ ∃ N : L2.St → Hp → Prop, (∀ σ' H', N σ' H' → ∃ m', m' < m ∧ W (i + 1) m' σ' H') ∧ ∀ x H', J.yld i H x H' → g x σ H' fun σ2 H2 => tb { D with nx := N, ct := N, bk := D.nx } σ2 H2) := by
  refine ⟨fun i m σ H => m = xs.length - i ∧ i ≤ xs.length ∧ I i σ H, ⟨xs.length, by simp, Nat.zero_le _, h0⟩, ?_⟩
  rintro i m σ H ⟨rfl, hi, h⟩
  obtain ⟨j1, j2⟩ := hJ H (hg _ _ _ h)
  by_cases hl : i < xs.length
  · have hx := List.getElem?_eq_getElem hl
    obtain ⟨go, yl⟩ := j2 i _ hx
    refine .inr ⟨go, I (i + 1), fun σ' H' z => ⟨xs.length - (i + 1), by omega, rfl, hl, z⟩, fun x H' hy => ?_⟩
    obtain ⟨rfl, rfl⟩ := yl x H' hy
    exact step i _ σ H' hx h
  · have : i = xs.length := by omega
    subst this
    exact .inl ⟨j1 _ (Nat.le_refl _), hend σ H h⟩
theorem itl_ok {K : PySem.W.Frag} {H : Hp} {a : Addr} {xs : List V} (h : ∀ ys, SqL K H a ys ↔ ys = xs) : (∀ i, xs.length ≤ i → (Itl K a).stop i H) ∧ ∀ i x, xs[i]? = some x → (Itl K a).go i H ∧ ∀ y H', (Itl K a).yld i H y H' → H' = H ∧ y = x :=
  ⟨fun i hi => ⟨xs, (h xs).mpr rfl, hi⟩, fun i x hx => ⟨⟨xs, x, (h xs).mpr rfl, hx⟩, fun y H' ⟨e, hy⟩ => ⟨e, by have := hy xs ((h xs).mpr rfl); rw [hx] at this; exact (Option.some.inj this).symm⟩⟩⟩
theorem itl_ok' {K : PySem.W.Frag} {H : Hp} {a : Addr} {xs : List V} (h : SqL K H a xs) : (∀ i, xs.length ≤ i → (Itl K a).stop i H) ∧ ∀ i x, xs[i]? = some x → (Itl K a).go i H ∧ ∀ y H', (Itl K a).yld i H y H' → H' = H ∧ y = x :=
  ⟨fun i hi => ⟨xs, h, hi⟩, fun i x hx => ⟨⟨xs, x, h, hx⟩, fun y H' ⟨e, hy⟩ => ⟨e, by have := hy xs h; rw [hx] at this; exact (Option.some.inj this).symm⟩⟩⟩
theorem itt_ok {K : PySem.W.Frag} {H : Hp} {a : Addr} {xs : List V} (h : SqT K H a xs) : (∀ i, xs.length ≤ i → (Itt K a).stop i H) ∧ ∀ i x, xs[i]? = some x → (Itt K a).go i H ∧ ∀ y H', (Itt K a).yld i H y H' → H' = H ∧ y = x :=
  ⟨fun i hi => ⟨xs, h, hi⟩, fun i x hx => ⟨⟨xs, x, h, hx⟩, fun y H' ⟨e, hy⟩ => ⟨e, by have := hy xs h; rw [hx] at this; exact (Option.some.inj this).symm⟩⟩⟩
abbrev rng0 : TI := iRng1 (tCons (tVar 0) tNil)
/-- [0 for far in range(n)] -/
theorem in_lc {σ : L2.St} {H : Hp} {Q : VK} {n : Nat} (h0 : σ[0]? = some (some (.int (n : Int)))) (hn : n ≤ 6) (fin : ∀ (L : Addr) (H' : Hp), Ex H H' → H L = none → H' L = some (.lst (List.replicate n (.int 0))) → Q (.ref L) H') :
    tLc rng0 (gName 6) tYes (tC (.int 0)) [6] σ H Q := by
  refine ⟨_, h0, n, rfl, by omega, by omega, fun L hL => ?_⟩
  refine ⟨fun i m H' => m = n - i ∧ i ≤ n ∧ Ex H H' ∧ H' L = some (.lst (List.replicate i (.int 0))), ⟨n, by simp, Nat.zero_le _, Ex.new hL, upd_same⟩, ?_⟩
  rintro i m H' ⟨rfl, hi, e, hl⟩
  by_cases hlt : i < n
  · refine .inr ⟨(by show i < ((n : Int)).toNat; omega), fun H' => i + 1 ≤ n ∧ Ex H H' ∧ H' L = some (.lst (List.replicate (i + 1) (.int 0))), fun H' z => ⟨n - (i + 1), by omega, rfl, z⟩, fun x H2 hy => ?_⟩
    obtain ⟨rfl, rfl⟩ := hy
    refine ⟨?_, ?_⟩
    · show ((σ.set 6 none).set 6 _).set 6 none = σ.set 6 none
      rw [List.set_set, List.set_set]
    · show ∃ acc, H2 L = some (.lst acc) ∧ acc.length < sizeLine ∧ _
      refine ⟨_, hl, by rw [List.length_replicate]; show i < 16777216; omega, hlt, fun b o hb => ?_, ?_⟩
      · rw [upd_ne (fun z => by rw [z, hL] at hb; cases hb)]
        exact e b o hb
      · rw [upd_same, List.replicate_succ']
  · have : i = n := by omega
    subst this
    exact .inl ⟨(by show ((i : Int)).toNat ≤ i; omega), fin L H' e hL hl⟩
/-- [[0 for far in range(n)] for exam in range(n)] -/
theorem out_lc {σ : L2.St} {H : Hp} {Q : VK} {n : Nat} (h0 : σ[0]? = some (some (.int (n : Int)))) (hn : n ≤ 6)
    (fin : ∀ (L : Addr) (bs : List Addr) (H' : Hp), Ex H H' → H L = none → bs.length = n → bs.Nodup → L ∉ bs → H' L = some (.lst (bs.map .ref)) → (∀ b ∈ bs, H b = none ∧ H' b = some (.lst (List.replicate n (.int 0)))) → Q (.ref L) H') :
    tLc rng0 (gName 7) tYes (tLc rng0 (gName 6) tYes (tC (.int 0)) [6]) [7] σ H Q := by
  refine ⟨_, h0, n, rfl, by omega, by omega, fun L hL => ?_⟩
  let J : Nat → Hp → Prop := fun i H' => i ≤ n ∧ Ex H H' ∧ ∃ bs : List Addr, bs.length = i ∧ bs.Nodup ∧ L ∉ bs ∧ H' L = some (.lst (bs.map .ref)) ∧ ∀ b ∈ bs, H b = none ∧ H' b = some (.lst (List.replicate n (.int 0)))
  refine ⟨fun i m H' => m = n - i ∧ J i H', ⟨n, by simp, Nat.zero_le _, Ex.new hL, [], rfl, List.nodup_nil, by simp, upd_same, fun b hb => absurd hb List.not_mem_nil⟩, ?_⟩
  rintro i m H' ⟨rfl, hi, e, bs, b1, b2, b3, b4, b5⟩
  by_cases hlt : i < n
  · refine .inr ⟨(by show i < ((n : Int)).toNat; omega), J (i + 1), fun H' z => ⟨n - (i + 1), by omega, rfl, z⟩, fun x H2 hy => ?_⟩
    obtain ⟨rfl, rfl⟩ := hy
    refine ⟨?_, ?_⟩
    · show ((σ.set 7 none).set 7 _).set 7 none = σ.set 7 none
      rw [List.set_set, List.set_set]
    · show tLc rng0 (gName 6) tYes (tC (.int 0)) [6] ((σ.set 7 none).set 7 (some (.int (0 + (i : Int))))) H2 fun y H4 => ∃ acc, H4 L = some (.lst acc) ∧ acc.length < sizeLine ∧ J (i + 1) (upd H4 L (.lst (acc ++ [y])))
      refine in_lc (n := n) ?_ hn fun L2 H4 e4 f4 g4 => ⟨_, e4 _ _ b4, by rw [List.length_map]; show bs.length < 16777216; omega, hlt, fun b o hb => ?_, bs ++ [L2], by simp [b1], ?_, ?_, ?_, fun b hb => ?_⟩
      · show ((σ.set 7 none).set 7 _)[0]? = _
        rw [List.getElem?_set_ne (by decide), List.getElem?_set_ne (by decide)]
        exact h0
      · rw [upd_ne (fun z => by rw [z, hL] at hb; cases hb)]
        exact e4 _ _ (e b o hb)
      · rw [List.nodup_append]
        refine ⟨b2, by simp, fun x hx y hy z => ?_⟩
        rw [List.mem_singleton.mp hy] at z
        have := (b5 x hx).2
        rw [z, f4] at this
        cases this
      · intro z
        rcases List.mem_append.mp z with z | z
        · exact b3 z
        · rw [List.mem_singleton.mp z, f4] at b4
          cases b4
      · rw [upd_same, List.map_append]
        rfl
      · have hbL : b ≠ L := fun z => by
          rcases List.mem_append.mp hb with y | y
          · exact b3 (z ▸ y)
          · rw [List.mem_singleton.mp y] at z
            rw [z, b4] at f4
            cases f4
        rw [upd_ne hbL]
        rcases List.mem_append.mp hb with y | y
        · exact ⟨(b5 b y).1, e4 _ _ (b5 b y).2⟩
        · rw [List.mem_singleton.mp y]
          refine ⟨?_, g4⟩
          cases q : H L2 with
          | none => rfl
          | some o => rw [e L2 o q] at f4; cases f4
  · have : i = n := by omega
    subst this
    exact .inl ⟨(by show ((i : Int)).toNat ≤ i; omega), fin L bs H' e hL b1 b2 b3 b4 b5⟩
end TL.k50

-- part Hk50b
/-! Hk50b: the loops of _law_both. -/
namespace TL.k50
open PySem PySem.Spec L2 TL.cm
open Evl (Ex ex_l ex_t)
variable [Lay]
/-- the lists of lists as they stand -/
structure MI (H0 : Hp) (L : Addr) (bs : List Addr) (n : Nat) (M : Nat → Nat → Int) (H : Hp) : Prop where
  ex : Ex H0 H
  out : H L = some (.lst (bs.map .ref))
  inn : ∀ (i : Nat) b, bs[i]? = some b → H b = some (.lst ((List.range n).map fun j => V.int (M i j)))
abbrev tAdd1 (K : PySem.W.Frag) : TE := tOp (rI0 fun i j => .int (i + j)) (tOp (rIx K) (tOp (rIx K) (tVar 2) (tVar 4)) (tVar 5)) (tC (.int 1))
abbrev tSt (K : PySem.W.Frag) : TS := tAsg (tAdd1 K) (L2.gSub (tOp (rIx K) (tVar 2) (tVar 4)) (tVar 5) rSetL)
abbrev tBody (K : PySem.W.Frag) : TS := tIfS (tTest (tOp rNe (tVar 4) (tVar 5))) (tSt K) tNext
abbrev tF3 (K : PySem.W.Frag) : TS := tFor (iTup K (tVar 3)) (gName 5) (tBody K)
abbrev tF2 (K : PySem.W.Frag) : TS := tFor (iTup K (tVar 3)) (gName 4) (tF3 K)
abbrev tF1 (K : PySem.W.Frag) : TS := tFor (iList K (tVar 1)) (gName 3) (tF2 K)
theorem at_v {α : Type} {xs : List α} {i : Nat} {x : α} (h : xs[i]? = some x) : atI xs (i : Int) = some x := atI_of (by omega) (by rw [Int.toNat_natCast]; exact h)
section
variable {K : PySem.W.Frag} {H0 : Hp} {L a : Addr} {bs : List Addr} {n : Nat} (hb : bs.length = n) (nd : bs.Nodup) (hL : L ∉ bs) (fL : H0 L = none) (fb : ∀ b ∈ bs, H0 b = none)
/-- what the names hold all the while -/
structure SG (L a : Addr) (n : Nat) (σ : L2.St) : Prop where
  n0 : σ[0]? = some (some (.int (n : Int)))
  a1 : σ[1]? = some (some (.ref a))
  l2 : σ[2]? = some (some (.ref L))
  len : σ.length = 8
theorem SG.set {σ : L2.St} (h : SG L a n σ) {i : Nat} {x : Option V} (hi : 3 ≤ i) : SG L a n (σ.set i x) :=
  ⟨by rw [List.getElem?_set_ne (by omega)]; exact h.n0, by rw [List.getElem?_set_ne (by omega)]; exact h.a1, by rw [List.getElem?_set_ne (by omega)]; exact h.l2, by rw [List.length_set]; exact h.len⟩
include hb nd hL fb in
theorem st_ok {M : Nat → Nat → Int} {H : Hp} {σ : L2.St} {D : Ends} {i j : Nat} (m : MI H0 L bs n M H) (s : SG L a n σ) (h4 : σ[4]? = some (some (.int (i : Int)))) (h5 : σ[5]? = some (some (.int (j : Int)))) (hi : i < n) (hj : j < n)
    (fin : ∀ H', MI H0 L bs n (fun x y => if x = i ∧ y = j then M x y + 1 else M x y) H' → D.nx σ H') : tSt K D σ H := by
  have eb : bs[i]? = some (bs[i]'(by omega)) := List.getElem?_eq_getElem (by omega)
  generalize bs[i]'(by omega) = b at eb
  have eo : (bs.map V.ref)[i]? = some (.ref b) := by rw [List.getElem?_map, eb]; rfl
  have hbm : b ∈ bs := List.mem_of_getElem? eb
  have hb' := m.inn i b eb
  have ej : ((List.range n).map fun j => V.int (M i j))[j]? = some (.int (M i j)) := by rw [List.getElem?_map, List.getElem?_range hj]; rfl
  have ix1 : ∀ Q : VK, Q (.ref b) H → tOp (rIx K) (tVar 2) (tVar 4) σ H Q := fun Q q => ⟨_, s.l2, _, h4, .inl ⟨L, _, _, _, rfl, rfl, .inl (.inl m.out), at_v eo, q⟩⟩
  refine ix1 _ ⟨_, h5, .inl ⟨b, _, _, _, rfl, rfl, .inl (.inl hb'), at_v ej, _, _, rfl, rfl, ?_⟩⟩
  refine ix1 _ ⟨_, h5, b, _, (j : Int), j, rfl, rfl, hb', ?_, fin _ ⟨fun c o hc => ?_, ?_, fun i2 b2 e2 => ?_⟩⟩
  · exact ixN_of (by omega) (by simp; omega)
  · rw [upd_ne (fun z => by rw [z, fb b hbm] at hc; cases hc)]
    exact m.ex c o hc
  · rw [upd_ne (fun z : L = b => hL (by rw [z]; exact hbm))]
    exact m.out
  · by_cases h : b2 = b
    · subst h
      have : i2 = i := by
        have h1 := (List.getElem?_eq_some_iff.mp e2).1
        exact (List.getElem?_inj h1 nd).mp (e2.trans eb.symm)
      subst this
      rw [upd_same]
      congr 2
      refine List.ext_getElem? fun k => ?_
      rw [List.getElem?_set]
      by_cases hk : k < n
      · rw [List.getElem?_map, List.getElem?_map, List.getElem?_range hk]
        by_cases hjk : j = k
        · subst hjk
          simp [hk]
        · rw [if_neg hjk]
          simp [show ¬ k = j from fun z => hjk z.symm]
      · rw [List.getElem?_eq_none (by simp; omega), List.getElem?_eq_none (by simp; omega)]
        split
        · rw [if_neg (by simp; omega)]
        · rfl
    · rw [upd_ne h]
      have : i2 ≠ i := fun z => h (by rw [z] at e2; rw [eb] at e2; exact (Option.some.inj e2).symm)
      simp only [this, false_and, if_false]
      exact m.inn i2 b2 e2
/-- which are above 0 -/
def Ps (n : Nat) (M : Nat → Nat → Int) (P : Nat → Nat → Prop) : Prop := (∀ i j, i < n → j < n → (0 < M i j ↔ P i j)) ∧ ∀ i j, 0 ≤ M i j
include hb nd hL fb in
theorem f3_ok {H : Hp} {σ : L2.St} {D : Ends} {i : Nat} {t : Addr} {r : List Nat} {P : Nat → Nat → Prop} (ht : SqT K H0 t (r.map fun x : Nat => V.int (x : Int))) (hr : ∀ x ∈ r, x < n) (s : SG L a n σ) (h3 : σ[3]? = some (some (.ref t))) (h4 : σ[4]? = some (some (.int (i : Int)))) (hi : i < n) {M : Nat → Nat → Int} (m : MI H0 L bs n M H) (p : Ps n M P)
    (fin : ∀ σ' M' H', SG L a n σ' → σ'[3]? = some (some (.ref t)) → MI H0 L bs n M' H' → Ps n M' (fun x y => P x y ∨ (x = i ∧ y ∈ r ∧ x ≠ y)) → D.nx σ' H') : tF3 K D σ H := by
  refine ⟨_, h3, t, rfl, ⟨_, ex_t m.ex ht⟩, ?_⟩
  refine it_ind (xs := r.map fun x : Nat => V.int (x : Int)) (fun H => Ex H0 H) (fun H e => itt_ok (ex_t e ht)) (fun k σ H => SG L a n σ ∧ σ[3]? = some (some (.ref t)) ∧ σ[4]? = some (some (.int (i : Int))) ∧ ∃ M, MI H0 L bs n M H ∧ Ps n M (fun x y => P x y ∨ (x = i ∧ y ∈ r.take k ∧ x ≠ y))) (fun k σ H ⟨_, _, _, M, m, _⟩ => m.ex) ⟨s, h3, h4, M, m, ?_⟩ ?_ ?_
  · simpa using p
  · rintro σ H ⟨s, h3, h4, M, m, p⟩
    refine fin σ M H s h3 m ?_
    rw [List.take_of_length_le (by simp)] at p
    exact p
  · rintro k x σ H hx ⟨s, h3, h4, M, m, p⟩
    rw [List.getElem?_map] at hx
    cases hj : r[k]? with
    | none => rw [hj] at hx; cases hx
    | some j =>
      rw [hj] at hx
      cases hx
      have hjn : j < n := hr j (List.mem_of_getElem? hj)
      have tk : ∀ y, y ∈ r.take (k + 1) ↔ y ∈ r.take k ∨ y = j := fun y => by
        rw [List.take_add_one, hj, List.mem_append]
        simp
      have s' := s.set (i := 5) (x := some (V.int (j : Int))) (by omega)
      have g3 : (σ.set 5 (some (V.int (j : Int))))[3]? = some (some (.ref t)) := by rw [List.getElem?_set_ne (by decide)]; exact h3
      have g4 : (σ.set 5 (some (V.int (j : Int))))[4]? = some (some (.int (i : Int))) := by rw [List.getElem?_set_ne (by decide)]; exact h4
      have g5 : (σ.set 5 (some (V.int (j : Int))))[5]? = some (some (.int (j : Int))) := by rw [List.getElem?_set_self (by rw [s.len]; decide)]
      refine ⟨_, g4, _, g5, rfl, _, rfl, ?_⟩
      by_cases h : i = j
      · subst h
        rw [decide_eq_true rfl]
        refine ⟨s', g3, g4, M, m, fun x y hx hy => ?_, p.2⟩
        rw [p.1 x y hx hy]
        dsimp only
        rw [tk]
        constructor
        · rintro (z | ⟨z1, z2, z3⟩)
          · exact .inl z
          · exact .inr ⟨z1, .inl z2, z3⟩
        · rintro (z | ⟨z1, z2 | z2, z3⟩)
          · exact .inl z
          · exact .inr ⟨z1, z2, z3⟩
          · exact absurd (z1.trans z2.symm) z3
      · rw [decide_eq_false (fun z => h (by injection z with z; exact Int.ofNat_inj.mp z))]
        refine st_ok hb nd hL fb m s' g4 g5 hi hjn fun H' m' => ⟨s', g3, g4, _, m', fun x y hx hy => ?_, fun x y => ?_⟩
        · have h0 := p.2 x y
          have h1 := p.1 x y hx hy
          dsimp only at h1 ⊢
          by_cases e : x = i ∧ y = j
          · rw [if_pos e]
            refine ⟨fun _ => .inr ⟨e.1, (tk y).mpr (.inr e.2), by rw [e.1, e.2]; exact h⟩, fun _ => by omega⟩
          · rw [if_neg e, h1, tk]
            constructor
            · rintro (z | ⟨z1, z2, z3⟩)
              · exact .inl z
              · exact .inr ⟨z1, .inl z2, z3⟩
            · rintro (z | ⟨z1, z2 | z2, z3⟩)
              · exact .inl z
              · exact .inr ⟨z1, z2, z3⟩
              · exact absurd ⟨z1, z2⟩ e
        · have h0 := p.2 x y
          dsimp only
          by_cases e : x = i ∧ y = j
          · rw [if_pos e]; omega
          · rw [if_neg e]; exact h0
include hb nd hL fb in
theorem f2_ok {H : Hp} {σ : L2.St} {D : Ends} {t : Addr} {r : List Nat} {P : Nat → Nat → Prop} (ht : SqT K H0 t (r.map fun x : Nat => V.int (x : Int))) (hr : ∀ x ∈ r, x < n) (s : SG L a n σ) (h3 : σ[3]? = some (some (.ref t))) {M : Nat → Nat → Int} (m : MI H0 L bs n M H) (p : Ps n M P)
    (fin : ∀ σ' M' H', SG L a n σ' → MI H0 L bs n M' H' → Ps n M' (fun x y => P x y ∨ (x ∈ r ∧ y ∈ r ∧ x ≠ y)) → D.nx σ' H') : tF2 K D σ H := by
  refine ⟨_, h3, t, rfl, ⟨_, ex_t m.ex ht⟩, ?_⟩
  refine it_ind (xs := r.map fun x : Nat => V.int (x : Int)) (fun H => Ex H0 H) (fun H e => itt_ok (ex_t e ht)) (fun k σ H => SG L a n σ ∧ σ[3]? = some (some (.ref t)) ∧ ∃ M, MI H0 L bs n M H ∧ Ps n M (fun x y => P x y ∨ (x ∈ r.take k ∧ y ∈ r ∧ x ≠ y))) (fun k σ H ⟨_, _, M, m, _⟩ => m.ex) ⟨s, h3, M, m, ?_⟩ ?_ ?_
  · simpa using p
  · rintro σ H ⟨s, h3, M, m, p⟩
    refine fin σ M H s m ?_
    rw [List.take_of_length_le (by simp)] at p
    exact p
  · rintro k x σ H hx ⟨s, h3, M, m, p⟩
    rw [List.getElem?_map] at hx
    cases hj : r[k]? with
    | none => rw [hj] at hx; cases hx
    | some i =>
      rw [hj] at hx
      cases hx
      have hin : i < n := hr i (List.mem_of_getElem? hj)
      have g3 : (σ.set 4 (some (V.int (i : Int))))[3]? = some (some (.ref t)) := by rw [List.getElem?_set_ne (by decide)]; exact h3
      have g4 : (σ.set 4 (some (V.int (i : Int))))[4]? = some (some (.int (i : Int))) := by rw [List.getElem?_set_self (by rw [s.len]; decide)]
      refine f3_ok hb nd hL fb ht hr (s.set (by omega)) g3 g4 hin m p fun σ' M' H' s' h3' m' p' => ⟨s', h3', M', m', fun x y hx hy => ?_, p'.2⟩
      rw [p'.1 x y hx hy]
      dsimp only
      rw [List.take_add_one, hj, List.mem_append]
      simp only [Option.toList_some, List.mem_singleton]
      constructor
      · rintro ((z | ⟨z1, z2, z3⟩) | ⟨z1, z2, z3⟩)
        · exact .inl z
        · exact .inr ⟨.inl z1, z2, z3⟩
        · exact .inr ⟨.inr z1, z2, z3⟩
      · rintro (z | ⟨z1 | z1, z2, z3⟩)
        · exact .inl (.inl z)
        · exact .inl (.inr ⟨z1, z2, z3⟩)
        · exact .inr ⟨z1, z2, z3⟩
include hb nd hL fb in
theorem f1_ok {H : Hp} {σ : L2.St} {D : Ends} {ts : List Addr} {rs : List (List Nat)} (ha : SqL K H0 a (ts.map V.ref)) (hts : ts.length = rs.length) (ht : ∀ (i : Nat) t r, ts[i]? = some t → rs[i]? = some r → SqT K H0 t (r.map fun x : Nat => V.int (x : Int))) (hr : ∀ r ∈ rs, ∀ x ∈ r, x < n) (s : SG L a n σ) {M : Nat → Nat → Int} (m : MI H0 L bs n M H) (p : Ps n M fun _ _ => False)
    (fin : ∀ σ' M' H', SG L a n σ' → MI H0 L bs n M' H' → Ps n M' (fun x y => gr rs x y = true) → D.nx σ' H') : tF1 K D σ H := by
  refine ⟨_, s.a1, a, rfl, ⟨_, ex_l m.ex ha⟩, ?_⟩
  refine it_ind (xs := ts.map V.ref) (fun H => Ex H0 H) (fun H e => itl_ok' (ex_l e ha)) (fun k σ H => SG L a n σ ∧ ∃ M, MI H0 L bs n M H ∧ Ps n M (fun x y => x ≠ y ∧ ∃ r ∈ rs.take k, x ∈ r ∧ y ∈ r)) (fun k σ H ⟨_, M, m, _⟩ => m.ex) ⟨s, M, m, ?_⟩ ?_ ?_
  · simpa using p
  · rintro σ H ⟨s, M, m, p⟩
    refine fin σ M H s m ⟨fun x y hx hy => ?_, p.2⟩
    rw [p.1 x y hx hy]
    dsimp only
    rw [List.take_of_length_le (by simp [hts])]
    unfold gr cl
    simp only [Bool.and_eq_true, decide_eq_true_eq, List.any_eq_true]
  · rintro k x σ H hx ⟨s, M, m, p⟩
    rw [List.getElem?_map] at hx
    cases hj : ts[k]? with
    | none => rw [hj] at hx; cases hx
    | some t =>
      rw [hj] at hx
      cases hx
      have hk : k < rs.length := by rw [← hts]; exact (List.getElem?_eq_some_iff.mp hj).1
      have er : rs[k]? = some rs[k] := List.getElem?_eq_getElem hk
      generalize rs[k] = r at er
      have g3 : (σ.set 3 (some (V.ref t)))[3]? = some (some (.ref t)) := by rw [List.getElem?_set_self (by rw [s.len]; decide)]
      refine f2_ok hb nd hL fb (ht k t r hj er) (hr r (List.mem_of_getElem? er)) (s.set (by omega)) g3 m p fun σ' M' H' s' m' p' => ⟨s', M', m', fun x y hx hy => ?_, p'.2⟩
      rw [p'.1 x y hx hy]
      dsimp only
      rw [List.take_add_one, er]
      simp only [Option.toList_some, List.mem_append, List.mem_singleton]
      constructor
      · rintro (⟨z, r', z1, z2, z3⟩ | ⟨z1, z2, z3⟩)
        · exact ⟨z, r', .inl z1, z2, z3⟩
        · exact ⟨z3, r, .inr rfl, z1, z2⟩
      · rintro ⟨z, r', z1 | rfl, z2, z3⟩
        · exact .inl ⟨z, r', z1, z2, z3⟩
        · exact .inr ⟨z2, z3, z⟩
end
end TL.k50

-- part Hk50
set_option pp.maxSteps 800
/-! Hk50: _law_both by hand. -/
namespace TL.k50
open PySem PySem.Spec L2 TL.cm
open Evl (Ex ex_l ex_t)
abbrev s__law_both : Stmt := PySem.Challenge.pw_schoollands_k50_whole_plans_of_exams.main.body.getD 15 (.Pass ⟨0, 0, 0, 0⟩)
abbrev N__law_both : List Str := ["exams", "those", "both", "row", "one", "other", "far", "exam"]
theorem sc__law_both : FnScope N__law_both ["exams", "those"] (defScope s__law_both) := ⟨rfl, rfl, rfl, by decide +kernel, rfl, by decide +kernel, by decide +kernel⟩
section
variable [Lay] {P : Program} {w : World} {K : PySem.W.Frag} {mg : Str → Option Value} {base : Heap}
theorem dpAll_get2 {F : Hp} : ∀ {xs : List V} {ds : List D}, xs.length = ds.length → (∀ (i : Nat) x d, xs[i]? = some x → ds[i]? = some d → Dp K F x d) → DpAll K F xs ds
  | [], [], _, _ => .nil
  | x :: xs, d :: ds, h, g => .cons (g 0 x d rfl rfl) (dpAll_get2 (by simpa using h) fun i x d h1 h2 => g (i + 1) x d (by simpa using h1) (by simpa using h2))
theorem dp_rows {F : Hp} : ∀ {xs : List V} {rs : List (List Nat)}, DpAll K F xs (rs.map rw) → ∃ ts : List Addr, xs = ts.map V.ref ∧ ts.length = rs.length ∧ ∀ (i : Nat) t r, ts[i]? = some t → rs[i]? = some r → SqT K F t (r.map fun x : Nat => V.int (x : Int))
  | _, [], .nil => ⟨[], rfl, rfl, fun i t r h => by simp at h⟩
  | _, r :: rs, .cons h hs => by
    obtain ⟨ts, rfl, h2, h3⟩ := dp_rows hs
    have h : Dp K F _ (.tuple (r.map fun n : Nat => PyData.int (n : Int))) := h
    cases h with
    | @tup a ys _ hq ha =>
      have e : (r.map fun n : Nat => PyData.int (n : Int)) = (r.map fun n : Nat => (n : Int)).map .int := by rw [List.map_map]; rfl
      rw [e] at ha
      have := dpAll_ints ha
      subst this
      refine ⟨a :: ts, rfl, by simp [h2], fun i t r' h4 h5 => ?_⟩
      cases i with
      | zero =>
        simp at h4 h5
        subst h4 h5
        have := hq.sq
        rwa [List.map_map] at this
      | succ i => exact h3 i t r' (by simpa using h4) (by simpa using h5)
theorem w__law_both {f : Addr} {fd : FuncData} (F : Fun K "_law_both" "_law_both" s__law_both f fd) (hm : mg "_law_both" = some (.ref f)) (hb : Binds K fd ["exams", "those"] []) (z_range : mg "range" = none) : Cal P w K mg base 1 "_law_both" m__law_both t__law_both := by
  refine ⟨f, fd, _, fun_okC (k := 0) (N := N__law_both) (ps := ["exams", "those"]) F sc__law_both (fun vs H Q E h => ?_) (fun cdv hcv A outer s H vs Q E hr h => ⟨tSeq (tAsg (tLc rng0 (gName 7) tYes (tLc rng0 (gName 6) tYes (tC (.int 0)) [6]) [7]) (gName 2)) (tSeq (tF1 K) (tRet (tVar 2))), ?_, ?_⟩), hm, F.kp, hb⟩
  · obtain ⟨F, ds, k, _, ha, _⟩ := h
    rw [(arg_len ha).1]
    rfl
  · exact pss_cons (ps_setLc (i := 2) (own := [("exam", 7)]) rfl sc__law_both.nd rfl rfl (sw_true rfl rfl rfl (by decide +kernel)) (pi_range1 (by rfl) z_range (pa_cons (pv 0) pa_nil)) (blkOk_by (N := N__law_both) (sc := (defScope s__law_both)) (by decide +kernel)) (fun _ _ _ _ _ => (pg_name (i := 7) sc__law_both.nd rfl (by first | exact Or.inl rfl | exact Or.inr rfl))) (fun _ _ _ _ _ => pts_nil) (fun _ _ _ _ _ => (pe_lc (own := [("far", 6)]) rfl sc__law_both.nd (pi_range1 (by rfl) z_range (pa_cons (pv 0) pa_nil)) (blkOk_by (N := N__law_both) (sc := (relS (scopeAt s__law_both 0) (defScope s__law_both))) (by decide +kernel)) (fun _ _ _ _ _ => (pg_name (i := 6) sc__law_both.nd rfl (by first | exact Or.inl rfl | exact Or.inr rfl))) (fun _ _ _ _ _ => pts_nil) (fun _ _ _ _ _ => pe_int))))
      (pss_cons (ps_for PassesOwn.never rfl (pi_list (pv 1)) (pg_name (i := 3) sc__law_both.nd rfl (by first | exact Or.inl rfl | exact Or.inr rfl)) (pss_one (ps_for PassesOwn.never rfl (pi_tup (pv 3)) (pg_name (i := 4) sc__law_both.nd rfl (by first | exact Or.inl rfl | exact Or.inr rfl)) (pss_one (ps_for PassesOwn.never rfl (pi_tup (pv 3)) (pg_name (i := 5) sc__law_both.nd rfl (by first | exact Or.inl rfl | exact Or.inr rfl))
        (pss_one (ps_if (pt_cmpR op_ne (pv 4) (pv 5) (by first | exact nobehind _ (by decide) (by decide) | rfl)) (pss_one (ps_asg (pe_op op_add (pe_ix ix_seq (pe_ix ix_seq (pv 2) (pv 4) (by intro _ _; rfl)) (pv 5) (by intro _ _; rfl)) pe_int) (pg_sub (pe_ix ix_seq (pv 2) (pv 4) (by intro _ _; rfl)) (pv 5) set_list (by intro _; rfl)))) pss_nil)))))))
      (pss_one (ps_ret (pv 2))))
  · obtain ⟨F, ds, k, se, ha, nd, tb, ht, hq⟩ := h
    obtain ⟨n, rs, rfl, hn, hR, hk⟩ := ht
    match vs, ha with
    | [v0, v1], ⟨h0, h1, _⟩ =>
      cases h0
      obtain ⟨a, xs, rfl, g1, g2⟩ := RdAt.list se (RdN.at h1)
      obtain ⟨ts, rfl, t2, t3⟩ := dp_rows g2
      unfold tSeq tAsg
      refine out_lc (n := n) rfl hn fun L bs H1 e1 f1 b1 b2 b3 b4 b5 => ?_
      have fb : ∀ b ∈ bs, H b = none := fun b hb => (b5 b hb).1
      have sg : SG L a n ((L2.start N__law_both [V.int (n : Int), V.ref a]).set 2 (some (V.ref L))) := ⟨rfl, rfl, rfl, rfl⟩
      refine f1_ok (K := K) (H0 := H) (L := L) (a := a) (bs := bs) (n := n) b1 b2 b3 fb (.inl g1) t2 (fun i t r z1 z2 => ex_t se (t3 i t r z1 z2)) (fun r hr => (hR.row r hr).2) sg (M := fun _ _ => 0) ⟨e1, b4, fun i b hb => ?_⟩ ⟨fun i j _ _ => ⟨fun z => absurd z (Int.lt_irrefl 0), fun z => z.elim⟩, fun _ _ => Int.le_refl 0⟩ fun σ' M H2 s' m p => ⟨_, s'.l2, ?_⟩
      · rw [(b5 b (List.mem_of_getElem? hb)).2, List.map_const', List.length_range]
      · have hM : Both n rs M := ⟨p.1, p.2⟩
        let F' : Hp := fun b => if b ∈ bs then H2 b else F b
        have fF : ∀ b ∈ bs, F b = none := fun b hb => by
          cases q : F b with
          | none => rfl
          | some o => have := fb b hb; rw [se b o q] at this; cases this
        have F1 : ∀ b, b ∈ bs → F' b = H2 b := fun b hb => if_pos hb
        have F2 : ∀ b, b ∉ bs → F' b = F b := fun b hb => if_neg hb
        have ext : Ex F F' := fun b o hb => by
          rw [F2 b (fun z => by rw [fF b z] at hb; cases hb)]; exact hb
        have sub : Ex F' H2 := fun b o hb => by
          by_cases z : b ∈ bs
          · rwa [F1 b z] at hb
          · rw [F2 b z] at hb; exact m.ex b o (se b o hb)
        have fnew : ∀ b o, F' b = some o → F b = some o ∨ H b = none := fun b o hb => by
          by_cases z : b ∈ bs
          · exact .inr (fb b z)
          · rw [F2 b z] at hb; exact .inl hb
        have FL : F' L = none := by
          rw [F2 L b3]
          cases q : F L with
          | none => rfl
          | some o => rw [se L o q] at f1; cases f1
        refine hq (.tm .l (ML n M)) [] (.ref L) F' H2 (hk M hM) ⟨ext, sub, fun b o hb _ _ => m.ex b o hb, tb.grow m.ex fnew, fun b o hb => ⟨o, m.ex b o hb⟩, fnew, rfl, ⟨L, rfl, ⟨bs.map .ref, _, rfl, m.out, ?_⟩, FL, f1⟩⟩
        refine dpAll_get2 (by simp [b1]) fun i x d hx hd => ?_
        rw [List.getElem?_map] at hx hd
        cases hb : bs[i]? with
        | none => rw [hb] at hx; cases hx
        | some b =>
          rw [hb] at hx
          cases hx
          have hi : i < n := by rw [← b1]; exact (List.getElem?_eq_some_iff.mp hb).1
          rw [List.getElem?_range hi] at hd
          cases hd
          have hbm := List.mem_of_getElem? hb
          refine .lst (xs := (List.range n).map fun j => V.int (M i j)) (.inl ?_) ?_
          · rw [F1 b hbm]; exact m.inn i b hb
          · have := dpAll_ints_mk (K := K) (F := F') ((List.range n).map fun j => M i j)
            rw [List.map_map, List.map_map] at this
            exact this
end
end TL.k50

-- part Wk50
set_option pp.maxSteps 800
/-! Wk50: the walks. Printed by gen.py. -/
namespace TL.k50
open PySem PySem.Spec L2 TL.cm

def top (i : Nat) : Stmt := PySem.Challenge.pw_schoollands_k50_whole_plans_of_exams.main.body.getD i (.Pass ⟨0, 0, 0, 0⟩)
abbrev s__law_cell : Stmt := top 8
abbrev s__law_digits : Stmt := top 9
abbrev s__law_draw : Stmt := top 10
abbrev s__law_mixed : Stmt := top 13
abbrev s__law_pupils : Stmt := top 14
abbrev s_clashes : Stmt := top 1
abbrev s__law_papers : Stmt := top 18
abbrev s__law_same : Stmt := top 12
abbrev s__law_one_by_one : Stmt := top 17
abbrev s_is_plan : Stmt := top 2
abbrev s_one_by_one : Stmt := top 3
abbrev s_by_most : Stmt := top 4
abbrev s_watchers_needed : Stmt := top 5
abbrev s_free_exams : Stmt := top 6
abbrev s__law_right : Stmt := top 16
abbrev s_law : Stmt := top 19
abbrev N__law_cell : List Str := ["script", "k"]
theorem sc__law_cell : FnScope N__law_cell ["script", "k"] (defScope s__law_cell) := ⟨rfl, rfl, rfl, by decide +kernel, rfl, by decide +kernel, by decide +kernel⟩
abbrev N__law_digits : List Str := ["script", "first", "last", "digits", "k", "cell", "lap", "seed"]
theorem sc__law_digits : FnScope N__law_digits ["script", "first", "last"] (defScope s__law_digits) := ⟨rfl, rfl, rfl, by decide +kernel, rfl, by decide +kernel, by decide +kernel⟩
abbrev N__law_draw : List Str := ["box", "many"]
theorem sc__law_draw : FnScope N__law_draw ["box", "many"] (defScope s__law_draw) := ⟨rfl, rfl, rfl, by decide +kernel, rfl, by decide +kernel, by decide +kernel⟩
abbrev N__law_mixed : List Str := ["box", "row", "left", "found", "lap"]
theorem sc__law_mixed : FnScope N__law_mixed ["box", "row"] (defScope s__law_mixed) := ⟨rfl, rfl, rfl, by decide +kernel, rfl, by decide +kernel, by decide +kernel⟩
abbrev N__law_pupils : List Str := ["box", "exams", "kind", "hub", "rows", "fresh", "size", "k", "exam", "row"]
theorem sc__law_pupils : FnScope N__law_pupils ["box", "exams"] (defScope s__law_pupils) := ⟨rfl, rfl, rfl, by decide +kernel, rfl, by decide +kernel, by decide +kernel⟩
abbrev N_clashes : List Str := ["exams", "pupils", "rows", "one", "other", "row"]
theorem sc_clashes : FnScope N_clashes ["exams", "pupils"] (defScope s_clashes) := ⟨rfl, rfl, rfl, by decide +kernel, rfl, by decide +kernel, by decide +kernel⟩
abbrev N__law_papers : List Str := ["box", "exams", "plan", "papers", "at", "far", "fresh", "one", "other", "row", "day"]
theorem sc__law_papers : FnScope N__law_papers ["box", "exams", "plan"] (defScope s__law_papers) := ⟨rfl, rfl, rfl, by decide +kernel, rfl, by decide +kernel, by decide +kernel⟩
abbrev N__law_same : List Str := ["told", "due", "k"]
theorem sc__law_same : FnScope N__law_same ["told", "due"] (defScope s__law_same) := ⟨rfl, rfl, rfl, by decide +kernel, rfl, by decide +kernel, by decide +kernel⟩
abbrev N__law_one_by_one : List Str := ["exams", "both", "order", "plan", "left", "day", "there", "exam", "far"]
theorem sc__law_one_by_one : FnScope N__law_one_by_one ["exams", "both", "order"] (defScope s__law_one_by_one) := ⟨rfl, rfl, rfl, by decide +kernel, rfl, by decide +kernel, by decide +kernel⟩
abbrev N_is_plan : List Str := ["exams", "pupils", "plan", "day", "one", "other"]
theorem sc_is_plan : FnScope N_is_plan ["exams", "pupils", "plan"] (defScope s_is_plan) := ⟨rfl, rfl, rfl, by decide +kernel, rfl, by decide +kernel, by decide +kernel⟩
abbrev N_one_by_one : List Str := ["exams", "pupils", "order", "pairs", "plan", "exam", "gone", "day", "far"]
theorem sc_one_by_one : FnScope N_one_by_one ["exams", "pupils", "order"] (defScope s_one_by_one) := ⟨rfl, rfl, rfl, by decide +kernel, rfl, by decide +kernel, by decide +kernel⟩
abbrev N_by_most : List Str := ["exams", "pupils", "pairs"]
theorem sc_by_most : FnScope N_by_most ["exams", "pupils"] (defScope s_by_most) := ⟨rfl, rfl, rfl, by decide +kernel, rfl, by decide +kernel, by decide +kernel⟩
abbrev N_watchers_needed : List Str := ["plan", "day"]
theorem sc_watchers_needed : FnScope N_watchers_needed ["plan"] (defScope s_watchers_needed) := ⟨rfl, rfl, rfl, by decide +kernel, rfl, by decide +kernel, by decide +kernel⟩
abbrev N_free_exams : List Str := ["exams", "pupils", "plan", "day", "pairs", "there", "found", "exam", "far"]
theorem sc_free_exams : FnScope N_free_exams ["exams", "pupils", "plan", "day"] (defScope s_free_exams) := ⟨rfl, rfl, rfl, by decide +kernel, rfl, by decide +kernel, by decide +kernel⟩
abbrev N__law_right : List Str := ["exams", "both", "plan", "one", "other", "day"]
theorem sc__law_right : FnScope N__law_right ["exams", "both", "plan"] (defScope s__law_right) := ⟨rfl, rfl, rfl, by decide +kernel, rfl, by decide +kernel, by decide +kernel⟩
abbrev N_law : List Str := ["script", "box", "lap", "exams", "those", "handed", "both", "pairs", "one", "told", "degrees", "most", "plan", "order", "told_order", "days", "day", "there", "fit", "told_plan", "paper", "other", "far", "exam", "minus"]
theorem sc_law : FnScope N_law ["script"] (defScope s_law) := ⟨rfl, rfl, rfl, by decide +kernel, rfl, by decide +kernel, by decide +kernel⟩
abbrev N_by_most_l0 : List Str := ["exam", "pairs", "pair"]
theorem lsc_by_most_l0 : LScope N_by_most_l0 "exam" ["pairs"] (scopeAt s_by_most 0) := lscope_by (by decide +kernel)
section
variable [Lay]
variable {P : Program} {w : World} {K : PySem.W.Frag} {mg : Str → Option Value} {base : Heap}
theorem w__law_cell {f : Addr} {fd : FuncData} (F : Fun K "_law_cell" "_law_cell" s__law_cell f fd) (hm : mg "_law_cell" = some (.ref f)) (hb : Binds K fd ["script", "k"] []) (z_len : mg "len" = none) : Cal P w K mg base 1 "_law_cell" m__law_cell t__law_cell :=
  cal_mk F hm hb sc__law_cell rfl d__law_cell (fun cdv hcv A outer s H E hr =>
  (ds_cons (ds_if (dt_cmp op_gLt (de_name (pv 1)) (de_fnB cr_gLenS (by rfl) z_len PySem.boot_len (da_cons (de_name (pv 0)) da_nil)))
    (ds_one (ds_ret (de_ixS (de_name (pv 0)) (de_name (pv 1)))))
    ds_nil)
  (ds_one (ds_ret de_int)))) p__law_cell
theorem w__law_digits {f : Addr} {fd : FuncData} (F : Fun K "_law_digits" "_law_digits" s__law_digits f fd) (hm : mg "_law_digits" = some (.ref f)) (hb : Binds K fd ["script", "first", "last"] []) (z_range : mg "range" = none) (C__law_cell : Cal P w K mg base 1 "_law_cell" m__law_cell t__law_cell) (z_int : mg "int" = none) : Cal P w K mg base 2 "_law_digits" m__law_digits t__law_digits :=
  cal_mk F hm hb sc__law_digits rfl d__law_digits (fun cdv hcv A outer s H E hr =>
  (ds_cons (ds_set (i := 3) sc__law_digits.nd rfl (by first | exact Or.inl rfl | exact Or.inr rfl) (de_lst da_nil))
  (ds_cons (ds_for PassesOwn.never rfl (di_range2 (by rfl) z_range (da_cons (de_name (pv 1)) (da_cons (de_name (pv 2)) da_nil))) (dg_name (i := 4) sc__law_digits.nd rfl (by first | exact Or.inl rfl | exact Or.inr rfl))
    (ds_cons (ds_set (i := 5) sc__law_digits.nd rfl (by first | exact Or.inl rfl | exact Or.inr rfl) (de_own C__law_cell (hr.mono (by decide)) (by rfl) (da_cons (de_name (pv 0)) (da_cons (de_name (pv 4)) da_nil))))
    (ds_cons (ds_if (dt_cmp op_gLt (de_name (pv 5)) de_int)
      (ds_one (ds_set (i := 5) sc__law_digits.nd rfl (by first | exact Or.inl rfl | exact Or.inr rfl) (de_op op_gSub de_int (de_op op_gMul de_int (de_name (pv 5))))))
      ds_nil)
    (ds_one (ds_if (dt_cmp op_gGe (de_name (pv 5)) (de_op op_gPow de_int de_int))
      (ds_one (ds_for PassesOwn.never rfl (di_range1 (by rfl) z_range (da_cons de_int da_nil)) (dg_name (i := 6) sc__law_digits.nd rfl (by first | exact Or.inl rfl | exact Or.inr rfl))
        (ds_one (ds_if (dt_cmp op_gGt (de_name (pv 5)) de_int)
          (ds_cons (ds_expr (de_mu PySem.F.slot_list_append PySem.F.type_list_append mt_gAppend (de_name (pv 3)) (da_cons (de_op op_gMod (de_fnT cr_gInt (by rfl) z_int rfl (da_cons (de_name (pv 5)) da_nil)) de_int) da_nil)))
          (ds_one (ds_set (i := 5) sc__law_digits.nd rfl (by first | exact Or.inl rfl | exact Or.inr rfl) (de_op op_gFdiv (de_name (pv 5)) de_int))))
          ds_nil))))
      (ds_cons (ds_set (i := 7) sc__law_digits.nd rfl (by first | exact Or.inl rfl | exact Or.inr rfl) (de_op op_gMod (de_fnT cr_gInt (by rfl) z_int rfl (da_cons (de_op op_gAdd (de_op op_gAdd (de_op op_gMul (de_name (pv 5)) de_int) (de_op op_gMul (de_name (pv 4)) de_int)) de_int) da_nil)) de_int))
      (ds_one (ds_for PassesOwn.never rfl (di_range1 (by rfl) z_range (da_cons de_int da_nil)) (dg_name (i := 6) sc__law_digits.nd rfl (by first | exact Or.inl rfl | exact Or.inr rfl))
        (ds_cons (ds_set (i := 7) sc__law_digits.nd rfl (by first | exact Or.inl rfl | exact Or.inr rfl) (de_op op_gMod (de_fnT cr_gInt (by rfl) z_int rfl (da_cons (de_op op_gAdd (de_op op_gAdd (de_op op_gMul (de_name (pv 7)) de_int) (de_op op_gMul de_int (de_name (pv 6)))) de_int) da_nil)) de_int))
        (ds_one (ds_expr (de_mu PySem.F.slot_list_append PySem.F.type_list_append mt_gAppend (de_name (pv 3)) (da_cons (de_op op_gMod (de_fnT cr_gInt (by rfl) z_int rfl (da_cons (de_op op_gFdiv (de_name (pv 7)) de_int) da_nil)) de_int) da_nil)))))))))))))
  (ds_one (ds_ret (de_name (pv 3))))))) p__law_digits
theorem w__law_draw {f : Addr} {fd : FuncData} (F : Fun K "_law_draw" "_law_draw" s__law_draw f fd) (hm : mg "_law_draw" = some (.ref f)) (hb : Binds K fd ["box", "many"] []) (z_len : mg "len" = none) (z_int : mg "int" = none) : Cal P w K mg base 1 "_law_draw" m__law_draw t__law_draw :=
  cal_mk F hm hb sc__law_draw rfl d__law_draw (fun cdv hcv A outer s H E hr =>
  (ds_cons (ds_stI (de_op op_gAdd (de_ix (de_name (pv 0)) de_int) de_int) (de_name (pv 0)) de_int set_gSetL)
  (ds_cons (ds_if (dt_cmp op_gGt (de_ix (de_name (pv 0)) de_int) (de_fnB cr_gLen (by rfl) z_len PySem.boot_len (da_cons (de_ix (de_name (pv 0)) de_int) da_nil)))
    (ds_one (ds_ret (de_op op_gMod (de_fnT cr_gInt (by rfl) z_int rfl (da_cons (de_op op_gAdd (de_op op_gAdd (de_ix (de_ix (de_name (pv 0)) de_int) (de_op op_gMod (de_fnT cr_gInt (by rfl) z_int rfl (da_cons (de_op op_gMul (de_ix (de_name (pv 0)) de_int) de_int) da_nil)) (de_fnB cr_gLen (by rfl) z_len PySem.boot_len (da_cons (de_ix (de_name (pv 0)) de_int) da_nil)))) (de_op op_gMul (de_ix (de_name (pv 0)) de_int) de_int)) de_int) da_nil)) (de_name (pv 1)))))
    ds_nil)
  (ds_one (ds_ret (de_op op_gMod (de_fnT cr_gInt (by rfl) z_int rfl (da_cons (de_ix (de_ix (de_name (pv 0)) de_int) (de_op op_gSub (de_ix (de_name (pv 0)) de_int) de_int)) da_nil)) (de_name (pv 1)))))))) p__law_draw
theorem w__law_mixed {f : Addr} {fd : FuncData} (F : Fun K "_law_mixed" "_law_mixed" s__law_mixed f fd) (hm : mg "_law_mixed" = some (.ref f)) (hb : Binds K fd ["box", "row"] []) (z_list : mg "list" = none) (z_len : mg "len" = none) (z_range : mg "range" = none) (C__law_draw : Cal P w K mg base 1 "_law_draw" m__law_draw t__law_draw) : Cal P w K mg base 2 "_law_mixed" m__law_mixed t__law_mixed :=
  cal_mk F hm hb sc__law_mixed rfl d__law_mixed (fun cdv hcv A outer s H E hr =>
  (ds_cons (ds_parS (i := 2) (j := 3) rfl sc__law_mixed.nd rfl rfl (by decide) rfl rfl (de_fnT cr_gListOf (by rfl) z_list rfl (da_cons (de_name (pv 1)) da_nil)) (de_lst da_nil) (by rfl))
  (ds_cons (ds_for PassesOwn.never rfl (di_range1 (by rfl) z_range (da_cons (de_fnB cr_gLen (by rfl) z_len PySem.boot_len (da_cons (de_name (pv 1)) da_nil)) da_nil)) (dg_name (i := 4) sc__law_mixed.nd rfl (by first | exact Or.inl rfl | exact Or.inr rfl))
    (ds_one (ds_expr (de_mu PySem.F.slot_list_append PySem.F.type_list_append mt_gAppend (de_name (pv 3)) (da_cons (de_mu PySem.F.slot_list_pop PySem.F.type_list_pop mt_gPop (de_name (pv 2)) (da_cons (de_own C__law_draw (hr.mono (by decide)) (by rfl) (da_cons (de_name (pv 0)) (da_cons (de_fnB cr_gLen (by rfl) z_len PySem.boot_len (da_cons (de_name (pv 2)) da_nil)) da_nil))) da_nil)) da_nil)))))
  (ds_one (ds_ret (de_name (pv 3))))))) p__law_mixed
theorem w__law_pupils {f : Addr} {fd : FuncData} (F : Fun K "_law_pupils" "_law_pupils" s__law_pupils f fd) (hm : mg "_law_pupils" = some (.ref f)) (hb : Binds K fd ["box", "exams"] []) (C__law_draw : Cal P w K mg base 1 "_law_draw" m__law_draw t__law_draw) (z_list : mg "list" = none) (z_range : mg "range" = none) (C__law_mixed : Cal P w K mg base 2 "_law_mixed" m__law_mixed t__law_mixed) (z_max : mg "max" = none) (z_int : mg "int" = none) (z_sorted : mg "sorted" = none) (z_tuple : mg "tuple" = none) : Cal P w K mg base 3 "_law_pupils" m__law_pupils t__law_pupils :=
  cal_mk F hm hb sc__law_pupils rfl d__law_pupils (fun cdv hcv A outer s H E hr =>
  (ds_cons (ds_asg (de_tup (da_cons (de_own C__law_draw (hr.mono (by decide)) (by rfl) (da_cons (de_name (pv 0)) (da_cons de_int da_nil))) (da_cons (de_own C__law_draw (hr.mono (by decide)) (by rfl) (da_cons (de_name (pv 0)) (da_cons de_int da_nil))) da_nil))) (dg_tup rfl (dgs_cons (dg_name (i := 2) sc__law_pupils.nd rfl (by first | exact Or.inl rfl | exact Or.inr rfl)) (dgs_cons (dg_name (i := 3) sc__law_pupils.nd rfl (by first | exact Or.inl rfl | exact Or.inr rfl)) dgs_nil))))
  (ds_cons (ds_set (i := 4) sc__law_pupils.nd rfl (by first | exact Or.inl rfl | exact Or.inr rfl) (de_lst da_nil))
  (ds_cons (ds_if (dt_cmp op_gGt (de_name (pv 1)) de_int)
    (ds_cons (ds_set (i := 5) sc__law_pupils.nd rfl (by first | exact Or.inl rfl | exact Or.inr rfl) (de_own C__law_mixed (hr.mono (by decide)) (by rfl) (da_cons (de_name (pv 0)) (da_cons (de_listRg1 rfl (by rfl) z_list (by rfl) z_range (de_name (pv 1))) da_nil))))
    (ds_cons (ds_set (i := 6) sc__law_pupils.nd rfl (by first | exact Or.inl rfl | exact Or.inr rfl) (de_fnB (cr_gMax rfl) (by rfl) z_max rfl (da_cons de_int (da_cons (de_op op_gSub (de_name (pv 1)) (de_own C__law_draw (hr.mono (by decide)) (by rfl) (da_cons (de_name (pv 0)) (da_cons de_int da_nil)))) da_nil))))
    (ds_cons (ds_if (dw_pt (dw_and (dt_cmp (op_gEq hr.units) (de_name (pv 2)) de_int) (dw_and1 (dt_cmp op_gGt (de_name (pv 6)) de_int))))
      (ds_cons (ds_setLc (i := 4) (own := [("k", 7)]) rfl sc__law_pupils.nd rfl rfl (sw_true rfl rfl rfl (by decide +kernel)) (di_range1 (by rfl) z_range (da_cons (de_name (pv 6)) da_nil)) (blkOk_by (N := N__law_pupils) (sc := (defScope s__law_pupils)) (by decide +kernel)) (fun _ _ _ _ _ => (dg_name (i := 7) sc__law_pupils.nd rfl (by first | exact Or.inl rfl | exact Or.inr rfl))) (fun _ _ _ _ _ => dts_nil) (fun _ _ _ _ _ => (de_lst (da_cons (de_ix (de_name (pv 5)) (de_name (pv 7))) (da_cons (de_ix (de_name (pv 5)) (de_op op_gMod (de_fnT cr_gInt (by rfl) z_int rfl (da_cons (de_op op_gAdd (de_name (pv 7)) de_int) da_nil)) (de_name (pv 6)))) da_nil)))))
      (ds_one (ds_if (dw_pt (dw_and (dt_cmp (op_gEq hr.units) (de_name (pv 3)) de_int) (dw_and1 (dt_cmp op_gLt (de_name (pv 6)) (de_name (pv 1))))))
        (ds_one (ds_set (i := 4) sc__law_pupils.nd rfl (by first | exact Or.inl rfl | exact Or.inr rfl) (de_op op_gAdd (de_name (pv 4)) (de_comp (own := [("k", 7)]) rfl sc__law_pupils.nd (di_range1 (by rfl) z_range (da_cons (de_name (pv 6)) da_nil)) (blkOk_by (N := N__law_pupils) (sc := (defScope s__law_pupils)) (by decide +kernel)) (fun _ _ _ _ _ => (dg_name (i := 7) sc__law_pupils.nd rfl (by first | exact Or.inl rfl | exact Or.inr rfl))) (fun _ _ _ _ _ => dts_nil) (fun _ _ _ _ _ => (de_lst (da_cons (de_ix (de_name (pv 5)) (de_name (pv 7))) (da_cons (de_ix (de_name (pv 5)) (de_name (pv 6))) da_nil))))))))
        ds_nil)))
      ds_nil)
    (ds_one (ds_if (dw_pt (dw_or (dt_cmp (op_gNe hr.units) (de_name (pv 2)) de_int) (dw_or1 (dt_cmp (op_gEq hr.units) (de_own C__law_draw (hr.mono (by decide)) (by rfl) (da_cons (de_name (pv 0)) (da_cons de_int da_nil))) de_int))))
      (ds_one (ds_for PassesOwn.never rfl (di_range1 (by rfl) z_range (da_cons (de_own C__law_draw (hr.mono (by decide)) (by rfl) (da_cons (de_name (pv 0)) (da_cons (de_ix (de_lst (da_cons de_int (da_cons de_int (da_cons de_int (da_cons de_int (da_cons de_int da_nil)))))) (de_name (pv 2))) da_nil))) da_nil)) (dg_name (i := 7) sc__law_pupils.nd rfl (by first | exact Or.inl rfl | exact Or.inr rfl))
        (ds_one (ds_expr (de_mu PySem.F.slot_list_append PySem.F.type_list_append mt_gAppend (de_name (pv 4)) (da_cons (de_comp (own := [("exam", 8)]) rfl sc__law_pupils.nd (di_list (de_name (pv 5))) (blkOk_by (N := N__law_pupils) (sc := (defScope s__law_pupils)) (by decide +kernel)) (fun _ _ _ _ _ => (dg_name (i := 8) sc__law_pupils.nd rfl (by first | exact Or.inl rfl | exact Or.inr rfl))) (fun _ _ _ _ _ => (dts_one (dt_cmp op_gLt (de_own C__law_draw (hr.mono (by decide)) (by rfl) (da_cons (de_name (pv 0)) (da_cons (de_name (pv 1)) da_nil))) (de_op op_gSub (de_ix (de_lst (da_cons de_int (da_cons de_int (da_cons de_int (da_cons de_int (da_cons de_int da_nil)))))) (de_name (pv 2))) de_int)))) (fun _ _ _ _ _ => (de_name (pv 8)))) da_nil))))))
      ds_nil)))))
    ds_nil)
  (ds_one (ds_ret (de_comp (own := [("row", 9)]) rfl sc__law_pupils.nd (di_list (de_name (pv 4))) (blkOk_by (N := N__law_pupils) (sc := (defScope s__law_pupils)) (by decide +kernel)) (fun _ _ _ _ _ => (dg_name (i := 9) sc__law_pupils.nd rfl (by first | exact Or.inl rfl | exact Or.inr rfl))) (fun _ _ _ _ _ => dts_nil) (fun _ _ _ _ _ => (de_fnT cr_gTupleOf (by rfl) z_tuple rfl (da_cons (de_fnB cr_gSortI (by rfl) z_sorted rfl (da_cons (de_name (pv 9)) da_nil)) da_nil)))))))))) p__law_pupils
theorem w_clashes {f : Addr} {fd : FuncData} (F : Fun K "clashes" "clashes" s_clashes f fd) (hm : mg "clashes" = some (.ref f)) (hb : Binds K fd ["exams", "pupils"] []) (z_range : mg "range" = none) (z_any : mg "any" = none) : Cal P w K mg base 1 "clashes" m_clashes t_clashes :=
  cal_mk F hm hb sc_clashes rfl d_clashes (fun cdv hcv A outer s H E hr =>
  (ds_cons (ds_setLc2 (i := 2) (own := [("one", 3), ("other", 4)]) (vs1 := [4]) rfl sc_clashes.nd rfl rfl (sw_true rfl rfl rfl (by decide +kernel)) (di_range1 (by rfl) z_range (da_cons (de_name (pv 0)) da_nil)) (blkOk_by (N := N_clashes) (sc := (defScope s_clashes)) (by decide +kernel)) (fun _ _ _ _ _ => (dg_name (i := 3) sc_clashes.nd rfl (by first | exact Or.inl rfl | exact Or.inr rfl))) (fun _ _ _ _ _ => dts_nil) (fun _ _ _ _ _ => (di2_range2 (by rfl) z_range (da_cons (de_op op_gAdd (de_name (pv 3)) de_int) (da_cons (de_name (pv 0)) da_nil)))) (fun _ _ _ _ _ => (dg_name (i := 4) sc_clashes.nd rfl (by first | exact Or.inl rfl | exact Or.inr rfl))) (fun _ _ _ _ _ => dts_nil) (fun _ _ _ _ _ => (de_tup (da_cons (de_name (pv 3)) (da_cons (de_name (pv 4)) da_nil)))))
  (ds_one (ds_ret (de_comp (own := [("one", 3), ("other", 4)]) rfl sc_clashes.nd (di_list (de_name (pv 2))) (blkOk_by (N := N_clashes) (sc := (defScope s_clashes)) (by decide +kernel)) (fun _ _ _ _ _ => (dg_tup rfl (dgs_cons (dg_name (i := 3) sc_clashes.nd rfl (by first | exact Or.inl rfl | exact Or.inr rfl)) (dgs_cons (dg_name (i := 4) sc_clashes.nd rfl (by first | exact Or.inl rfl | exact Or.inr rfl)) dgs_nil)))) (fun _ _ _ _ _ => (dts_one (dt_val (de_fnB (cr_gAny rfl) (by rfl) z_any rfl (da_cons (de_comp (own := [("row", 5)]) rfl sc_clashes.nd (di_list (de_name (pv 1))) (blkOk_by (N := N_clashes) (sc := (relS (scopeAt s_clashes 1) (defScope s_clashes))) (by decide +kernel)) (fun _ _ _ _ _ => (dg_name (i := 5) sc_clashes.nd rfl (by first | exact Or.inl rfl | exact Or.inr rfl))) (fun _ _ _ _ _ => dts_nil) (fun _ _ _ _ _ => (de_and (de_cmp op_gIn (de_name (pv 3)) (de_name (pv 5))) (de_one (de_cmp op_gIn (de_name (pv 4)) (de_name (pv 5))))))) da_nil))))) (fun _ _ _ _ _ => (de_tup (da_cons (de_name (pv 3)) (da_cons (de_name (pv 4)) da_nil))))))))) p_clashes
theorem w__law_papers {f : Addr} {fd : FuncData} (F : Fun K "_law_papers" "_law_papers" s__law_papers f fd) (hm : mg "_law_papers" = some (.ref f)) (hb : Binds K fd ["box", "exams", "plan"] []) (z_list : mg "list" = none) (z_range : mg "range" = none) (C__law_draw : Cal P w K mg base 1 "_law_draw" m__law_draw t__law_draw) (z_max : mg "max" = none) (z_int : mg "int" = none) : Cal P w K mg base 2 "_law_papers" m__law_papers t__law_papers :=
  cal_mk F hm hb sc__law_papers rfl d__law_papers (fun cdv hcv A outer s H E hr =>
  (ds_cons (ds_set (i := 3) sc__law_papers.nd rfl (by first | exact Or.inl rfl | exact Or.inr rfl) (de_lst (da_cons (de_fnT cr_gListOf (by rfl) z_list rfl (da_cons (de_name (pv 2)) da_nil)) (da_cons (de_op op_gAdd (de_name (pv 2)) (de_lst (da_cons de_int da_nil))) (da_cons (de_lst da_nil) (da_cons (de_listRg1 rfl (by rfl) z_list (by rfl) z_range (de_name (pv 1))) (da_cons (de_comp (own := [("day", 10)]) rfl sc__law_papers.nd (di_list (de_name (pv 2))) (blkOk_by (N := N__law_papers) (sc := (defScope s__law_papers)) (by decide +kernel)) (fun _ _ _ _ _ => (dg_name (i := 10) sc__law_papers.nd rfl (by first | exact Or.inl rfl | exact Or.inr rfl))) (fun _ _ _ _ _ => dts_nil) (fun _ _ _ _ _ => (de_op op_gAdd (de_name (pv 10)) de_int))) da_nil)))))))
  (ds_cons (ds_if (dt_cmp op_gGt (de_name (pv 1)) de_int)
    (ds_cons (ds_par (i := 4) (j := 5) rfl sc__law_papers.nd rfl rfl (by decide) rfl rfl (da_cons (de_own C__law_draw (hr.mono (by decide)) (by rfl) (da_cons (de_name (pv 0)) (da_cons (de_name (pv 1)) da_nil))) (da_cons (de_own C__law_draw (hr.mono (by decide)) (by rfl) (da_cons (de_name (pv 0)) (da_cons (de_name (pv 1)) da_nil))) da_nil)) (by rfl))
    (ds_cons (ds_for PassesOwn.never rfl (di_list (de_lst (da_cons (de_un un_gNeg de_int) (da_cons (de_ix (de_name (pv 2)) (de_name (pv 5))) (da_cons (de_own C__law_draw (hr.mono (by decide)) (by rfl) (da_cons (de_name (pv 0)) (da_cons (de_name (pv 1)) da_nil))) (da_cons (de_op op_gAdd (de_name (pv 1)) de_int) da_nil)))))) (dg_name (i := 6) sc__law_papers.nd rfl (by first | exact Or.inl rfl | exact Or.inr rfl))
      (ds_one (ds_expr (de_mu PySem.F.slot_list_append PySem.F.type_list_append mt_gAppend (de_name (pv 3)) (da_cons (de_op op_gAdd (de_op op_gAdd (de_slice (de_name (pv 2)) do_none (do_some (de_name (pv 4)))) (de_lst (da_cons (de_name (pv 6)) da_nil))) (de_slice (de_name (pv 2)) (do_some (de_op op_gAdd (de_name (pv 4)) de_int)) do_none)) da_nil)))))
    (ds_cons (ds_expr (de_mu PySem.F.slot_list_append PySem.F.type_list_append mt_gAppend (de_name (pv 3)) (da_cons (de_op op_gAdd (de_slice (de_name (pv 2)) do_none (do_some (de_name (pv 4)))) (de_slice (de_name (pv 2)) (do_some (de_op op_gAdd (de_name (pv 4)) de_int)) do_none)) da_nil)))
    (ds_cons (ds_expr (de_mu PySem.F.slot_list_append PySem.F.type_list_append mt_gAppend (de_name (pv 3)) (da_cons (de_slice (de_name (pv 2)) do_none (do_some (de_op op_gSub (de_name (pv 1)) de_int))) da_nil)))
    (ds_one (ds_for PassesOwn.never rfl (di_range1 (by rfl) z_range (da_cons (de_name (pv 1)) da_nil)) (dg_name (i := 7) sc__law_papers.nd rfl (by first | exact Or.inl rfl | exact Or.inr rfl))
      (ds_cons (ds_set (i := 8) sc__law_papers.nd rfl (by first | exact Or.inl rfl | exact Or.inr rfl) (de_op op_gMod (de_fnT cr_gInt (by rfl) z_int rfl (da_cons (de_op op_gAdd (de_op op_gAdd (de_name (pv 7)) de_int) (de_own C__law_draw (hr.mono (by decide)) (by rfl) (da_cons (de_name (pv 0)) (da_cons (de_fnB (cr_gMax rfl) (by rfl) z_max rfl (da_cons de_int (da_cons (de_op op_gSub (de_name (pv 1)) de_int) da_nil))) da_nil)))) da_nil)) (de_name (pv 1))))
      (ds_cons (ds_set (i := 9) sc__law_papers.nd rfl (by first | exact Or.inl rfl | exact Or.inr rfl) (de_listRg1 rfl (by rfl) z_list (by rfl) z_range (de_name (pv 1))))
      (ds_cons (ds_stI (de_name (pv 8)) (de_name (pv 9)) (de_name (pv 7)) set_gSetL)
      (ds_one (ds_expr (de_mu PySem.F.slot_list_append PySem.F.type_list_append mt_gAppend (de_name (pv 3)) (da_cons (de_name (pv 9)) da_nil)))))))))))))
    ds_nil)
  (ds_one (ds_ret (de_name (pv 3))))))) p__law_papers
theorem v__law_same {f : Addr} {fd : FuncData} (F : Fun K "_law_same" "_law_same" s__law_same f fd) (hm : mg "_law_same" = some (.ref f)) (hb : Binds K fd ["told", "due"] []) (z_isinstance : mg "isinstance" = none) (z_str : mg "str" = none) (z_repr : mg "repr" = none) (z_int : mg "int" = none) (z_bool : mg "bool" = none) (z_tuple : mg "tuple" = none) (z_list : mg "list" = none) (z_len : mg "len" = none) (z_range : mg "range" = none) {k : Nat} {tr t : TSp} (C__law_same : Cal P w K mg base k "_law_same" m__law_same tr) (p : ∀ ds k as, t ds k → ds.length = m__law_same.length → as.length = nio m__law_same → d__law_same tr { nx := finR m__law_same as k (.fz .none), rt := finR m__law_same as k } (entryR m__law_same ds as ++ List.replicate (3 - m__law_same.length) .un)) : Cal P w K mg base (k + 1) "_law_same" m__law_same t :=
  cal_mk F hm hb sc__law_same rfl (d__law_same tr) (fun cdv hcv A outer s H E hr =>
  (ds_cons (ds_if (dt_isN (de_name (pv 1)))
    (ds_one (ds_ret (de_isN (de_name (pv 0)))))
    ds_nil)
  (ds_cons (ds_if (dt_cmp op_gIs (de_name (pv 1)) de_bl)
    (ds_one (ds_ret (de_cmp op_gIs (de_name (pv 0)) de_bl)))
    ds_nil)
  (ds_cons (ds_if (dt_cmp op_gIs (de_name (pv 1)) de_bl)
    (ds_one (ds_ret (de_cmp op_gIs (de_name (pv 0)) de_bl)))
    ds_nil)
  (ds_cons (ds_if (dt_val (de_isI (by rfl) z_isinstance rfl (by rfl) z_str rfl (de_name (pv 1))))
    (ds_one (ds_ret (de_and (de_isI (by rfl) z_isinstance rfl (by rfl) z_str rfl (de_name (pv 0))) (de_one (de_cmp op_gEqS (de_fnB cr_gRepr (by rfl) z_repr rfl (da_cons (de_name (pv 0)) da_nil)) (de_fnB cr_gRepr (by rfl) z_repr rfl (da_cons (de_name (pv 1)) da_nil)))))))
    ds_nil)
  (ds_cons (ds_if (dt_val (de_isI (by rfl) z_isinstance rfl (by rfl) z_int rfl (de_name (pv 1))))
    (ds_one (ds_ret (de_and (de_isI (by rfl) z_isinstance rfl (by rfl) z_int rfl (de_name (pv 0))) (de_and (de_not (de_isI (by rfl) z_isinstance rfl (by rfl) z_bool rfl (de_name (pv 0)))) (de_one (de_cmp op_gEqS (de_fnB cr_gRepr (by rfl) z_repr rfl (da_cons (de_name (pv 0)) da_nil)) (de_fnB cr_gRepr (by rfl) z_repr rfl (da_cons (de_name (pv 1)) da_nil))))))))
    ds_nil)
  (ds_cons (ds_if (dw_pt (dw_or (dw_pt (dw_and (dt_val (de_isI (by rfl) z_isinstance rfl (by rfl) z_tuple rfl (de_name (pv 1)))) (dw_and1 (dt_not (dt_val (de_isI (by rfl) z_isinstance rfl (by rfl) z_tuple rfl (de_name (pv 0)))))))) (dw_or1 (dw_pt (dw_and (dt_val (de_isI (by rfl) z_isinstance rfl (by rfl) z_list rfl (de_name (pv 1)))) (dw_and1 (dt_not (dt_val (de_isI (by rfl) z_isinstance rfl (by rfl) z_list rfl (de_name (pv 0)))))))))))
    (ds_one (ds_ret de_bl))
    ds_nil)
  (ds_cons (ds_if (dt_cmp (op_gNe hr.units) (de_fnB cr_gLen (by rfl) z_len PySem.boot_len (da_cons (de_name (pv 0)) da_nil)) (de_fnB cr_gLen (by rfl) z_len PySem.boot_len (da_cons (de_name (pv 1)) da_nil)))
    (ds_one (ds_ret de_bl))
    ds_nil)
  (ds_cons (ds_for PassesOwn.never rfl (di_range1 (by rfl) z_range (da_cons (de_fnB cr_gLen (by rfl) z_len PySem.boot_len (da_cons (de_name (pv 1)) da_nil)) da_nil)) (dg_name (i := 2) sc__law_same.nd rfl (by first | exact Or.inl rfl | exact Or.inr rfl))
    (ds_one (ds_if (dt_not (dt_val (de_own C__law_same hr (by rfl) (da_cons (de_ix (de_name (pv 0)) (de_name (pv 2))) (da_cons (de_ix (de_name (pv 1)) (de_name (pv 2))) da_nil)))))
      (ds_one (ds_ret de_bl))
      ds_nil)))
  (ds_one (ds_ret de_bl))))))))))) p
theorem w__law_same {f : Addr} {fd : FuncData} (F : Fun K "_law_same" "_law_same" s__law_same f fd) (hm : mg "_law_same" = some (.ref f)) (hb : Binds K fd ["told", "due"] []) (z_isinstance : mg "isinstance" = none) (z_str : mg "str" = none) (z_repr : mg "repr" = none) (z_int : mg "int" = none) (z_bool : mg "bool" = none) (z_tuple : mg "tuple" = none) (z_list : mg "list" = none) (z_len : mg "len" = none) (z_range : mg "range" = none) : Cal P w K mg base 12 "_law_same" m__law_same t__law_same := rec__law_same (cal_no F hm hb) (fun C p => v__law_same F hm hb z_isinstance z_str z_repr z_int z_bool z_tuple z_list z_len z_range C p)
theorem w__law_one_by_one {f : Addr} {fd : FuncData} (F : Fun K "_law_one_by_one" "_law_one_by_one" s__law_one_by_one f fd) (hm : mg "_law_one_by_one" = some (.ref f)) (hb : Binds K fd ["exams", "both", "order"] []) (z_list : mg "list" = none) (z_range : mg "range" = none) : Cal P w K mg base 1 "_law_one_by_one" m__law_one_by_one t__law_one_by_one :=
  cal_mk F hm hb sc__law_one_by_one rfl d__law_one_by_one (fun cdv hcv A outer s H E hr =>
  (ds_cons (ds_setLc (i := 3) (own := [("exam", 7)]) rfl sc__law_one_by_one.nd rfl rfl (sw_true rfl rfl rfl (by decide +kernel)) (di_list (de_name (pv 2))) (blkOk_by (N := N__law_one_by_one) (sc := (defScope s__law_one_by_one)) (by decide +kernel)) (fun _ _ _ _ _ => (dg_name (i := 7) sc__law_one_by_one.nd rfl (by first | exact Or.inl rfl | exact Or.inr rfl))) (fun _ _ _ _ _ => dts_nil) (fun _ _ _ _ _ => de_int))
  (ds_cons (ds_set (i := 4) sc__law_one_by_one.nd rfl (by first | exact Or.inl rfl | exact Or.inr rfl) (de_fnT cr_gListOf (by rfl) z_list rfl (da_cons (de_name (pv 2)) da_nil)))
  (ds_cons (ds_for PassesOwn.never rfl (di_range1 (by rfl) z_range (da_cons (de_name (pv 0)) da_nil)) (dg_name (i := 5) sc__law_one_by_one.nd rfl (by first | exact Or.inl rfl | exact Or.inr rfl))
    (ds_cons (ds_set (i := 6) sc__law_one_by_one.nd rfl (by first | exact Or.inl rfl | exact Or.inr rfl) (de_lst da_nil))
    (ds_cons (ds_for PassesOwn.never rfl (di_list (de_lend (pv 4))) (dg_name (i := 7) sc__law_one_by_one.nd rfl (by first | exact Or.inl rfl | exact Or.inr rfl))
      (ds_one (ds_if (dt_cmp (op_gEq hr.units) (de_comp (own := [("far", 8)]) rfl sc__law_one_by_one.nd (di_list (de_name (pv 6))) (blkOk_by (N := N__law_one_by_one) (sc := (defScope s__law_one_by_one)) (by decide +kernel)) (fun _ _ _ _ _ => (dg_name (i := 8) sc__law_one_by_one.nd rfl (by first | exact Or.inl rfl | exact Or.inr rfl))) (fun _ _ _ _ _ => (dts_one (dt_cmp op_gGt (de_ix (de_ix (de_name (pv 1)) (de_name (pv 7))) (de_name (pv 8))) de_int))) (fun _ _ _ _ _ => (de_name (pv 8)))) (de_lst da_nil))
        (ds_cons (ds_expr (de_mu PySem.F.slot_list_append PySem.F.type_list_append mt_gAppend (de_name (pv 6)) (da_cons (de_name (pv 7)) da_nil)))
        (ds_one (ds_stI (de_name (pv 5)) (de_name (pv 3)) (de_name (pv 7)) set_gSetL)))
        ds_nil)))
    (ds_one (ds_setLc (i := 4) (own := [("exam", 7)]) rfl sc__law_one_by_one.nd rfl rfl (sw_true rfl rfl rfl (by decide +kernel)) (di_list (de_name (pv 4))) (blkOk_by (N := N__law_one_by_one) (sc := (defScope s__law_one_by_one)) (by decide +kernel)) (fun _ _ _ _ _ => (dg_name (i := 7) sc__law_one_by_one.nd rfl (by first | exact Or.inl rfl | exact Or.inr rfl))) (fun _ _ _ _ _ => (dts_one (dt_cmp op_gNin (de_name (pv 7)) (de_name (pv 6))))) (fun _ _ _ _ _ => (de_name (pv 7))))))))
  (ds_one (ds_ret (de_name (pv 3)))))))) p__law_one_by_one
theorem w_is_plan {f : Addr} {fd : FuncData} (F : Fun K "is_plan" "is_plan" s_is_plan f fd) (hm : mg "is_plan" = some (.ref f)) (hb : Binds K fd ["exams", "pupils", "plan"] []) (z_len : mg "len" = none) (z_all : mg "all" = none) (C_clashes : Cal P w K mg base 1 "clashes" m_clashes t_clashes) : Cal P w K mg base 2 "is_plan" m_is_plan t_is_plan :=
  cal_mk F hm hb sc_is_plan rfl d_is_plan (fun cdv hcv A outer s H E hr =>
  (ds_cons (ds_if (dw_pt (dw_or (dt_cmp (op_gNe hr.units) (de_fnB cr_gLen (by rfl) z_len PySem.boot_len (da_cons (de_name (pv 2)) da_nil)) (de_name (pv 0))) (dw_or1 (dt_not (dt_val (de_fnB (cr_gAll rfl) (by rfl) z_all rfl (da_cons (de_comp (own := [("day", 3)]) rfl sc_is_plan.nd (di_list (de_name (pv 2))) (blkOk_by (N := N_is_plan) (sc := (defScope s_is_plan)) (by decide +kernel)) (fun _ _ _ _ _ => (dg_name (i := 3) sc_is_plan.nd rfl (by first | exact Or.inl rfl | exact Or.inr rfl))) (fun _ _ _ _ _ => dts_nil) (fun _ _ _ _ _ => (de_cmp op_gGe (de_name (pv 3)) de_int))) da_nil)))))))
    (ds_one (ds_ret de_bl))
    ds_nil)
  (ds_one (ds_ret (de_fnB (cr_gAll rfl) (by rfl) z_all rfl (da_cons (de_comp (own := [("one", 4), ("other", 5)]) rfl sc_is_plan.nd (di_list (de_own C_clashes (hr.mono (by decide)) (by rfl) (da_cons (de_name (pv 0)) (da_cons (de_name (pv 1)) da_nil)))) (blkOk_by (N := N_is_plan) (sc := (defScope s_is_plan)) (by decide +kernel)) (fun _ _ _ _ _ => (dg_tup rfl (dgs_cons (dg_name (i := 4) sc_is_plan.nd rfl (by first | exact Or.inl rfl | exact Or.inr rfl)) (dgs_cons (dg_name (i := 5) sc_is_plan.nd rfl (by first | exact Or.inl rfl | exact Or.inr rfl)) dgs_nil)))) (fun _ _ _ _ _ => dts_nil) (fun _ _ _ _ _ => (de_cmp (op_gNe hr.units) (de_ix (de_name (pv 2)) (de_name (pv 4))) (de_ix (de_name (pv 2)) (de_name (pv 5)))))) da_nil)))))) p_is_plan
theorem w_one_by_one {f : Addr} {fd : FuncData} (F : Fun K "one_by_one" "one_by_one" s_one_by_one f fd) (hm : mg "one_by_one" = some (.ref f)) (hb : Binds K fd ["exams", "pupils", "order"] []) (C_clashes : Cal P w K mg base 1 "clashes" m_clashes t_clashes) (z_range : mg "range" = none) (z_max : mg "max" = none) (z_min : mg "min" = none) : Cal P w K mg base 2 "one_by_one" m_one_by_one t_one_by_one :=
  cal_mk F hm hb sc_one_by_one rfl d_one_by_one (fun cdv hcv A outer s H E hr =>
  (ds_cons (ds_set (i := 3) sc_one_by_one.nd rfl (by first | exact Or.inl rfl | exact Or.inr rfl) (de_own C_clashes (hr.mono (by decide)) (by rfl) (da_cons (de_name (pv 0)) (da_cons (de_name (pv 1)) da_nil))))
  (ds_cons (ds_set (i := 4) sc_one_by_one.nd rfl (by first | exact Or.inl rfl | exact Or.inr rfl) (de_comp (own := [("exam", 5)]) rfl sc_one_by_one.nd (di_range1 (by rfl) z_range (da_cons (de_name (pv 0)) da_nil)) (blkOk_by (N := N_one_by_one) (sc := (defScope s_one_by_one)) (by decide +kernel)) (fun _ _ _ _ _ => (dg_name (i := 5) sc_one_by_one.nd rfl (by first | exact Or.inl rfl | exact Or.inr rfl))) (fun _ _ _ _ _ => dts_nil) (fun _ _ _ _ _ => de_non)))
  (ds_cons (ds_for PassesOwn.never rfl (di_list (de_lend (pv 2))) (dg_name (i := 5) sc_one_by_one.nd rfl (by first | exact Or.inl rfl | exact Or.inr rfl))
    (ds_cons (ds_setLc (i := 6) (own := [("far", 8)]) rfl sc_one_by_one.nd rfl rfl (sw_true rfl rfl rfl (by decide +kernel)) (di_range1 (by rfl) z_range (da_cons (de_name (pv 0)) da_nil)) (blkOk_by (N := N_one_by_one) (sc := (defScope s_one_by_one)) (by decide +kernel)) (fun _ _ _ _ _ => (dg_name (i := 8) sc_one_by_one.nd rfl (by first | exact Or.inl rfl | exact Or.inr rfl))) (fun _ _ _ _ _ => (dts_one (dt_cmp (op_gInD (room65 hr)) (de_tup (da_cons (de_fnB (cr_gMin rfl) (by rfl) z_min rfl (da_cons (de_name (pv 5)) (da_cons (de_name (pv 8)) da_nil))) (da_cons (de_fnB (cr_gMax rfl) (by rfl) z_max rfl (da_cons (de_name (pv 5)) (da_cons (de_name (pv 8)) da_nil))) da_nil))) (de_name (pv 3))))) (fun _ _ _ _ _ => (de_ix (de_name (pv 4)) (de_name (pv 8)))))
    (ds_cons (ds_set (i := 7) sc_one_by_one.nd rfl (by first | exact Or.inl rfl | exact Or.inr rfl) de_int)
    (ds_cons (ds_while PassesOwn.never (dt_cmp (op_gInD (room65 hr)) (de_name (pv 7)) (de_name (pv 6)))
      (ds_one (ds_aug (i := 7) sc_one_by_one.nd rfl (by first | exact Or.inl rfl | exact Or.inr rfl) op_gAddI de_int)))
    (ds_one (ds_stI (de_name (pv 7)) (de_name (pv 4)) (de_name (pv 5)) set_gSetL))))))
  (ds_one (ds_ret (de_name (pv 4)))))))) p_one_by_one
theorem w_by_most {f : Addr} {fd : FuncData} (F : Fun K "by_most" "by_most" s_by_most f fd) (hm : mg "by_most" = some (.ref f)) (hb : Binds K fd ["exams", "pupils"] []) (C_clashes : Cal P w K mg base 1 "clashes" m_clashes t_clashes) (z_len : mg "len" = none) (T_by_most : LT base mg fd "by_most.<locals>.<lambda>") (z_sorted : mg "sorted" = none) (z_range : mg "range" = none) : Cal P w K mg base 5 "by_most" m_by_most t_by_most :=
  cal_mk F hm hb sc_by_most rfl d_by_most (fun cdv hcv A outer s H E hr =>
  (ds_cons (ds_set (i := 2) sc_by_most.nd rfl (by first | exact Or.inl rfl | exact Or.inr rfl) (de_own C_clashes (hr.mono (by decide)) (by rfl) (da_cons (de_name (pv 0)) (da_cons (de_name (pv 1)) da_nil))))
  (ds_one (ds_ret (de_sortKR (T := (LamTab.of T_by_most hcv rfl rfl)) (k := 1) (N := N_by_most_l0) (fr := ["pairs"]) (x := "exam") (js := [2]) (db := l_by_most_0) (O := by exact LamOk.mk lsc_by_most_l0 (by show NdefX.ndefB (defScope s_by_most) (scopeAt s_by_most 0) ["pairs"] = true; decide +kernel) rfl (fun _ _ _ _ _ _ => rfl) (by decide) (fun f c' s H hr => (letI : Lay := layK; (de_tup (da_cons (de_un un_gNeg (de_fnB cr_gLen (by rfl) z_len PySem.boot_len (da_cons (de_comp (own := [("pair", 2)]) rfl lsc_by_most_l0.nd (di_list (de_name (pv 1))) (blkOk_by (N := N_by_most_l0) (sc := (scopeAt s_by_most 0)) (by decide +kernel)) (fun _ _ _ _ _ => (dg_name (i := 2) lsc_by_most_l0.nd rfl (by first | exact Or.inl rfl | exact Or.inr rfl))) (fun _ _ _ _ _ => (dts_one (dt_cmp op_gIn (de_name (pv 0)) (de_name (pv 2))))) (fun _ _ _ _ _ => de_int)) da_nil))) (da_cons (de_name (pv 0)) da_nil)))))) (hr.mono (by decide)) rfl (by rfl) z_sorted (by rfl) z_range rfl (de_name (pv 0))))))) p_by_most
theorem w_watchers_needed {f : Addr} {fd : FuncData} (F : Fun K "watchers_needed" "watchers_needed" s_watchers_needed f fd) (hm : mg "watchers_needed" = some (.ref f)) (hb : Binds K fd ["plan"] []) (z_max : mg "max" = none) : Cal P w K mg base 1 "watchers_needed" m_watchers_needed t_watchers_needed :=
  cal_mk F hm hb sc_watchers_needed rfl d_watchers_needed (fun cdv hcv A outer s H E hr =>
  (ds_one (ds_ret (de_fnB (cr_gMax rfl) (by rfl) z_max rfl (da_cons (de_op op_gAdd (de_comp (own := [("day", 1)]) rfl sc_watchers_needed.nd (di_list (de_name (pv 0))) (blkOk_by (N := N_watchers_needed) (sc := (defScope s_watchers_needed)) (by decide +kernel)) (fun _ _ _ _ _ => (dg_name (i := 1) sc_watchers_needed.nd rfl (by first | exact Or.inl rfl | exact Or.inr rfl))) (fun _ _ _ _ _ => dts_nil) (fun _ _ _ _ _ => (de_mt PySem.F.plainAttrs_list PySem.F.slot_list_count PySem.F.type_list_count mt_gCount (de_name (pv 0)) (da_cons (de_name (pv 1)) da_nil)))) (de_lst (da_cons de_int da_nil))) da_nil))))) p_watchers_needed
theorem w_free_exams {f : Addr} {fd : FuncData} (F : Fun K "free_exams" "free_exams" s_free_exams f fd) (hm : mg "free_exams" = some (.ref f)) (hb : Binds K fd ["exams", "pupils", "plan", "day"] []) (C_clashes : Cal P w K mg base 1 "clashes" m_clashes t_clashes) (z_range : mg "range" = none) (z_max : mg "max" = none) (z_min : mg "min" = none) (z_any : mg "any" = none) : Cal P w K mg base 2 "free_exams" m_free_exams t_free_exams :=
  cal_mk F hm hb sc_free_exams rfl d_free_exams (fun cdv hcv A outer s H E hr =>
  (ds_cons (ds_set (i := 4) sc_free_exams.nd rfl (by first | exact Or.inl rfl | exact Or.inr rfl) (de_own C_clashes (hr.mono (by decide)) (by rfl) (da_cons (de_name (pv 0)) (da_cons (de_name (pv 1)) da_nil))))
  (ds_cons (ds_setLc (i := 5) (own := [("exam", 7)]) rfl sc_free_exams.nd rfl rfl (sw_true rfl rfl rfl (by decide +kernel)) (di_range1 (by rfl) z_range (da_cons (de_name (pv 0)) da_nil)) (blkOk_by (N := N_free_exams) (sc := (defScope s_free_exams)) (by decide +kernel)) (fun _ _ _ _ _ => (dg_name (i := 7) sc_free_exams.nd rfl (by first | exact Or.inl rfl | exact Or.inr rfl))) (fun _ _ _ _ _ => (dts_one (dt_cmp (op_gEq hr.units) (de_ix (de_name (pv 2)) (de_name (pv 7))) (de_name (pv 3))))) (fun _ _ _ _ _ => (de_name (pv 7))))
  (ds_cons (ds_set (i := 6) sc_free_exams.nd rfl (by first | exact Or.inl rfl | exact Or.inr rfl) (de_lst da_nil))
  (ds_cons (ds_for PassesOwn.never rfl (di_range1 (by rfl) z_range (da_cons (de_name (pv 0)) da_nil)) (dg_name (i := 7) sc_free_exams.nd rfl (by first | exact Or.inl rfl | exact Or.inr rfl))
    (ds_one (ds_if (dw_pt (dw_and (dt_cmp op_gNin (de_name (pv 7)) (de_name (pv 5))) (dw_and1 (dt_not (dt_val (de_fnB (cr_gAny rfl) (by rfl) z_any rfl (da_cons (de_comp (own := [("far", 8)]) rfl sc_free_exams.nd (di_list (de_name (pv 5))) (blkOk_by (N := N_free_exams) (sc := (defScope s_free_exams)) (by decide +kernel)) (fun _ _ _ _ _ => (dg_name (i := 8) sc_free_exams.nd rfl (by first | exact Or.inl rfl | exact Or.inr rfl))) (fun _ _ _ _ _ => dts_nil) (fun _ _ _ _ _ => (de_cmp (op_gInD (room65 hr)) (de_tup (da_cons (de_fnB (cr_gMin rfl) (by rfl) z_min rfl (da_cons (de_name (pv 7)) (da_cons (de_name (pv 8)) da_nil))) (da_cons (de_fnB (cr_gMax rfl) (by rfl) z_max rfl (da_cons (de_name (pv 7)) (da_cons (de_name (pv 8)) da_nil))) da_nil))) (de_name (pv 4))))) da_nil)))))))
      (ds_one (ds_expr (de_mu PySem.F.slot_list_append PySem.F.type_list_append mt_gAppend (de_name (pv 6)) (da_cons (de_name (pv 7)) da_nil))))
      ds_nil)))
  (ds_one (ds_ret (de_name (pv 6))))))))) p_free_exams
theorem w__law_right {f : Addr} {fd : FuncData} (F : Fun K "_law_right" "_law_right" s__law_right f fd) (hm : mg "_law_right" = some (.ref f)) (hb : Binds K fd ["exams", "both", "plan"] []) (z_len : mg "len" = none) (z_range : mg "range" = none) : Cal P w K mg base 1 "_law_right" m__law_right t__law_right :=
  cal_mk F hm hb sc__law_right rfl d__law_right (fun cdv hcv A outer s H E hr =>
  (ds_cons (ds_if (dw_pt (dw_or (dt_cmp (op_gNe hr.units) (de_fnB cr_gLen (by rfl) z_len PySem.boot_len (da_cons (de_name (pv 2)) da_nil)) (de_name (pv 0))) (dw_or1 (dt_cmp (op_gNe hr.units) (de_comp (own := [("day", 5)]) rfl sc__law_right.nd (di_list (de_name (pv 2))) (blkOk_by (N := N__law_right) (sc := (defScope s__law_right)) (by decide +kernel)) (fun _ _ _ _ _ => (dg_name (i := 5) sc__law_right.nd rfl (by first | exact Or.inl rfl | exact Or.inr rfl))) (fun _ _ _ _ _ => (dts_one (dt_cmp op_gLt (de_name (pv 5)) de_int))) (fun _ _ _ _ _ => (de_name (pv 5)))) (de_lst da_nil)))))
    (ds_one (ds_ret de_bl))
    ds_nil)
  (ds_cons (ds_for PassesOwn.never rfl (di_range1 (by rfl) z_range (da_cons (de_name (pv 0)) da_nil)) (dg_name (i := 3) sc__law_right.nd rfl (by first | exact Or.inl rfl | exact Or.inr rfl))
    (ds_one (ds_for PassesOwn.never rfl (di_range1 (by rfl) z_range (da_cons (de_name (pv 3)) da_nil)) (dg_name (i := 4) sc__law_right.nd rfl (by first | exact Or.inl rfl | exact Or.inr rfl))
      (ds_one (ds_if (dw_pt (dw_and (dt_cmp (op_gEq hr.units) (de_ix (de_name (pv 2)) (de_name (pv 3))) (de_ix (de_name (pv 2)) (de_name (pv 4)))) (dw_and1 (dt_cmp op_gGt (de_ix (de_ix (de_name (pv 1)) (de_name (pv 3))) (de_name (pv 4))) de_int))))
        (ds_one (ds_ret de_bl))
        ds_nil)))))
  (ds_one (ds_ret de_bl))))) p__law_right
theorem w_law {f : Addr} {fd : FuncData} (F : Fun K "law" "law" s_law f fd) (C__law_digits : Cal P w K mg base 2 "_law_digits" m__law_digits t__law_digits) (z_range : mg "range" = none) (C__law_draw : Cal P w K mg base 1 "_law_draw" m__law_draw t__law_draw) (C__law_pupils : Cal P w K mg base 3 "_law_pupils" m__law_pupils t__law_pupils) (z_list : mg "list" = none) (C__law_both : Cal P w K mg base 1 "_law_both" m__law_both t__law_both) (C_clashes : Cal P w K mg base 1 "clashes" m_clashes t_clashes) (C__law_same : Cal P w K mg base 12 "_law_same" m__law_same t__law_same) (z_len : mg "len" = none) (z_sorted : mg "sorted" = none) (C_by_most : Cal P w K mg base 5 "by_most" m_by_most t_by_most) (C__law_mixed : Cal P w K mg base 2 "_law_mixed" m__law_mixed t__law_mixed) (C__law_one_by_one : Cal P w K mg base 1 "_law_one_by_one" m__law_one_by_one t__law_one_by_one) (C_one_by_one : Cal P w K mg base 2 "one_by_one" m_one_by_one t_one_by_one) (z_sum : mg "sum" = none) (C_free_exams : Cal P w K mg base 2 "free_exams" m_free_exams t_free_exams) (z_max : mg "max" = none) (C_watchers_needed : Cal P w K mg base 1 "watchers_needed" m_watchers_needed t_watchers_needed) (C__law_papers : Cal P w K mg base 2 "_law_papers" m__law_papers t__law_papers) (C__law_right : Cal P w K mg base 1 "_law_right" m__law_right t__law_right) (C_is_plan : Cal P w K mg base 2 "is_plan" m_is_plan t_is_plan) : FnOk P w K mg base CX0 13 f fd ["script"] (spT K m_law t_law) :=
  fn_ok F sc_law rfl d_law (fun cdv hcv A outer s H E hr =>
  (ds_cons (ds_set (i := 1) sc_law.nd rfl (by first | exact Or.inl rfl | exact Or.inr rfl) (de_lst (da_cons (de_own C__law_digits (hr.mono (by decide)) (by rfl) (da_cons (de_name (pv 0)) (da_cons de_int (da_cons de_int da_nil)))) (da_cons de_int da_nil))))
  (ds_cons (ds_for PassesOwn.never rfl (di_range1 (by rfl) z_range (da_cons de_int da_nil)) (dg_name (i := 2) sc_law.nd rfl (by first | exact Or.inl rfl | exact Or.inr rfl))
    (ds_cons (ds_set (i := 3) sc_law.nd rfl (by first | exact Or.inl rfl | exact Or.inr rfl) (de_ix (de_lst (da_cons (de_op op_gAdd de_int (de_own C__law_draw (hr.mono (by decide)) (by rfl) (da_cons (de_name (pv 1)) (da_cons de_int da_nil)))) (da_cons (de_op op_gAdd de_int (de_own C__law_draw (hr.mono (by decide)) (by rfl) (da_cons (de_name (pv 1)) (da_cons de_int da_nil)))) (da_cons (de_own C__law_draw (hr.mono (by decide)) (by rfl) (da_cons (de_name (pv 1)) (da_cons de_int da_nil))) da_nil)))) (de_name (pv 2))))
    (ds_cons (ds_set (i := 4) sc_law.nd rfl (by first | exact Or.inl rfl | exact Or.inr rfl) (de_own C__law_pupils (hr.mono (by decide)) (by rfl) (da_cons (de_name (pv 1)) (da_cons (de_name (pv 3)) da_nil))))
    (ds_cons (ds_set (i := 5) sc_law.nd rfl (by first | exact Or.inl rfl | exact Or.inr rfl) (de_fnT cr_gListOf (by rfl) z_list rfl (da_cons (de_name (pv 4)) da_nil)))
    (ds_cons (ds_set (i := 6) sc_law.nd rfl (by first | exact Or.inl rfl | exact Or.inr rfl) (de_own C__law_both (hr.mono (by decide)) (by rfl) (da_cons (de_name (pv 3)) (da_cons (de_name (pv 4)) da_nil))))
    (ds_cons (ds_set (i := 7) sc_law.nd rfl (by first | exact Or.inl rfl | exact Or.inr rfl) (de_lst da_nil))
    (ds_cons (ds_for PassesOwn.never rfl (di_range1 (by rfl) z_range (da_cons (de_name (pv 3)) da_nil)) (dg_name (i := 8) sc_law.nd rfl (by first | exact Or.inl rfl | exact Or.inr rfl))
      (ds_one (ds_set (i := 7) sc_law.nd rfl (by first | exact Or.inl rfl | exact Or.inr rfl) (de_op op_gAdd (de_name (pv 7)) (de_comp (own := [("other", 21)]) rfl sc_law.nd (di_range2 (by rfl) z_range (da_cons (de_op op_gAdd (de_name (pv 8)) de_int) (da_cons (de_name (pv 3)) da_nil))) (blkOk_by (N := N_law) (sc := (defScope s_law)) (by decide +kernel)) (fun _ _ _ _ _ => (dg_name (i := 21) sc_law.nd rfl (by first | exact Or.inl rfl | exact Or.inr rfl))) (fun _ _ _ _ _ => (dts_one (dt_cmp op_gGt (de_ix (de_ix (de_name (pv 6)) (de_name (pv 8))) (de_name (pv 21))) de_int))) (fun _ _ _ _ _ => (de_tup (da_cons (de_name (pv 8)) (da_cons (de_name (pv 21)) da_nil)))))))))
    (ds_cons (ds_set (i := 9) sc_law.nd rfl (by first | exact Or.inl rfl | exact Or.inr rfl) (de_own C_clashes (hr.mono (by decide)) (by rfl) (da_cons (de_name (pv 3)) (da_cons (de_name (pv 5)) da_nil))))
    (ds_cons (ds_if (dt_not (dt_val (de_own C__law_same (hr.mono (by decide)) (by rfl) (da_cons (de_name (pv 9)) (da_cons (de_name (pv 7)) da_nil)))))
      (ds_one (ds_ret de_bl))
      ds_nil)
    (ds_cons (ds_expr (de_mu PySem.F.slot_list_append PySem.F.type_list_append mt_gAppend (de_name (pv 9)) (da_cons (de_tup (da_cons de_int (da_cons de_int da_nil))) da_nil)))
    (ds_cons (ds_if (dw_pt (dw_and (dt_cmp (op_gEq hr.units) (de_name (pv 2)) de_int) (dw_and1 (dt_not (dt_val (de_own C__law_same (hr.mono (by decide)) (by rfl) (da_cons (de_own C_clashes (hr.mono (by decide)) (by rfl) (da_cons (de_name (pv 3)) (da_cons (de_name (pv 5)) da_nil))) (da_cons (de_name (pv 7)) da_nil))))))))
      (ds_one (ds_ret de_bl))
      ds_nil)
    (ds_cons (ds_set (i := 10) sc_law.nd rfl (by first | exact Or.inl rfl | exact Or.inr rfl) (de_comp (own := [("exam", 23)]) rfl sc_law.nd (di_range1 (by rfl) z_range (da_cons (de_name (pv 3)) da_nil)) (blkOk_by (N := N_law) (sc := (defScope s_law)) (by decide +kernel)) (fun _ _ _ _ _ => (dg_name (i := 23) sc_law.nd rfl (by first | exact Or.inl rfl | exact Or.inr rfl))) (fun _ _ _ _ _ => dts_nil) (fun _ _ _ _ _ => (de_fnB cr_gLen (by rfl) z_len PySem.boot_len (da_cons (de_comp (own := [("far", 22)]) rfl sc_law.nd (di_range1 (by rfl) z_range (da_cons (de_name (pv 3)) da_nil)) (blkOk_by (N := N_law) (sc := (relS (scopeAt s_law 1) (defScope s_law))) (by decide +kernel)) (fun _ _ _ _ _ => (dg_name (i := 22) sc_law.nd rfl (by first | exact Or.inl rfl | exact Or.inr rfl))) (fun _ _ _ _ _ => (dts_one (dt_cmp op_gGt (de_ix (de_ix (de_name (pv 6)) (de_name (pv 23))) (de_name (pv 22))) de_int))) (fun _ _ _ _ _ => (de_name (pv 22)))) da_nil)))))
    (ds_cons (ds_setLc (i := 11) (own := [("minus", 24), ("exam", 23)]) rfl sc_law.nd rfl rfl (sw_true rfl rfl rfl (by decide +kernel)) (di_list (de_fnB (cr_gSortD (room65 hr)) (by rfl) z_sorted rfl (da_cons (de_comp (own := [("exam", 23)]) rfl sc_law.nd (di_range1 (by rfl) z_range (da_cons (de_name (pv 3)) da_nil)) (blkOk_by (N := N_law) (sc := (defScope s_law)) (by decide +kernel)) (fun _ _ _ _ _ => (dg_name (i := 23) sc_law.nd rfl (by first | exact Or.inl rfl | exact Or.inr rfl))) (fun _ _ _ _ _ => dts_nil) (fun _ _ _ _ _ => (de_tup (da_cons (de_un un_gNeg (de_ix (de_name (pv 10)) (de_name (pv 23)))) (da_cons (de_name (pv 23)) da_nil))))) da_nil))) (blkOk_by (N := N_law) (sc := (defScope s_law)) (by decide +kernel)) (fun _ _ _ _ _ => (dg_tup rfl (dgs_cons (dg_name (i := 24) sc_law.nd rfl (by first | exact Or.inl rfl | exact Or.inr rfl)) (dgs_cons (dg_name (i := 23) sc_law.nd rfl (by first | exact Or.inl rfl | exact Or.inr rfl)) dgs_nil)))) (fun _ _ _ _ _ => dts_nil) (fun _ _ _ _ _ => (de_name (pv 23))))
    (ds_cons (ds_if (dt_not (dt_val (de_own C__law_same (hr.mono (by decide)) (by rfl) (da_cons (de_own C_by_most (hr.mono (by decide)) (by rfl) (da_cons (de_name (pv 3)) (da_cons (de_name (pv 5)) da_nil))) (da_cons (de_name (pv 11)) da_nil)))))
      (ds_one (ds_ret de_bl))
      ds_nil)
    (ds_cons (ds_set (i := 12) sc_law.nd rfl (by first | exact Or.inl rfl | exact Or.inr rfl) (de_lst da_nil))
    (ds_cons (ds_for PassesOwn.never rfl (di_list (de_lst (da_cons (de_own C__law_mixed (hr.mono (by decide)) (by rfl) (da_cons (de_name (pv 1)) (da_cons (de_listRg1 rfl (by rfl) z_list (by rfl) z_range (de_name (pv 3))) da_nil))) (da_cons (de_name (pv 11)) da_nil)))) (dg_name (i := 13) sc_law.nd rfl (by first | exact Or.inl rfl | exact Or.inr rfl))
      (ds_cons (ds_set (i := 14) sc_law.nd rfl (by first | exact Or.inl rfl | exact Or.inr rfl) (de_fnT cr_gListOf (by rfl) z_list rfl (da_cons (de_name (pv 13)) da_nil)))
      (ds_cons (ds_set (i := 12) sc_law.nd rfl (by first | exact Or.inl rfl | exact Or.inr rfl) (de_own C__law_one_by_one (hr.mono (by decide)) (by rfl) (da_cons (de_name (pv 3)) (da_cons (de_name (pv 6)) (da_cons (de_name (pv 13)) da_nil)))))
      (ds_one (ds_if (dw_pt (dw_or (dt_not (dt_val (de_own C__law_same (hr.mono (by decide)) (by rfl) (da_cons (de_own C_one_by_one (hr.mono (by decide)) (by rfl) (da_cons (de_name (pv 3)) (da_cons (de_name (pv 5)) (da_cons (de_name (pv 14)) da_nil)))) (da_cons (de_name (pv 12)) da_nil))))) (dw_or1 (dt_cmp (op_gNe hr.units) (de_name (pv 14)) (de_name (pv 13))))))
        (ds_one (ds_ret de_bl))
        ds_nil)))))
    (ds_cons (ds_set (i := 15) sc_law.nd rfl (by first | exact Or.inl rfl | exact Or.inr rfl) (de_own C__law_mixed (hr.mono (by decide)) (by rfl) (da_cons (de_name (pv 1)) (da_cons (de_listRg1 rfl (by rfl) z_list (by rfl) z_range (de_op op_gAdd (de_name (pv 3)) de_int)) da_nil))))
    (ds_cons (ds_set (i := 12) sc_law.nd rfl (by first | exact Or.inl rfl | exact Or.inr rfl) (de_comp (own := [("day", 16)]) rfl sc_law.nd (di_list (de_name (pv 12))) (blkOk_by (N := N_law) (sc := (defScope s_law)) (by decide +kernel)) (fun _ _ _ _ _ => (dg_name (i := 16) sc_law.nd rfl (by first | exact Or.inl rfl | exact Or.inr rfl))) (fun _ _ _ _ _ => dts_nil) (fun _ _ _ _ _ => (de_ix (de_name (pv 15)) (de_name (pv 16))))))
    (ds_cons (ds_for PassesOwn.never rfl (di_list (de_lst (da_cons (de_ifExp (dt_cmp op_gGt (de_name (pv 3)) de_int) (de_ix (de_name (pv 12)) (de_own C__law_draw (hr.mono (by decide)) (by rfl) (da_cons (de_name (pv 1)) (da_cons (de_name (pv 3)) da_nil)))) de_int) (da_cons (de_own C__law_draw (hr.mono (by decide)) (by rfl) (da_cons (de_name (pv 1)) (da_cons (de_op op_gAdd (de_name (pv 3)) de_int) da_nil))) da_nil)))) (dg_name (i := 16) sc_law.nd rfl (by first | exact Or.inl rfl | exact Or.inr rfl))
      (ds_cons (ds_set (i := 17) sc_law.nd rfl (by first | exact Or.inl rfl | exact Or.inr rfl) (de_comp (own := [("exam", 23)]) rfl sc_law.nd (di_range1 (by rfl) z_range (da_cons (de_name (pv 3)) da_nil)) (blkOk_by (N := N_law) (sc := (defScope s_law)) (by decide +kernel)) (fun _ _ _ _ _ => (dg_name (i := 23) sc_law.nd rfl (by first | exact Or.inl rfl | exact Or.inr rfl))) (fun _ _ _ _ _ => (dts_one (dt_cmp (op_gEq hr.units) (de_ix (de_name (pv 12)) (de_name (pv 23))) (de_name (pv 16))))) (fun _ _ _ _ _ => (de_name (pv 23)))))
      (ds_cons (ds_setLc (i := 18) (own := [("exam", 23)]) rfl sc_law.nd rfl rfl (sw_true rfl rfl rfl (by decide +kernel)) (di_range1 (by rfl) z_range (da_cons (de_name (pv 3)) da_nil)) (blkOk_by (N := N_law) (sc := (defScope s_law)) (by decide +kernel)) (fun _ _ _ _ _ => (dg_name (i := 23) sc_law.nd rfl (by first | exact Or.inl rfl | exact Or.inr rfl))) (fun _ _ _ _ _ => (dts_one (dw_pt (dw_and (dt_cmp (op_gNe hr.units) (de_ix (de_name (pv 12)) (de_name (pv 23))) (de_name (pv 16))) (dw_and1 (dt_cmp (op_gEq hr.units) (de_fnB (cr_gSum rfl) (by rfl) z_sum rfl (da_cons (de_comp (own := [("far", 22)]) rfl sc_law.nd (di_list (de_name (pv 17))) (blkOk_by (N := N_law) (sc := (relS (scopeAt s_law 7) (defScope s_law))) (by decide +kernel)) (fun _ _ _ _ _ => (dg_name (i := 22) sc_law.nd rfl (by first | exact Or.inl rfl | exact Or.inr rfl))) (fun _ _ _ _ _ => dts_nil) (fun _ _ _ _ _ => (de_ix (de_ix (de_name (pv 6)) (de_name (pv 23))) (de_name (pv 22))))) da_nil)) de_int)))))) (fun _ _ _ _ _ => (de_name (pv 23))))
      (ds_cons (ds_set (i := 19) sc_law.nd rfl (by first | exact Or.inl rfl | exact Or.inr rfl) (de_fnT cr_gListOf (by rfl) z_list rfl (da_cons (de_name (pv 12)) da_nil)))
      (ds_one (ds_if (dw_pt (dw_or (dt_not (dt_val (de_own C__law_same (hr.mono (by decide)) (by rfl) (da_cons (de_own C_free_exams (hr.mono (by decide)) (by rfl) (da_cons (de_name (pv 3)) (da_cons (de_name (pv 5)) (da_cons (de_name (pv 19)) (da_cons (de_name (pv 16)) da_nil))))) (da_cons (de_name (pv 18)) da_nil))))) (dw_or1 (dt_cmp (op_gNe hr.units) (de_name (pv 19)) (de_name (pv 12))))))
        (ds_one (ds_ret de_bl))
        ds_nil))))))
    (ds_cons (ds_if (dt_not (dt_val (de_own C__law_same (hr.mono (by decide)) (by rfl) (da_cons (de_own C_watchers_needed (hr.mono (by decide)) (by rfl) (da_cons (de_fnT cr_gListOf (by rfl) z_list rfl (da_cons (de_name (pv 12)) da_nil)) da_nil)) (da_cons (de_fnB (cr_gMax rfl) (by rfl) z_max rfl (da_cons (de_op op_gAdd (de_comp (own := [("day", 16)]) rfl sc_law.nd (di_list (de_name (pv 12))) (blkOk_by (N := N_law) (sc := (defScope s_law)) (by decide +kernel)) (fun _ _ _ _ _ => (dg_name (i := 16) sc_law.nd rfl (by first | exact Or.inl rfl | exact Or.inr rfl))) (fun _ _ _ _ _ => dts_nil) (fun _ _ _ _ _ => (de_fnB cr_gLen (by rfl) z_len PySem.boot_len (da_cons (de_comp (own := [("far", 22)]) rfl sc_law.nd (di_list (de_name (pv 12))) (blkOk_by (N := N_law) (sc := (relS (scopeAt s_law 9) (defScope s_law))) (by decide +kernel)) (fun _ _ _ _ _ => (dg_name (i := 22) sc_law.nd rfl (by first | exact Or.inl rfl | exact Or.inr rfl))) (fun _ _ _ _ _ => (dts_one (dt_cmp (op_gEq hr.units) (de_name (pv 22)) (de_name (pv 16))))) (fun _ _ _ _ _ => de_int)) da_nil)))) (de_lst (da_cons de_int da_nil))) da_nil)) da_nil)))))
      (ds_one (ds_ret de_bl))
      ds_nil)
    (ds_cons (ds_for PassesOwn.never rfl (di_list (de_own C__law_papers (hr.mono (by decide)) (by rfl) (da_cons (de_name (pv 1)) (da_cons (de_name (pv 3)) (da_cons (de_name (pv 12)) da_nil))))) (dg_name (i := 20) sc_law.nd rfl (by first | exact Or.inl rfl | exact Or.inr rfl))
      (ds_cons (ds_set (i := 19) sc_law.nd rfl (by first | exact Or.inl rfl | exact Or.inr rfl) (de_fnT cr_gListOf (by rfl) z_list rfl (da_cons (de_name (pv 20)) da_nil)))
      (ds_one (ds_if (dw_pt (dw_or (dt_not (dt_val (de_own C__law_same (hr.mono (by decide)) (by rfl) (da_cons (de_own C_is_plan (hr.mono (by decide)) (by rfl) (da_cons (de_name (pv 3)) (da_cons (de_name (pv 5)) (da_cons (de_name (pv 19)) da_nil)))) (da_cons (de_own C__law_right (hr.mono (by decide)) (by rfl) (da_cons (de_name (pv 3)) (da_cons (de_name (pv 6)) (da_cons (de_name (pv 20)) da_nil)))) da_nil))))) (dw_or1 (dt_cmp (op_gNe hr.units) (de_name (pv 19)) (de_name (pv 20))))))
        (ds_one (ds_ret de_bl))
        ds_nil))))
    (ds_one (ds_if (dt_cmp (op_gNe hr.units) (de_name (pv 5)) (de_name (pv 4)))
      (ds_one (ds_ret de_bl))
      ds_nil)))))))))))))))))))))))
  (ds_cons (ds_if (dw_pt (dw_or (dt_cmp op_gIsNot (de_own C_is_plan (hr.mono (by decide)) (by rfl) (da_cons de_int (da_cons (de_lst (da_cons (de_tup (da_cons de_int (da_cons de_int da_nil))) da_nil)) (da_cons (de_lst (da_cons de_int (da_cons de_int da_nil))) da_nil)))) de_bl) (dw_or (dt_cmp op_gIsNot (de_own C_is_plan (hr.mono (by decide)) (by rfl) (da_cons de_int (da_cons (de_lst (da_cons (de_tup (da_cons de_int da_nil)) (da_cons (de_tup (da_cons de_int da_nil)) da_nil))) (da_cons (de_lst (da_cons de_int (da_cons de_int da_nil))) da_nil)))) de_bl) (dw_or1 (dt_cmp op_gIsNot (de_own C_is_plan (hr.mono (by decide)) (by rfl) (da_cons de_int (da_cons (de_lst da_nil) (da_cons (de_lst (da_cons (de_un un_gNeg de_int) da_nil)) da_nil)))) de_bl)))))
    (ds_one (ds_ret de_bl))
    ds_nil)
  (ds_cons (ds_if (dt_not (dt_val (de_own C__law_same (hr.mono (by decide)) (by rfl) (da_cons (de_own C_one_by_one (hr.mono (by decide)) (by rfl) (da_cons de_int (da_cons (de_lst (da_cons (de_tup (da_cons de_int (da_cons de_int da_nil))) (da_cons (de_tup (da_cons de_int (da_cons de_int da_nil))) (da_cons (de_tup (da_cons de_int (da_cons de_int da_nil))) (da_cons (de_tup (da_cons de_int (da_cons de_int da_nil))) da_nil))))) (da_cons (de_lst (da_cons de_int (da_cons de_int (da_cons de_int (da_cons de_int da_nil))))) da_nil)))) (da_cons (de_lst (da_cons de_int (da_cons de_int (da_cons de_int (da_cons de_int da_nil))))) da_nil)))))
    (ds_one (ds_ret de_bl))
    ds_nil)
  (ds_one (ds_ret (de_and (de_own C__law_same (hr.mono (by decide)) (by rfl) (da_cons (de_own C_by_most (hr.mono (by decide)) (by rfl) (da_cons de_int (da_cons (de_lst (da_cons (de_tup (da_cons de_int (da_cons de_int da_nil))) da_nil)) da_nil))) (da_cons (de_lst (da_cons de_int (da_cons de_int (da_cons de_int da_nil)))) da_nil))) (de_one (de_own C__law_same (hr.mono (by decide)) (by rfl) (da_cons (de_own C_clashes (hr.mono (by decide)) (by rfl) (da_cons de_int (da_cons (de_lst (da_cons (de_tup (da_cons de_int (da_cons de_int (da_cons de_int da_nil)))) (da_cons (de_tup (da_cons de_int (da_cons de_int da_nil))) da_nil))) da_nil))) (da_cons (de_lst (da_cons (de_tup (da_cons de_int (da_cons de_int da_nil))) (da_cons (de_tup (da_cons de_int (da_cons de_int da_nil))) (da_cons (de_tup (da_cons de_int (da_cons de_int da_nil))) da_nil)))) da_nil)))))))))))) p_law
end
theorem all_mk {l : PySem.W.OpenLaw} {w : World} {K : PySem.W.Frag} {h : Heap} {mg : Str → Option Value} {fa : Addr} {q : Program} (X : K.In h) (G : h.Ns mainGlobals mg) (hfa : mg "law" = some (.ref fa)) (TK : TabsKnown K q h)
    {f0 : Addr} {od0 an0 : Option Addr} {sl0 : Array (Option Value)} {oc0 kV0 dc0 pm0 cd0 ct0 : Value}
    {f1 : Addr} {od1 an1 : Option Addr} {sl1 : Array (Option Value)} {oc1 kV1 dc1 pm1 cd1 ct1 : Value}
    {f2 : Addr} {od2 an2 : Option Addr} {sl2 : Array (Option Value)} {oc2 kV2 dc2 pm2 cd2 ct2 : Value}
    {f3 : Addr} {od3 an3 : Option Addr} {sl3 : Array (Option Value)} {oc3 kV3 dc3 pm3 cd3 ct3 : Value}
    {f4 : Addr} {od4 an4 : Option Addr} {sl4 : Array (Option Value)} {oc4 kV4 dc4 pm4 cd4 ct4 : Value}
    {f5 : Addr} {od5 an5 : Option Addr} {sl5 : Array (Option Value)} {oc5 kV5 dc5 pm5 cd5 ct5 : Value}
    {f6 : Addr} {od6 an6 : Option Addr} {sl6 : Array (Option Value)} {oc6 kV6 dc6 pm6 cd6 ct6 : Value}
    {f7 : Addr} {od7 an7 : Option Addr} {sl7 : Array (Option Value)} {oc7 kV7 dc7 pm7 cd7 ct7 : Value}
    {f8 : Addr} {od8 an8 : Option Addr} {sl8 : Array (Option Value)} {oc8 kV8 dc8 pm8 cd8 ct8 : Value}
    {f9 : Addr} {od9 an9 : Option Addr} {sl9 : Array (Option Value)} {oc9 kV9 dc9 pm9 cd9 ct9 : Value}
    {f10 : Addr} {od10 an10 : Option Addr} {sl10 : Array (Option Value)} {oc10 kV10 dc10 pm10 cd10 ct10 : Value}
    {f11 : Addr} {od11 an11 : Option Addr} {sl11 : Array (Option Value)} {oc11 kV11 dc11 pm11 cd11 ct11 : Value}
    {f12 : Addr} {od12 an12 : Option Addr} {sl12 : Array (Option Value)} {oc12 kV12 dc12 pm12 ct12 : Value} {cc12 P12 : Addr} {ce12 : Value} {cq12 : Option Addr} {cs12 : Array Value} {cl12 : Array (Option Value)}
    {f13 : Addr} {od13 an13 : Option Addr} {sl13 : Array (Option Value)} {oc13 kV13 dc13 pm13 cd13 ct13 : Value}
    {f14 : Addr} {od14 an14 : Option Addr} {sl14 : Array (Option Value)} {oc14 kV14 dc14 pm14 cd14 ct14 : Value}
    {f15 : Addr} {od15 an15 : Option Addr} {sl15 : Array (Option Value)} {oc15 kV15 dc15 pm15 cd15 ct15 : Value}
    {f16 : Addr} {od16 an16 : Option Addr} {sl16 : Array (Option Value)} {oc16 kV16 dc16 pm16 cd16 ct16 : Value}
    (a0 : PySem.W.nsIn K mainGlobals "_law_cell" = some (some (.ref f0))) (l0 : K.lookup f0 = some ⟨oc0, od0, .func (PySem.W.fnOf "_law_cell" "_law_cell" (defArgs s__law_cell) (defBody s__law_cell) (defScope s__law_cell) .none kV0 dc0 pm0 an0 cd0 ct0), sl0⟩) (c0 : PySem.W.codeIn K cd0 "_law_cell" = true) (k0 : PySem.W.keepIn K (.ref f0) = true)
    (a1 : PySem.W.nsIn K mainGlobals "_law_digits" = some (some (.ref f1))) (l1 : K.lookup f1 = some ⟨oc1, od1, .func (PySem.W.fnOf "_law_digits" "_law_digits" (defArgs s__law_digits) (defBody s__law_digits) (defScope s__law_digits) .none kV1 dc1 pm1 an1 cd1 ct1), sl1⟩) (c1 : PySem.W.codeIn K cd1 "_law_digits" = true) (k1 : PySem.W.keepIn K (.ref f1) = true)
    (a2 : PySem.W.nsIn K mainGlobals "_law_draw" = some (some (.ref f2))) (l2 : K.lookup f2 = some ⟨oc2, od2, .func (PySem.W.fnOf "_law_draw" "_law_draw" (defArgs s__law_draw) (defBody s__law_draw) (defScope s__law_draw) .none kV2 dc2 pm2 an2 cd2 ct2), sl2⟩) (c2 : PySem.W.codeIn K cd2 "_law_draw" = true) (k2 : PySem.W.keepIn K (.ref f2) = true)
    (a3 : PySem.W.nsIn K mainGlobals "_law_mixed" = some (some (.ref f3))) (l3 : K.lookup f3 = some ⟨oc3, od3, .func (PySem.W.fnOf "_law_mixed" "_law_mixed" (defArgs s__law_mixed) (defBody s__law_mixed) (defScope s__law_mixed) .none kV3 dc3 pm3 an3 cd3 ct3), sl3⟩) (c3 : PySem.W.codeIn K cd3 "_law_mixed" = true) (k3 : PySem.W.keepIn K (.ref f3) = true)
    (a4 : PySem.W.nsIn K mainGlobals "_law_pupils" = some (some (.ref f4))) (l4 : K.lookup f4 = some ⟨oc4, od4, .func (PySem.W.fnOf "_law_pupils" "_law_pupils" (defArgs s__law_pupils) (defBody s__law_pupils) (defScope s__law_pupils) .none kV4 dc4 pm4 an4 cd4 ct4), sl4⟩) (c4 : PySem.W.codeIn K cd4 "_law_pupils" = true) (k4 : PySem.W.keepIn K (.ref f4) = true)
    (a5 : PySem.W.nsIn K mainGlobals "_law_both" = some (some (.ref f5))) (l5 : K.lookup f5 = some ⟨oc5, od5, .func (PySem.W.fnOf "_law_both" "_law_both" (defArgs s__law_both) (defBody s__law_both) (defScope s__law_both) .none kV5 dc5 pm5 an5 cd5 ct5), sl5⟩) (c5 : PySem.W.codeIn K cd5 "_law_both" = true) (k5 : PySem.W.keepIn K (.ref f5) = true)
    (a6 : PySem.W.nsIn K mainGlobals "clashes" = some (some (.ref f6))) (l6 : K.lookup f6 = some ⟨oc6, od6, .func (PySem.W.fnOf "clashes" "clashes" (defArgs s_clashes) (defBody s_clashes) (defScope s_clashes) .none kV6 dc6 pm6 an6 cd6 ct6), sl6⟩) (c6 : PySem.W.codeIn K cd6 "clashes" = true) (k6 : PySem.W.keepIn K (.ref f6) = true)
    (a7 : PySem.W.nsIn K mainGlobals "_law_papers" = some (some (.ref f7))) (l7 : K.lookup f7 = some ⟨oc7, od7, .func (PySem.W.fnOf "_law_papers" "_law_papers" (defArgs s__law_papers) (defBody s__law_papers) (defScope s__law_papers) .none kV7 dc7 pm7 an7 cd7 ct7), sl7⟩) (c7 : PySem.W.codeIn K cd7 "_law_papers" = true) (k7 : PySem.W.keepIn K (.ref f7) = true)
    (a8 : PySem.W.nsIn K mainGlobals "_law_same" = some (some (.ref f8))) (l8 : K.lookup f8 = some ⟨oc8, od8, .func (PySem.W.fnOf "_law_same" "_law_same" (defArgs s__law_same) (defBody s__law_same) (defScope s__law_same) .none kV8 dc8 pm8 an8 cd8 ct8), sl8⟩) (c8 : PySem.W.codeIn K cd8 "_law_same" = true) (k8 : PySem.W.keepIn K (.ref f8) = true)
    (a9 : PySem.W.nsIn K mainGlobals "_law_one_by_one" = some (some (.ref f9))) (l9 : K.lookup f9 = some ⟨oc9, od9, .func (PySem.W.fnOf "_law_one_by_one" "_law_one_by_one" (defArgs s__law_one_by_one) (defBody s__law_one_by_one) (defScope s__law_one_by_one) .none kV9 dc9 pm9 an9 cd9 ct9), sl9⟩) (c9 : PySem.W.codeIn K cd9 "_law_one_by_one" = true) (k9 : PySem.W.keepIn K (.ref f9) = true)
    (a10 : PySem.W.nsIn K mainGlobals "is_plan" = some (some (.ref f10))) (l10 : K.lookup f10 = some ⟨oc10, od10, .func (PySem.W.fnOf "is_plan" "is_plan" (defArgs s_is_plan) (defBody s_is_plan) (defScope s_is_plan) .none kV10 dc10 pm10 an10 cd10 ct10), sl10⟩) (c10 : PySem.W.codeIn K cd10 "is_plan" = true) (k10 : PySem.W.keepIn K (.ref f10) = true)
    (a11 : PySem.W.nsIn K mainGlobals "one_by_one" = some (some (.ref f11))) (l11 : K.lookup f11 = some ⟨oc11, od11, .func (PySem.W.fnOf "one_by_one" "one_by_one" (defArgs s_one_by_one) (defBody s_one_by_one) (defScope s_one_by_one) .none kV11 dc11 pm11 an11 cd11 ct11), sl11⟩) (c11 : PySem.W.codeIn K cd11 "one_by_one" = true) (k11 : PySem.W.keepIn K (.ref f11) = true)
    (a12 : PySem.W.nsIn K mainGlobals "by_most" = some (some (.ref f12))) (l12 : K.lookup f12 = some ⟨oc12, od12, .func (PySem.W.fnOf "by_most" "by_most" (defArgs s_by_most) (defBody s_by_most) (defScope s_by_most) .none kV12 dc12 pm12 an12 (.ref cc12) ct12), sl12⟩) (c12 : PySem.W.codeIn K (.ref cc12) "by_most" = true) (k12 : PySem.W.keepIn K (.ref f12) = true) (m12 : K.lookup cc12 = some ⟨ce12, cq12, .fields cs12, cl12⟩) (v12 : cs12[11]? = some (.ref P12)) (r12 : ((PyProof.Rows.recsOf q).any fun e => e.name == "by_most") = true)
    (a13 : PySem.W.nsIn K mainGlobals "watchers_needed" = some (some (.ref f13))) (l13 : K.lookup f13 = some ⟨oc13, od13, .func (PySem.W.fnOf "watchers_needed" "watchers_needed" (defArgs s_watchers_needed) (defBody s_watchers_needed) (defScope s_watchers_needed) .none kV13 dc13 pm13 an13 cd13 ct13), sl13⟩) (c13 : PySem.W.codeIn K cd13 "watchers_needed" = true) (k13 : PySem.W.keepIn K (.ref f13) = true)
    (a14 : PySem.W.nsIn K mainGlobals "free_exams" = some (some (.ref f14))) (l14 : K.lookup f14 = some ⟨oc14, od14, .func (PySem.W.fnOf "free_exams" "free_exams" (defArgs s_free_exams) (defBody s_free_exams) (defScope s_free_exams) .none kV14 dc14 pm14 an14 cd14 ct14), sl14⟩) (c14 : PySem.W.codeIn K cd14 "free_exams" = true) (k14 : PySem.W.keepIn K (.ref f14) = true)
    (a15 : PySem.W.nsIn K mainGlobals "_law_right" = some (some (.ref f15))) (l15 : K.lookup f15 = some ⟨oc15, od15, .func (PySem.W.fnOf "_law_right" "_law_right" (defArgs s__law_right) (defBody s__law_right) (defScope s__law_right) .none kV15 dc15 pm15 an15 cd15 ct15), sl15⟩) (c15 : PySem.W.codeIn K cd15 "_law_right" = true) (k15 : PySem.W.keepIn K (.ref f15) = true)
    (a16 : PySem.W.nsIn K mainGlobals "law" = some (some (.ref f16))) (l16 : K.lookup f16 = some ⟨oc16, od16, .func (PySem.W.fnOf "law" "law" (defArgs s_law) (defBody s_law) (defScope s_law) .none kV16 dc16 pm16 an16 cd16 ct16), sl16⟩) (c16 : PySem.W.codeIn K cd16 "law" = true) (k16 : PySem.W.keepIn K (.ref f16) = true)
    (z_len : PySem.W.nsIn K mainGlobals "len" = some none)
    (z_range : PySem.W.nsIn K mainGlobals "range" = some none)
    (z_int : PySem.W.nsIn K mainGlobals "int" = some none)
    (z_list : PySem.W.nsIn K mainGlobals "list" = some none)
    (z_max : PySem.W.nsIn K mainGlobals "max" = some none)
    (z_sorted : PySem.W.nsIn K mainGlobals "sorted" = some none)
    (z_tuple : PySem.W.nsIn K mainGlobals "tuple" = some none)
    (z_any : PySem.W.nsIn K mainGlobals "any" = some none)
    (z_isinstance : PySem.W.nsIn K mainGlobals "isinstance" = some none)
    (z_str : PySem.W.nsIn K mainGlobals "str" = some none)
    (z_repr : PySem.W.nsIn K mainGlobals "repr" = some none)
    (z_bool : PySem.W.nsIn K mainGlobals "bool" = some none)
    (z_all : PySem.W.nsIn K mainGlobals "all" = some none)
    (z_min : PySem.W.nsIn K mainGlobals "min" = some none)
    (z_sum : PySem.W.nsIn K mainGlobals "sum" = some none)
    (nt : PySem.W.noTabs K = true) (nd : ([P12] : List Addr).Nodup) :
    LamX.LawAtS l w K CX0 13 63 "script" mg fa h := by
  have e := hfa.symm.trans (PySem.W.mg_of X G a16)
  cases e
  have F0 := fun_mk (st := s__law_cell) l0 c0 k0
  have b0 := F0.binds (ps := ["script", "k"]) fun _ _ _ _ _ _ us hl => match us, hl with | [_, _], _ => rfl
  have F1 := fun_mk (st := s__law_digits) l1 c1 k1
  have b1 := F1.binds (ps := ["script", "first", "last"]) fun _ _ _ _ _ _ us hl => match us, hl with | [_, _, _], _ => rfl
  have F2 := fun_mk (st := s__law_draw) l2 c2 k2
  have b2 := F2.binds (ps := ["box", "many"]) fun _ _ _ _ _ _ us hl => match us, hl with | [_, _], _ => rfl
  have F3 := fun_mk (st := s__law_mixed) l3 c3 k3
  have b3 := F3.binds (ps := ["box", "row"]) fun _ _ _ _ _ _ us hl => match us, hl with | [_, _], _ => rfl
  have F4 := fun_mk (st := s__law_pupils) l4 c4 k4
  have b4 := F4.binds (ps := ["box", "exams"]) fun _ _ _ _ _ _ us hl => match us, hl with | [_, _], _ => rfl
  have F5 := fun_mk (st := s__law_both) l5 c5 k5
  have b5 := F5.binds (ps := ["exams", "those"]) fun _ _ _ _ _ _ us hl => match us, hl with | [_, _], _ => rfl
  have F6 := fun_mk (st := s_clashes) l6 c6 k6
  have b6 := F6.binds (ps := ["exams", "pupils"]) fun _ _ _ _ _ _ us hl => match us, hl with | [_, _], _ => rfl
  have F7 := fun_mk (st := s__law_papers) l7 c7 k7
  have b7 := F7.binds (ps := ["box", "exams", "plan"]) fun _ _ _ _ _ _ us hl => match us, hl with | [_, _, _], _ => rfl
  have F8 := fun_mk (st := s__law_same) l8 c8 k8
  have b8 := F8.binds (ps := ["told", "due"]) fun _ _ _ _ _ _ us hl => match us, hl with | [_, _], _ => rfl
  have F9 := fun_mk (st := s__law_one_by_one) l9 c9 k9
  have b9 := F9.binds (ps := ["exams", "both", "order"]) fun _ _ _ _ _ _ us hl => match us, hl with | [_, _, _], _ => rfl
  have F10 := fun_mk (st := s_is_plan) l10 c10 k10
  have b10 := F10.binds (ps := ["exams", "pupils", "plan"]) fun _ _ _ _ _ _ us hl => match us, hl with | [_, _, _], _ => rfl
  have F11 := fun_mk (st := s_one_by_one) l11 c11 k11
  have b11 := F11.binds (ps := ["exams", "pupils", "order"]) fun _ _ _ _ _ _ us hl => match us, hl with | [_, _, _], _ => rfl
  have F12 := fun_mk (st := s_by_most) l12 c12 k12
  have b12 := F12.binds (ps := ["exams", "pupils"]) fun _ _ _ _ _ _ us hl => match us, hl with | [_, _], _ => rfl
  have F13 := fun_mk (st := s_watchers_needed) l13 c13 k13
  have b13 := F13.binds (ps := ["plan"]) fun _ _ _ _ _ _ us hl => match us, hl with | [_], _ => rfl
  have F14 := fun_mk (st := s_free_exams) l14 c14 k14
  have b14 := F14.binds (ps := ["exams", "pupils", "plan", "day"]) fun _ _ _ _ _ _ us hl => match us, hl with | [_, _, _, _], _ => rfl
  have F15 := fun_mk (st := s__law_right) l15 c15 k15
  have b15 := F15.binds (ps := ["exams", "both", "plan"]) fun _ _ _ _ _ _ us hl => match us, hl with | [_, _, _], _ => rfl
  have F16 := fun_mk (st := s_law) l16 c16 k16
  have g12 := TK.at X nt r12 a12 l12 rfl m12 v12
  refine ⟨PySem.W.fnOf "law" "law" (defArgs s_law) (defBody s_law) (defScope s_law) .none kV16 dc16 pm16 an16 cd16 ct16, [(cc12, P12)], @spT (layT [(P12, "by_most.<locals>.<lambda>")]) K m_law t_law, (List.forall_mem_cons.mpr ⟨g12.2.1, (fun _ h => absurd h List.not_mem_nil)⟩), (List.forall_mem_cons.mpr ⟨g12.2.2, (fun _ h => absurd h List.not_mem_nil)⟩), (List.forall_mem_cons.mpr ⟨g12.1, (fun _ h => absurd h List.not_mem_nil)⟩), fun s v => .of_eq rfl, fun H a ns _ _ hH hS => law_spT (List.forall_mem_cons.mpr ⟨hH (cc12, P12) (by simp), (fun _ h => absurd h List.not_mem_nil)⟩) hS, fun base _ _ TB => ?_⟩
  letI : Lay := layT [(P12, "by_most.<locals>.<lambda>")]
  have C__law_cell := w__law_cell (P := l.prog) (w := w) (base := base) F0 (PySem.W.mg_of X G a0) b0 (PySem.W.mg_none_of X G z_len)
  have C__law_digits := w__law_digits (P := l.prog) (w := w) (base := base) F1 (PySem.W.mg_of X G a1) b1 (PySem.W.mg_none_of X G z_range) C__law_cell (PySem.W.mg_none_of X G z_int)
  have C__law_draw := w__law_draw (P := l.prog) (w := w) (base := base) F2 (PySem.W.mg_of X G a2) b2 (PySem.W.mg_none_of X G z_len) (PySem.W.mg_none_of X G z_int)
  have C__law_mixed := w__law_mixed (P := l.prog) (w := w) (base := base) F3 (PySem.W.mg_of X G a3) b3 (PySem.W.mg_none_of X G z_list) (PySem.W.mg_none_of X G z_len) (PySem.W.mg_none_of X G z_range) C__law_draw
  have C__law_pupils := w__law_pupils (P := l.prog) (w := w) (base := base) F4 (PySem.W.mg_of X G a4) b4 C__law_draw (PySem.W.mg_none_of X G z_list) (PySem.W.mg_none_of X G z_range) C__law_mixed (PySem.W.mg_none_of X G z_max) (PySem.W.mg_none_of X G z_int) (PySem.W.mg_none_of X G z_sorted) (PySem.W.mg_none_of X G z_tuple)
  have C__law_both := w__law_both (P := l.prog) (w := w) (base := base) F5 (PySem.W.mg_of X G a5) b5 (PySem.W.mg_none_of X G z_range)
  have C_clashes := w_clashes (P := l.prog) (w := w) (base := base) F6 (PySem.W.mg_of X G a6) b6 (PySem.W.mg_none_of X G z_range) (PySem.W.mg_none_of X G z_any)
  have C__law_papers := w__law_papers (P := l.prog) (w := w) (base := base) F7 (PySem.W.mg_of X G a7) b7 (PySem.W.mg_none_of X G z_list) (PySem.W.mg_none_of X G z_range) C__law_draw (PySem.W.mg_none_of X G z_max) (PySem.W.mg_none_of X G z_int)
  have C__law_same := w__law_same (P := l.prog) (w := w) (base := base) F8 (PySem.W.mg_of X G a8) b8 (PySem.W.mg_none_of X G z_isinstance) (PySem.W.mg_none_of X G z_str) (PySem.W.mg_none_of X G z_repr) (PySem.W.mg_none_of X G z_int) (PySem.W.mg_none_of X G z_bool) (PySem.W.mg_none_of X G z_tuple) (PySem.W.mg_none_of X G z_list) (PySem.W.mg_none_of X G z_len) (PySem.W.mg_none_of X G z_range)
  have C__law_one_by_one := w__law_one_by_one (P := l.prog) (w := w) (base := base) F9 (PySem.W.mg_of X G a9) b9 (PySem.W.mg_none_of X G z_list) (PySem.W.mg_none_of X G z_range)
  have C_is_plan := w_is_plan (P := l.prog) (w := w) (base := base) F10 (PySem.W.mg_of X G a10) b10 (PySem.W.mg_none_of X G z_len) (PySem.W.mg_none_of X G z_all) C_clashes
  have C_one_by_one := w_one_by_one (P := l.prog) (w := w) (base := base) F11 (PySem.W.mg_of X G a11) b11 C_clashes (PySem.W.mg_none_of X G z_range) (PySem.W.mg_none_of X G z_max) (PySem.W.mg_none_of X G z_min)
  have C_by_most := w_by_most (P := l.prog) (w := w) (base := base) F12 (PySem.W.mg_of X G a12) b12 C_clashes (PySem.W.mg_none_of X G z_len) (LT.mk' (TB (cc12, P12) (by simp)) rfl (by simp) nd) (PySem.W.mg_none_of X G z_sorted) (PySem.W.mg_none_of X G z_range)
  have C_watchers_needed := w_watchers_needed (P := l.prog) (w := w) (base := base) F13 (PySem.W.mg_of X G a13) b13 (PySem.W.mg_none_of X G z_max)
  have C_free_exams := w_free_exams (P := l.prog) (w := w) (base := base) F14 (PySem.W.mg_of X G a14) b14 C_clashes (PySem.W.mg_none_of X G z_range) (PySem.W.mg_none_of X G z_max) (PySem.W.mg_none_of X G z_min) (PySem.W.mg_none_of X G z_any)
  have C__law_right := w__law_right (P := l.prog) (w := w) (base := base) F15 (PySem.W.mg_of X G a15) b15 (PySem.W.mg_none_of X G z_len) (PySem.W.mg_none_of X G z_range)
  exact w_law F16 C__law_digits (PySem.W.mg_none_of X G z_range) C__law_draw C__law_pupils (PySem.W.mg_none_of X G z_list) C__law_both C_clashes C__law_same (PySem.W.mg_none_of X G z_len) (PySem.W.mg_none_of X G z_sorted) C_by_most C__law_mixed C__law_one_by_one C_one_by_one (PySem.W.mg_none_of X G z_sum) C_free_exams (PySem.W.mg_none_of X G z_max) C_watchers_needed C__law_papers C__law_right C_is_plan
theorem walk {l : PySem.W.OpenLaw} {q : Program} {loose : List Str} {XP : (Str → Option Value) → Heap → Prop} {YP : World → Heap → Prop} {d : DefRec} {K : Params → PySem.W.Frag} (hn : l.most = some 63) (hdf : d.params.defaults = [])
    (hY : ∀ (w : World) (h : Heap), YP w h → (K w.params).In h)
    (F : ∀ (w : World) (mg : Str → Option Value) (fa : Addr) (h : Heap), (K w.params).In h → h.Ns mainGlobals mg → mg d.name = some (.ref fa) → TabsKnown (K w.params) q h → LamX.LawAtS l w (K w.params) CX0 13 63 "script" mg fa h) :
    PySem.W.WalkO q loose XP YP l.row.toRowW d [] (fun f vs => PySem.call f vs) :=
  walk_ofLam (n := 63) (k := 13) (x := "script") (CX := fun _ => CX0) hn (by decide) hdf ⟨rfl, by decide, by decide⟩ hY F fun _ _ _ _ _ z => z
end TL.k50
open PySem PySem.W PyProof.Rows
set_option maxHeartbeats 0 in
theorem PySem.Challenge.cw_schoollands_k50_whole_plans_of_exams_holds : PySem.Challenge.rw_schoollands_k50_whole_plans_of_exams.Holds := by
  w_on; o_law; k_head; (case hw => w_witness2)
  k_fill
  refine TL.k50.walk (l := PySem.Challenge.rw_schoollands_k50_whole_plans_of_exams) rfl rfl (fun w h Y => by first | exact PySem.W.kIn_of Y | exact PySem.W.km_in_of Y) ?F
  case F =>
    intro w mg fa h KX G hmg TK
    refine' TL.k50.all_mk KX G hmg TK ?a0 ?l0 ?c0 ?k0 ?a1 ?l1 ?c1 ?k1 ?a2 ?l2 ?c2 ?k2 ?a3 ?l3 ?c3 ?k3 ?a4 ?l4 ?c4 ?k4 ?a5 ?l5 ?c5 ?k5 ?a6 ?l6 ?c6 ?k6 ?a7 ?l7 ?c7 ?k7 ?a8 ?l8 ?c8 ?k8 ?a9 ?l9 ?c9 ?k9 ?a10 ?l10 ?c10 ?k10 ?a11 ?l11 ?c11 ?k11 ?a12 ?l12 ?c12 ?k12 ?m12 ?v12 ?r12 ?a13 ?l13 ?c13 ?k13 ?a14 ?l14 ?c14 ?k14 ?a15 ?l15 ?c15 ?k15 ?a16 ?l16 ?c16 ?k16 ?z_len ?z_range ?z_int ?z_list ?z_max ?z_sorted ?z_tuple ?z_any ?z_isinstance ?z_str ?z_repr ?z_bool ?z_all ?z_min ?z_sum ?nt ?nd
    (case a0 => k_is); (case l0 => k_is); (case c0 => k_is); (case k0 => k_is); (case a1 => k_is); (case l1 => k_is); (case c1 => k_is); (case k1 => k_is)
    (case a2 => k_is); (case l2 => k_is); (case c2 => k_is); (case k2 => k_is); (case a3 => k_is); (case l3 => k_is); (case c3 => k_is); (case k3 => k_is)
    (case a4 => k_is); (case l4 => k_is); (case c4 => k_is); (case k4 => k_is); (case a5 => k_is); (case l5 => k_is); (case c5 => k_is); (case k5 => k_is)
    (case a6 => k_is); (case l6 => k_is); (case c6 => k_is); (case k6 => k_is); (case a7 => k_is); (case l7 => k_is); (case c7 => k_is); (case k7 => k_is)
    (case a8 => k_is); (case l8 => k_is); (case c8 => k_is); (case k8 => k_is); (case a9 => k_is); (case l9 => k_is); (case c9 => k_is); (case k9 => k_is)
    (case a10 => k_is); (case l10 => k_is); (case c10 => k_is); (case k10 => k_is); (case a11 => k_is); (case l11 => k_is); (case c11 => k_is); (case k11 => k_is)
    (case a12 => k_is); (case l12 => k_is); (case c12 => k_is); (case k12 => k_is); (case m12 => k_is); (case v12 => rfl); (case r12 => rfl); (case a13 => k_is)
    (case l13 => k_is); (case c13 => k_is); (case k13 => k_is); (case a14 => k_is); (case l14 => k_is); (case c14 => k_is); (case k14 => k_is); (case a15 => k_is)
    (case l15 => k_is); (case c15 => k_is); (case k15 => k_is); (case a16 => k_is); (case l16 => k_is); (case c16 => k_is); (case k16 => k_is); (case z_len => k_is)
    (case z_range => k_is); (case z_int => k_is); (case z_list => k_is); (case z_max => k_is); (case z_sorted => k_is); (case z_tuple => k_is); (case z_any => k_is); (case z_isinstance => k_is)
    (case z_str => k_is); (case z_repr => k_is); (case z_bool => k_is); (case z_all => k_is); (case z_min => k_is); (case z_sum => k_is); (case nt => kernel_rfl); (case nd => decide)
#print axioms PySem.Challenge.cw_schoollands_k50_whole_plans_of_exams_holds
