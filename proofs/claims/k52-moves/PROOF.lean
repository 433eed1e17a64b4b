import PyProof.Rows.All
import Wide.All
import OpenK.AllK
import Wide.FinOn
import HandS.ForMost
import HandS.Exc
import HandS.TryOnly
import HandS.TryMany
import HandS.ExcOwn
import HandS.WordsExc
import HandS.Flow
import HandS.IsInst
import HandS.SortRule
import HandS.SortInts
import HandS.TupAny
import HandS.TupMul
import HandS.Deep
import HandS.TupLe
import HandS.Conv
import KE.DataEq
import KE.DataCmp
import KE.DataAny
import KE.DataFind
import KE.DataIsa
import KE.DataMinMax
import KE.SortData
import HandS.Style
import HandS.Zip
import KE.GoesMore
import KE.GoesEnum
import PyProof.ReprRoads
import HandS.Text
import PyProof.StrBlock2
import PyProof.SliceStr2
import PyProof.StrLawsTight
import PyProof.StrLawsChain
import PyProof.StrLawsRepr
import PyProof.ReprLen
import PyProof.Rows.RegStrFacts
import PyProof.Rows.StrSplitJoin
import PyProof.Rows.StrItems
import PyProof.MaxThree
import HandS.SetFor
import HandS.Strs
import HandS.TupSets
import PyProof.Rows.StrSplitAre
import PySem.Challenge.RW_sandwright_k52_whole_moves
set_option Elab.async false
set_option linter.all false
set_option maxRecDepth 100000
set_option autoImplicit false
set_option maxHeartbeats 4000000
/-! The data layer: an expression of the text has a reading f : En → R PyData, a statement a reading g : En → Fl. -/
namespace DL
open PySem PySem.Spec L2

abbrev PD := PyData

/-! ### results -/
inductive R (α : Type) where
  | ok (a : α)
  | ex (c : Str) (pl : List (Str × PD))
  | bad
namespace R
variable {α β γ : Type}
def bind (r : R α) (f : α → R β) : R β := match r with
  | .ok a => f a
  | .ex c pl => .ex c pl
  | .bad => .bad
@[simp] theorem ok_bind (a : α) (f : α → R β) : (R.ok a).bind f = f a := rfl
@[simp] theorem ex_bind (c pl) (f : α → R β) : (R.ex c pl).bind f = .ex c pl := rfl
@[simp] theorem bad_bind (f : α → R β) : R.bad.bind f = .bad := rfl
theorem bind_assoc (r : R α) (f : α → R β) (g : β → R γ) : (r.bind f).bind g = r.bind fun a => (f a).bind g := by cases r <;> rfl
/-- nothing raised -/
def nx (r : R α) : R α := match r with
  | .ok a => .ok a
  | _ => .bad
@[simp] theorem ok_nx (a : α) : (R.ok a).nx = .ok a := rfl
@[simp] theorem bad_nx : (R.bad : R α).nx = .bad := rfl
@[simp] theorem ex_nx (c pl) : (R.ex c pl : R α).nx = .bad := rfl
end R

/-- a slot: nothing known; a datum; a list, a dict of the frame's own that it may change -/
inductive Sl where
  | un
  | va (d : PD)
  | ol (ds : List PD)
  | od (kvs : List (Key × PD))
  | ot (kvs : List (List Key × PD))
  | sc (ns : List Int)
def Sl.own : Sl → Bool
  | .ol _ => true
  | .od _ => true
  | .ot _ => true
  | _ => false
abbrev En := List Sl

inductive Fl where
  | nx (ρ : En)
  | rt (d : PD)
  | bk (ρ : En)
  | ct (ρ : En)
  | ex (c : Str) (pl : List (Str × PD)) (ρ : En)
  | bad

/-! ### what stands for what -/
mutual
inductive Dq (K : PySem.W.Frag) (H : Hp) : V → PD → Prop
  | non : Dq K H .non .none
  | bl (b : Bool) : Dq K H (.bl b) (.bool b)
  | int (i : Int) : Dq K H (.int i) (.int i)
  | str (x : Str) : Dq K H (.str x) (.str x)
  | lst {a : Addr} {xs : List V} {ds : List PD} : Rd H a (.lst xs) → DqAll K H xs ds → Dq K H (.ref a) (.list ds)
  | tup {a : Addr} {xs : List V} {ds : List PD} : SqT K H a xs → DqAll K H xs ds → Dq K H (.ref a) (.tuple ds)
inductive DqAll (K : PySem.W.Frag) (H : Hp) : List V → List PD → Prop
  | nil : DqAll K H [] []
  | cons {v : V} {vs : List V} {d : PD} {ds : List PD} : Dq K H v d → DqAll K H vs ds → DqAll K H (v :: vs) (d :: ds)
end
mutual
theorem dqdp {K : PySem.W.Frag} {H : Hp} : ∀ (d : PD) (v : V), Dq K H v d → L2.Dp K H v d
  | _, _, .non => .non
  | _, _, .bl b => .bl b
  | _, _, .int i => .int i
  | _, _, .str x => .str x
  | _, _, .lst h1 h2 => .lst (.inl h1) (dqdpAll _ _ h2)
  | _, _, .tup h1 h2 => .tup h1 (dqdpAll _ _ h2)
theorem dqdpAll {K : PySem.W.Frag} {H : Hp} : ∀ (ds : List PD) (vs : List V), DqAll K H vs ds → L2.DpAll K H vs ds
  | _, _, .nil => .nil
  | _, _, .cons h1 h2 => .cons (dqdp _ _ h1) (dqdpAll _ _ h2)
end
theorem Dq.dp {K : PySem.W.Frag} {H : Hp} {v : V} {d : PD} (h : Dq K H v d) : L2.Dp K H v d := dqdp _ _ h
theorem rd_mono {H H' : Hp} {a : Addr} {u : HO} (e : Same H H') (h : Rd H a u) : Rd H' a u := by
  rcases h with h | ⟨o, h⟩
  · exact .inl (e _ _ h)
  · exact .inr ⟨o, e _ _ h⟩

/-! ### heaps without some addresses -/
open Classical in
noncomputable def wo (H : Hp) (O : Addr → Prop) : Hp := fun a => if O a then none else H a
section
variable {K : PySem.W.Frag} {H H' H1 H2 : Hp} {O O' : Addr → Prop} {a p : Addr} {o : HO}
theorem wo_some (n : ¬ O a) (h : H a = some o) : wo H O a = some o := by unfold wo; rw [if_neg n]; exact h
theorem wo_inv (h : wo H O a = some o) : ¬ O a ∧ H a = some o := by
  unfold wo at h
  by_cases n : O a
  · rw [if_pos n] at h; cases h
  · rw [if_neg n] at h; exact ⟨n, h⟩
theorem wo_none (h : H a = none) : wo H O a = none := by
  unfold wo
  by_cases n : O a
  · rw [if_pos n]
  · rw [if_neg n]; exact h
theorem wo_in (h : O a) : wo H O a = none := by unfold wo; rw [if_pos h]
theorem same_wo (e : Same H H') : Same (wo H O) (wo H' O) := fun b u h => let ⟨n, q⟩ := wo_inv h; wo_some n (e b u q)
theorem wo_sub (e : ∀ p, O p → O' p) : Same (wo H O') (wo H O) := fun b u h => let ⟨n, q⟩ := wo_inv h; wo_some (fun z => n (e b z)) q
theorem wo_self : Same (wo H O) H := fun b u h => (wo_inv h).2
theorem wo_upd (h : O p) : wo (upd H p o) O = wo H O := by
  funext b
  unfold wo
  by_cases n : O b
  · rw [if_pos n, if_pos n]
  · rw [if_neg n, if_neg n, upd_ne (fun z => n (by rw [z]; exact h))]
theorem _root_.L2.Same.updNew (h : H p = none) : Same H (upd H p o) := fun b u e => by rw [upd_ne (ne_of_none e h)]; exact e
theorem _root_.L2.Same.seqT (e : Same H H') {xs : List V} (h : SqT K H a xs) : SqT K H' a xs := by
  rcases h with (h | ⟨o, h⟩) | h
  · exact .inl (.inl (e _ _ h))
  · exact .inl (.inr ⟨o, e _ _ h⟩)
  · exact .inr h
mutual
theorem dmono (e : Same H H') : ∀ (d : PD) (v : V), Dq K H v d → Dq K H' v d
  | _, _, .non => .non
  | _, _, .bl b => .bl b
  | _, _, .int i => .int i
  | _, _, .str x => .str x
  | _, _, .lst h1 h2 => .lst (rd_mono e h1) (dmonoAll e _ _ h2)
  | _, _, .tup h1 h2 => .tup (Same.seqT e h1) (dmonoAll e _ _ h2)
theorem dmonoAll (e : Same H H') : ∀ (ds : List PD) (vs : List V), DqAll K H vs ds → DqAll K H' vs ds
  | _, _, .nil => .nil
  | _, _, .cons h1 h2 => .cons (dmono e _ _ h1) (dmonoAll e _ _ h2)
end
theorem Dq.mono {v : V} {d : PD} (h : Dq K H v d) (e : Same H H') : Dq K H' v d := dmono e _ _ h
theorem DqAll.mono {vs : List V} {ds : List PD} (h : DqAll K H vs ds) (e : Same H H') : DqAll K H' vs ds := dmonoAll e _ _ h
end
section
variable {K : PySem.W.Frag} {H : Hp}
theorem DqAll.length : ∀ {vs : List V} {ds : List PyData}, DqAll K H vs ds → vs.length = ds.length
  | _, _, .nil => rfl
  | _, _, .cons _ h => congrArg (· + 1) (DqAll.length h)
theorem DqAll.get : ∀ {vs : List V} {ds : List PyData} {i : Nat} {d : PyData}, DqAll K H vs ds → ds[i]? = some d → ∃ v, vs[i]? = some v ∧ Dq K H v d
  | _, _, _, _, .nil, e => by simp at e
  | _, _, 0, _, .cons r _, e => by simp at e; subst e; exact ⟨_, rfl, r⟩
  | _, _, i + 1, d, .cons _ t, e => by
    obtain ⟨u, h1, h2⟩ := DqAll.get (i := i) (d := d) t (by simpa using e)
    exact ⟨u, by simpa using h1, h2⟩
theorem DqAll.getV : ∀ {vs : List V} {ds : List PyData} {i : Nat} {v : V}, DqAll K H vs ds → vs[i]? = some v → ∃ d, ds[i]? = some d ∧ Dq K H v d
  | _, _, _, _, .nil, e => by simp at e
  | _, _, 0, _, .cons r _, e => by simp at e; subst e; exact ⟨_, rfl, r⟩
  | _, _, i + 1, d, .cons _ t, e => by
    obtain ⟨u, h1, h2⟩ := DqAll.getV (i := i) (v := d) t (by simpa using e)
    exact ⟨u, by simpa using h1, h2⟩
theorem DqAll.append : ∀ {vs ws : List V} {ds es : List PyData}, DqAll K H vs ds → DqAll K H ws es → DqAll K H (vs ++ ws) (ds ++ es)
  | _, _, _, _, .nil, h => h
  | _, _, _, _, .cons a b, h => .cons a (DqAll.append b h)
theorem DqAll.set {x : V} {d : PyData} (r : Dq K H x d) : ∀ {vs : List V} {ds : List PyData} (i : Nat), DqAll K H vs ds → DqAll K H (vs.set i x) (ds.set i d)
  | _, _, _, .nil => .nil
  | _, _, 0, .cons _ t => .cons r t
  | _, _, i + 1, .cons q t => .cons q (DqAll.set r i t)
theorem DqAll.take : ∀ {vs : List V} {ds : List PyData} (n : Nat), DqAll K H vs ds → DqAll K H (vs.take n) (ds.take n)
  | _, _, 0, _ => .nil
  | _, _, _ + 1, .nil => .nil
  | _, _, n + 1, .cons r t => .cons r (DqAll.take n t)
theorem DqAll.drop : ∀ {vs : List V} {ds : List PyData} (n : Nat), DqAll K H vs ds → DqAll K H (vs.drop n) (ds.drop n)
  | _, _, 0, r => r
  | _, _, _ + 1, .nil => .nil
  | _, _, n + 1, .cons _ t => DqAll.drop n t
theorem DqAll.one {v : V} {d : PyData} (h : Dq K H v d) : DqAll K H [v] [d] := .cons h .nil
end
/-- a dict's entries stand for data -/
def KvR {κ : Type} (K : PySem.W.Frag) (H : Hp) : List (κ × V) → List (κ × PD) → Prop := Paired fun (p : κ × V) (q : κ × PD) => p.1 = q.1 ∧ Dq K H p.2 q.2
theorem KvR.mono {κ : Type} {K : PySem.W.Frag} {H H' : Hp} {a : List (κ × V)} {b : List (κ × PD)} (h : KvR K H a b) (e : Same H H') : KvR K H' a b :=
  Paired.mapP h fun _ _ z => ⟨z.1, z.2.mono e⟩

/-- what a slot holds -/
def SlR (K : PySem.W.Frag) (O0 O : Addr → Prop) (H : Hp) : Sl → Option (Option V) → Prop
  | .un, _ => True
  | .va d, o => ∃ v, o = some (some v) ∧ Dq K (wo H O) v d
  | .ol ds, o => ∃ p vs, o = some (some (.ref p)) ∧ O p ∧ ¬ O0 p ∧ H p = some (.lst vs) ∧ DqAll K (wo H O) vs ds
  | .od kvs, o => ∃ p ks, o = some (some (.ref p)) ∧ O p ∧ ¬ O0 p ∧ H p = some (.dK ks) ∧ KvR K (wo H O) ks kvs
  | .ot kvs, o => ∃ p ks, o = some (some (.ref p)) ∧ O p ∧ ¬ O0 p ∧ H p = some (.dT ks) ∧ KvR K (wo H O) ks kvs
  | .sc ns, o => ∃ a, o = some (some (.ref a)) ∧ SqL K (wo H O) a (ns.map V.int)

structure Rel (K : PySem.W.Frag) (H0 : Hp) (O0 O : Addr → Prop) (H : Hp) (ρ : En) (σ : L2.St) : Prop where
  fr : Same H0 H
  sub : ∀ p, O0 p → O p
  nw : ∀ p, O p → O0 p ∨ H0 p = none
  al : ∀ p, O p → H p ≠ none
  len : ρ.length = σ.length
  sl : ∀ (i : Nat) (s : Sl), ρ[i]? = some s → SlR K O0 O H s σ[i]?
  dj : ∀ (i j : Nat) (s s' : Sl) (p : Addr), i ≠ j → ρ[i]? = some s → ρ[j]? = some s' → Sl.own s = true → Sl.own s' = true → σ[i]? = some (some (.ref p)) → σ[j]? ≠ some (some (.ref p))

section
variable {K : PySem.W.Frag} {H0 H H' H1 : Hp} {O0 O : Addr → Prop} {ρ : En} {σ : L2.St} {i : Nat} {a p : Addr} {o : HO} {d : PD} {v : V}
/-- the heap grows -/
theorem SlR.grow {s : Sl} {x : Option (Option V)} (h : SlR K O0 O H s x) (e : Same H H') : SlR K O0 O H' s x := by
  cases s with
  | un => trivial
  | va d => obtain ⟨v, q, r⟩ := h; exact ⟨v, q, r.mono (same_wo e)⟩
  | ol ds => obtain ⟨p, vs, q, m, n, r, z⟩ := h; exact ⟨p, vs, q, m, n, e _ _ r, z.mono (same_wo e)⟩
  | od ks => obtain ⟨p, vs, q, m, n, r, z⟩ := h; exact ⟨p, vs, q, m, n, e _ _ r, z.mono (same_wo e)⟩
  | ot ks => obtain ⟨p, vs, q, m, n, r, z⟩ := h; exact ⟨p, vs, q, m, n, e _ _ r, z.mono (same_wo e)⟩
  | sc ns => obtain ⟨p, q, r⟩ := h; exact ⟨p, q, (same_wo e).seq r⟩
theorem Rel.grow (h : Rel K H0 O0 O H ρ σ) (e : Same H H') : Rel K H0 O0 O H' ρ σ :=
  ⟨h.fr.trans e, h.sub, h.nw, fun p q z => by
    cases hp : H p with
    | none => exact h.al p q hp
    | some u => exact absurd ((e p u hp).symm.trans z) (fun y => nomatch y), h.len, fun i s q => (h.sl i s q).grow e, h.dj⟩
/-- the frozen part at the entry stays frozen -/
theorem Rel.frz (h : Rel K H0 O0 O H ρ σ) : Same (wo H0 O0) (wo H O) := fun b u q => by
  obtain ⟨n, e⟩ := wo_inv q
  refine wo_some (fun z => ?_) (h.fr b u e)
  rcases h.nw b z with z | z
  · exact n z
  · rw [e] at z; cases z
/-- the entry moved up to here: our own things left out -/
noncomputable def baseOf (H : Hp) (O0 O : Addr → Prop) : Hp := wo H fun p => O p ∧ ¬ O0 p
theorem Rel.rebase (h : Rel K H0 O0 O H ρ σ) : Rel K (baseOf H O0 O) O0 O H ρ σ :=
  ⟨wo_self, h.sub, fun p q => by
    by_cases z : O0 p
    · exact .inl z
    · exact .inr (wo_in ⟨q, z⟩), h.al, h.len, h.sl, h.dj⟩
theorem Rel.same_base (h : Rel K H0 O0 O H ρ σ) : Same H0 (baseOf H O0 O) := fun b u e => wo_some (fun ⟨z, n⟩ => by
  rcases h.nw b z with q | q
  · exact n q
  · rw [e] at q; cases q) (h.fr b u e)
theorem Rel.back (e : Same H0 H1) {ρ' : En} {σ' : L2.St} {O' : Addr → Prop} (h : Rel K H1 O0 O' H' ρ' σ') : Rel K H0 O0 O' H' ρ' σ' :=
  ⟨e.trans h.fr, h.sub, fun p q => by
    rcases h.nw p q with z | z
    · exact .inl z
    · exact .inr (e.free z), h.al, h.len, h.sl, h.dj⟩
theorem wo_base (hs : ∀ p, O0 p → O p) : wo (baseOf H O0 O) O0 = wo H O := by
  funext b
  unfold baseOf wo
  by_cases z : O0 b
  · rw [if_pos z, if_pos (hs b z)]
  · rw [if_neg z]
    by_cases y : O b
    · rw [if_pos ⟨y, z⟩, if_pos y]
    · rw [if_neg (fun q => y q.1), if_neg y]
/-- what stood frozen at a rebased entry stands frozen later -/
theorem Rel.keep {ρ' : En} {σ' : L2.St} {O' : Addr → Prop} (h : Rel K H0 O0 O H ρ σ) (h' : Rel K (baseOf H O0 O) O0 O' H' ρ' σ') : Same (wo H O) (wo H' O') := by
  have := h'.frz
  rwa [wo_base h.sub] at this
end

/-! ### exceptions -/
/-- the exception of class c (by the module's name) with the fields pl -/
def IsEx (K : PySem.W.Frag) (mg : Str → Option Value) (c : Str) (pl : List (Str × PD)) (cls : Value) (dx : Option Addr) (G : Hp) : Prop :=
  ∃ C, mg c = some (.ref C) ∧ cls = .ref C ∧ (pl = [] ∨ ∃ p fs, dx = some p ∧ G p = some (.xd fs) ∧ KvR K G fs pl)

/-- what a result asks: P of the value and the heap, W of an exception -/
def OutP {α : Type} (X : Cx) (W : WX) (O : Addr → Prop) (σ : L2.St) (H : Hp) (r : R α) (P : α → Hp → Prop) : Prop :=
  match r with
  | .ok a => ∀ H', Same H H' → P a H'
  | .ex c pl => ∀ cls dx H', Same H H' → IsEx X.K X.mg c pl cls dx (wo H' O) → W cls dx σ H'
  | .bad => False
section
variable {α β : Type} {X : Cx} {W : WX} {O : Addr → Prop} {σ : L2.St} {H H' : Hp} {r : R α} {P P' : α → Hp → Prop}
theorem OutP.imp (h : OutP X W O σ H r P) (f : ∀ a H', Same H H' → P a H' → P' a H') : OutP X W O σ H r P' := by
  cases r with
  | ok a => exact fun H' e => f a H' e (h H' e)
  | ex c pl => exact h
  | bad => exact h
theorem OutP.bind {g : α → R β} {Q : β → Hp → Prop} (h : OutP X W O σ H (r.bind g) Q) : OutP X W O σ H r (fun a H1 => OutP X W O σ H1 (g a) Q) := by
  cases r with
  | ok a =>
    intro H1 e
    have h' : OutP X W O σ H (g a) Q := h
    show OutP X W O σ H1 (g a) Q
    generalize g a = z at h'
    cases z with
    | ok b => exact fun H' e' => h' H' (e.trans e')
    | ex c pl => exact fun cls dx H' e' => h' cls dx H' (e.trans e')
    | bad => exact h'
  | ex c pl => exact h
  | bad => exact h
theorem OutP.ok {a : α} (h : OutP X W O σ H (.ok a) P) (e : Same H H') : P a H' := h H' e
end

/-! ### expressions -/
/-- the value stands for data that no one of the frame's own things lies in -/
structure DE (X : Cx) (W : WX) (e : Expr) (f : En → R PD) : Prop where
  ex : ∃ t, PE X e t ∧ ∀ H0 O0 O ρ σ H Q, Rel X.K H0 O0 O H ρ σ → OutP X W O σ H (f ρ) (fun d H' => ∀ v, Dq X.K (wo H' O) v d → Q v H') → t σ H Q
/-- .. or is itself such a list -/
def Dt (K : PySem.W.Frag) (O : Addr → Prop) (H : Hp) (v : V) (d : PD) : Prop :=
  Dq K (wo H O) v d ∨ ∃ p vs ds, v = .ref p ∧ H p = some (.lst vs) ∧ DqAll K (wo H O) vs ds ∧ d = .list ds
structure DV (X : Cx) (W : WX) (e : Expr) (f : En → R PD) : Prop where
  ex : ∃ t, PE X e t ∧ ∀ H0 O0 O ρ σ H Q, Rel X.K H0 O0 O H ρ σ → OutP X W O σ H (f ρ) (fun d H' => ∀ v, Dt X.K O H' v d → Q v H') → t σ H Q
theorem DE.dv {X : Cx} {W : WX} {e : Expr} {f : En → R PD} (h : DE X W e f) : DV X W e f :=
  let ⟨t, p, q⟩ := h.ex
  ⟨t, p, fun H0 O0 O ρ σ H Q r o => q H0 O0 O ρ σ H Q r (o.imp fun d H' _ z v hv => z v (.inl hv))⟩
theorem Dt.mono {K : PySem.W.Frag} {O : Addr → Prop} {H H' : Hp} {v : V} {d : PD} (h : Dt K O H v d) (e : Same H H') : Dt K O H' v d := by
  rcases h with h | ⟨p, vs, ds, r, q, z, y⟩
  · exact .inl (h.mono (same_wo e))
  · exact .inr ⟨p, vs, ds, r, e _ _ q, z.mono (same_wo e), y⟩
theorem Dt.dp {K : PySem.W.Frag} {O : Addr → Prop} {H : Hp} {v : V} {d : PD} (h : Dt K O H v d) : Dq K H v d := by
  rcases h with h | ⟨p, vs, ds, rfl, q, z, rfl⟩
  · exact h.mono wo_self
  · exact .lst (.inl (q)) (z.mono wo_self)
/-- a list or tuple, its items clean -/
theorem Dt.list {K : PySem.W.Frag} {O : Addr → Prop} {H : Hp} {v : V} {ds : List PD} (h : Dt K O H v (.list ds)) : ∃ a vs, v = .ref a ∧ Rd H a (.lst vs) ∧ DqAll K (wo H O) vs ds := by
  rcases h with h | ⟨p, vs, ds', rfl, q, z, e⟩
  · cases h with
    | lst h1 h2 => exact ⟨_, _, rfl, rd_mono wo_self h1, h2⟩
  · cases e; exact ⟨p, vs, rfl, .inl q, z⟩
theorem Dt.tuple {K : PySem.W.Frag} {O : Addr → Prop} {H : Hp} {v : V} {ds : List PD} (h : Dt K O H v (.tuple ds)) : ∃ a vs, v = .ref a ∧ SqT K (wo H O) a vs ∧ DqAll K (wo H O) vs ds := by
  rcases h with h | ⟨p, vs, ds', rfl, q, z, e⟩
  · cases h with
    | tup h1 h2 => exact ⟨_, _, rfl, h1, h2⟩
  · cases e
theorem Dq.sc_int {K : PySem.W.Frag} {H : Hp} {v : V} {i : Int} (h : Dq K H v (.int i)) : v = .int i := by cases h; rfl
theorem Dq.sc_bl {K : PySem.W.Frag} {H : Hp} {v : V} {b : Bool} (h : Dq K H v (.bool b)) : v = .bl b := by cases h; rfl
theorem Dq.sc_str {K : PySem.W.Frag} {H : Hp} {v : V} {z : Str} (h : Dq K H v (.str z)) : v = .str z := by cases h; rfl
theorem Dq.sc_non {K : PySem.W.Frag} {H : Hp} {v : V} (h : Dq K H v .none) : v = .non := by cases h; rfl
theorem Dt.sc_int {K : PySem.W.Frag} {O : Addr → Prop} {H : Hp} {v : V} {i : Int} (h : Dt K O H v (.int i)) : v = .int i := h.dp.sc_int
theorem Dt.sc_bl {K : PySem.W.Frag} {O : Addr → Prop} {H : Hp} {v : V} {i : Bool} (h : Dt K O H v (.bool i)) : v = .bl i := h.dp.sc_bl
theorem Dt.sc_str {K : PySem.W.Frag} {O : Addr → Prop} {H : Hp} {v : V} {i : Str} (h : Dt K O H v (.str i)) : v = .str i := h.dp.sc_str
theorem Dt.sc_non {K : PySem.W.Frag} {O : Addr → Prop} {H : Hp} {v : V} (h : Dt K O H v .none) : v = .non := h.dp.sc_non

section
variable {X : Cx} {W : WX} {a b e : Expr} {f g : En → R PD} {pos : Pos}
def cV (i : Nat) : En → R PD := fun ρ => match ρ[i]? with
  | some (.va d) => .ok d
  | _ => .bad
/-- .. whatever kind of list it is -/
def cW (i : Nat) : En → R PD := fun ρ => match ρ[i]? with
  | some (.va d) => .ok d
  | some (.ol ds) => .ok (.list ds)
  | _ => .bad
def cK (d : PD) : En → R PD := fun _ => .ok d
theorem de_v {i : Nat} (h : PE X e (tVar i)) : DE X W e (cV i) := by
  refine ⟨_, h, fun H0 O0 O ρ σ H Q r o => ?_⟩
  unfold cV at o
  cases hs : ρ[i]? with
  | none => rw [hs] at o; exact o.elim
  | some s =>
    rw [hs] at o
    have q := r.sl i s hs
    cases s with
    | va d => obtain ⟨v, e1, e2⟩ := q; exact ⟨v, e1, o H (Same.refl H) v e2⟩
    | un => exact o.elim
    | ol _ => exact o.elim
    | od _ => exact o.elim
    | ot _ => exact o.elim
    | sc _ => exact o.elim
theorem dv_v {i : Nat} (h : PE X e (tVar i)) : DV X W e (cW i) := by
  refine ⟨_, h, fun H0 O0 O ρ σ H Q r o => ?_⟩
  unfold cW at o
  cases hs : ρ[i]? with
  | none => rw [hs] at o; exact o.elim
  | some s =>
    rw [hs] at o
    have q := r.sl i s hs
    cases s with
    | va d => obtain ⟨v, e1, e2⟩ := q; exact ⟨v, e1, o H (Same.refl H) v (.inl e2)⟩
    | un => exact o.elim
    | ol ds => obtain ⟨p, vs, e1, _, _, e2, e3⟩ := q; exact ⟨_, e1, o H (Same.refl H) _ (.inr ⟨p, vs, ds, rfl, e2, e3, rfl⟩)⟩
    | od _ => exact o.elim
    | ot _ => exact o.elim
    | sc _ => exact o.elim
/-- a constant -/
theorem de_k {v : V} {d : PD} (h : PE X e (tC v)) (hd : ∀ K H, Dq K H v d) : DE X W e (cK d) :=
  ⟨_, h, fun H0 O0 O ρ σ H Q r o => o H (Same.refl H) v (hd _ _)⟩
theorem de_int {i : Int} {j} : DE X W (.Constant (.int i) j pos) (cK (.int i)) := de_k pe_int fun _ _ => .int i
theorem de_bl {i : Bool} {j} : DE X W (.Constant (.bool i) j pos) (cK (.bool i)) := de_k pe_bl fun _ _ => .bl i
theorem de_non {j} : DE X W (.Constant .none j pos) (cK .none) := de_k pe_non fun _ _ => .non
theorem de_str {x : Str} {j} : DE X W (.Constant (.str x) j pos) (cK (.str x)) := de_k pe_str fun _ _ => .str x

/-- an operation on two values -/
def OpD (X : Cx) (op : Value → Value → Sem Value) (F : PD → PD → R PD) : Prop :=
  ∃ r, OpR X op r ∧ ∀ W O σ H x y d e Q, (∀ p, H p = none → ¬ O p) → Dt X.K O H x d → Dt X.K O H y e → OutP X W O σ H (F d e) (fun d H' => ∀ v, Dq X.K (wo H' O) v d → Q v H') → r x y H Q
def c2 (F : PD → PD → R PD) (f g : En → R PD) : En → R PD := fun ρ => (f ρ).bind fun x => (g ρ).bind fun y => F x y
theorem de_op {op : Operator} {F : PD → PD → R PD} (ho : OpD X (binaryOp op) F) (ha : DV X W a f) (hb : DV X W b g) : DE X W (.BinOp a op b pos) (c2 F f g) := by
  obtain ⟨r, h1, h2⟩ := ho
  obtain ⟨ta, pa, qa⟩ := ha.ex
  obtain ⟨tb, pb, qb⟩ := hb.ex
  refine ⟨_, pe_op h1 pa pb, fun H0 O0 O ρ σ H Q rl o => ?_⟩
  refine qa H0 O0 O ρ σ H _ rl (o.bind.imp fun d H1 e1 o1 x hx => ?_)
  refine qb H0 O0 O ρ σ H1 _ (rl.grow e1) (o1.bind.imp fun d' H2 e2 o2 y hy => ?_)
  exact h2 W O σ H2 x y d d' Q (fun p n z => ((rl.grow e1).grow e2).al p z n) (hx.mono e2) hy o2
theorem de_cmp {op : CmpOp} {F : PD → PD → R PD} (ho : OpD X (compareOp op) F) (ha : DV X W a f) (hb : DV X W b g) (hm : behindInMarks op b = false) : DE X W (.Compare a [op] [b] pos) (c2 F f g) := by
  obtain ⟨r, h1, h2⟩ := ho
  obtain ⟨ta, pa, qa⟩ := ha.ex
  obtain ⟨tb, pb, qb⟩ := hb.ex
  refine ⟨_, pe_cmpR h1 pa pb hm, fun H0 O0 O ρ σ H Q rl o => ?_⟩
  refine qa H0 O0 O ρ σ H _ rl (o.bind.imp fun d H1 e1 o1 x hx => ?_)
  refine qb H0 O0 O ρ σ H1 _ (rl.grow e1) (o1.bind.imp fun d' H2 e2 o2 y hy => ?_)
  exact h2 W O σ H2 x y d d' Q (fun p n z => ((rl.grow e1).grow e2).al p z n) (hx.mono e2) hy o2
end
end DL
namespace DL
open PySem PySem.Spec L2

/-! ### truth -/
def big : Nat := 10000000
theorem big_line {n : Nat} (h : n ≤ big) : n ≤ sizeLine := by rw [sizeLine_eq]; unfold big at h; omega
theorem big_line' {n : Nat} (h : n < big) : n < sizeLine := by rw [sizeLine_eq]; unfold big at h; omega
def chk {α : Type} (c : Bool) (r : R α) : R α := if c = true then r else .bad
@[simp] theorem chk_t {α : Type} (r : R α) : chk true r = r := rfl
@[simp] theorem chk_f {α : Type} (r : R α) : chk false r = .bad := rfl
theorem chk_of {α : Type} {c : Bool} {r : R α} (h : c = true) : chk c r = r := by rw [h]; rfl
def tru : PD → R Bool
  | .none => .ok false
  | .bool b => .ok b
  | .int i => .ok (i != 0)
  | .str z => chk (decide (z.length ≤ big)) (.ok ((z.length : Int) != 0))
  | .list xs => .ok (!xs.isEmpty)
  | .tuple xs => .ok (!xs.isEmpty)
  | .dict _ => .bad
theorem OutP.chk {α : Type} {X : Cx} {W : WX} {O : Addr → Prop} {σ : L2.St} {H : Hp} {c : Bool} {r : R α} {P : α → Hp → Prop} (h : OutP X W O σ H (chk c r) P) : c = true ∧ OutP X W O σ H r P := by
  cases c with
  | true => exact ⟨rfl, h⟩
  | false => exact h.elim
theorem all_isEmpty {K : PySem.W.Frag} {H : Hp} {vs : List V} {ds : List PD} (h : DqAll K H vs ds) : (!vs.isEmpty) = !ds.isEmpty := by cases h <;> rfl
theorem tru_of {X : Cx} {W : WX} {O : Addr → Prop} {σ : L2.St} {H : Hp} {x : V} {d : PD} {Q : Bool → Hp → Prop} (hd : Dt X.K O H x d) (o : OutP X W O σ H (tru d) Q) : ∃ k, TruV X.K x H k ∧ Q k H := by
  cases d with
  | none => cases hd.sc_non; exact ⟨false, rfl, o H (Same.refl H)⟩
  | bool b => cases hd.sc_bl; exact ⟨b, rfl, o H (Same.refl H)⟩
  | int i => cases hd.sc_int; exact ⟨_, rfl, o H (Same.refl H)⟩
  | str z =>
    cases hd.sc_str
    obtain ⟨c, o⟩ := o.chk
    exact ⟨_, ⟨big_line (of_decide_eq_true c), rfl⟩, o H (Same.refl H)⟩
  | list xs =>
    obtain ⟨a, vs, rfl, h1, h2⟩ := hd.list
    exact ⟨_, .inl ⟨vs, .inl h1, rfl⟩, by rw [all_isEmpty h2]; exact o H (Same.refl H)⟩
  | tuple xs =>
    obtain ⟨a, vs, rfl, h1, h2⟩ := hd.tuple
    exact ⟨_, .inr (.inl ⟨vs, Same.seqT wo_self h1, rfl⟩), by rw [all_isEmpty h2]; exact o H (Same.refl H)⟩
  | dict _ => exact o.elim

/-! ### tests -/
structure DB (X : Cx) (W : WX) (e : Expr) (f : En → R Bool) : Prop where
  ex : ∃ t, PT X e t ∧ ∀ H0 O0 O ρ σ H Q, Rel X.K H0 O0 O H ρ σ → OutP X W O σ H (f ρ) Q → t σ H Q
/-- .. in a chain of and, or -/
structure DW (X : Cx) (W : WX) (e : Expr) (f : En → R Bool) : Prop where
  ex : ∃ t, PW X e t ∧ ∀ H0 O0 O ρ σ H Q, Rel X.K H0 O0 O H ρ σ → OutP X W O σ H (f ρ) Q → t σ H Q
def asB : PD → R Bool
  | .bool b => .ok b
  | _ => .bad
def bT (f : En → R PD) : En → R Bool := fun ρ => (f ρ).bind tru
def bC (F : PD → PD → R PD) (f g : En → R PD) : En → R Bool := fun ρ => (c2 F f g ρ).bind asB
def bAnd (f g : En → R Bool) : En → R Bool := fun ρ => (f ρ).bind fun b => if b = true then g ρ else .ok false
def bOr (f g : En → R Bool) : En → R Bool := fun ρ => (f ρ).bind fun b => if b = true then .ok true else g ρ
def bNot (f : En → R Bool) : En → R Bool := fun ρ => (f ρ).bind fun b => .ok (!b)
section
variable {X : Cx} {W : WX} {a b c e : Expr} {rest : List Expr} {f g h : En → R PD} {p q : En → R Bool} {pos : Pos}
theorem db_t (ha : DV X W a f) (he : ∀ whole, isTrue a X.env whole = (do let v ← whole; standAt a.pos; holding [v] (truthy v))) : DB X W a (bT f) := by
  obtain ⟨ta, pa, qa⟩ := ha.ex
  refine ⟨_, pt_truth pa he, fun H0 O0 O ρ σ H Q rl o => ?_⟩
  exact qa H0 O0 O ρ σ H _ rl (o.bind.imp fun d H1 e1 o1 x hx => tru_of hx o1)
theorem db_c {op : CmpOp} {F : PD → PD → R PD} (ho : OpD X (compareOp op) F) (ha : DV X W a f) (hb : DV X W b g) (hm : behindInMarks op b = false) : DB X W (.Compare a [op] [b] pos) (bC F f g) := by
  obtain ⟨r, h1, h2⟩ := ho
  obtain ⟨ta, pa, qa⟩ := ha.ex
  obtain ⟨tb, pb, qb⟩ := hb.ex
  refine ⟨_, pt_cmpR h1 pa pb hm, fun H0 O0 O ρ σ H Q rl o => ?_⟩
  refine qa H0 O0 O ρ σ H _ rl (o.bind.bind.imp fun d H1 e1 o1 x hx => ?_)
  refine qb H0 O0 O ρ σ H1 _ (rl.grow e1) (o1.bind.imp fun d' H2 e2 o2 y hy => ?_)
  refine h2 W O σ H2 x y d d' _ (fun p n z => ((rl.grow e1).grow e2).al p z n) (hx.mono e2) hy (o2.imp fun z H3 e3 o3 v hv => ?_)
  cases z with
  | bool k => cases hv.sc_bl; exact ⟨k, rfl, o3 H3 (Same.refl H3)⟩
  | _ => exact o3.elim
theorem db_w (h : DW X W e p) : DB X W e p := let ⟨t, x, y⟩ := h.ex; ⟨t, x.pt, y⟩
theorem dw_and1 (ha : DB X W a p) : DW X W (.BoolOp .And [a] pos) p := let ⟨t, x, y⟩ := ha.ex; ⟨t, pw_and1 x, y⟩
theorem dw_or1 (ha : DB X W a p) : DW X W (.BoolOp .Or [a] pos) p := let ⟨t, x, y⟩ := ha.ex; ⟨t, pw_or1 x, y⟩
theorem dw_and (ha : DB X W a p) (hb : DW X W (.BoolOp .And (b :: rest) pos) q) : DW X W (.BoolOp .And (a :: b :: rest) pos) (bAnd p q) := by
  obtain ⟨ta, pa, qa⟩ := ha.ex
  obtain ⟨tb, pb, qb⟩ := hb.ex
  refine ⟨_, pw_and pa pb, fun H0 O0 O ρ σ H Q rl o => ?_⟩
  refine qa H0 O0 O ρ σ H _ rl (o.bind.imp fun k H1 e1 o1 => ?_)
  cases k with
  | true => rw [if_pos rfl] at o1 ⊢; exact qb H0 O0 O ρ σ H1 Q (rl.grow e1) o1
  | false => rw [if_neg Bool.false_ne_true] at o1 ⊢; exact o1 H1 (Same.refl H1)
theorem dw_or (ha : DB X W a p) (hb : DW X W (.BoolOp .Or (b :: rest) pos) q) : DW X W (.BoolOp .Or (a :: b :: rest) pos) (bOr p q) := by
  obtain ⟨ta, pa, qa⟩ := ha.ex
  obtain ⟨tb, pb, qb⟩ := hb.ex
  refine ⟨_, pw_or pa pb, fun H0 O0 O ρ σ H Q rl o => ?_⟩
  refine qa H0 O0 O ρ σ H _ rl (o.bind.imp fun k H1 e1 o1 => ?_)
  cases k with
  | true => rw [if_pos rfl] at o1 ⊢; exact o1 H1 (Same.refl H1)
  | false => rw [if_neg Bool.false_ne_true] at o1 ⊢; exact qb H0 O0 O ρ σ H1 Q (rl.grow e1) o1
theorem db_not (ha : DB X W a p) : DB X W (.UnaryOp .Not a pos) (bNot p) := by
  obtain ⟨ta, pa, qa⟩ := ha.ex
  refine ⟨_, pt_not pa, fun H0 O0 O ρ σ H Q rl o => ?_⟩
  exact qa H0 O0 O ρ σ H _ rl (o.bind.imp fun k H1 e1 o1 => o1 H1 (Same.refl H1))

/-! ### and, or, not, if as values -/
def cAnd (f g : En → R PD) : En → R PD := fun ρ => (f ρ).bind fun d => (tru d).bind fun b => if b = true then g ρ else .ok d
def cOr (f g : En → R PD) : En → R PD := fun ρ => (f ρ).bind fun d => (tru d).bind fun b => if b = true then .ok d else g ρ
def cNot (f : En → R PD) : En → R PD := fun ρ => (f ρ).bind fun d => (tru d).bind fun b => .ok (.bool (!b))
def cIf (p : En → R Bool) (f g : En → R PD) : En → R PD := fun ρ => (p ρ).bind fun b => if b = true then f ρ else g ρ
theorem de_one {op} (h : DE X W a f) : DE X W (.BoolOp op [a] pos) f := let ⟨t, x, y⟩ := h.ex; ⟨t, pe_one x, y⟩
theorem de_and (ha : DE X W a f) (hb : DE X W (.BoolOp .And (b :: rest) pos) g) : DE X W (.BoolOp .And (a :: b :: rest) pos) (cAnd f g) := by
  obtain ⟨ta, pa, qa⟩ := ha.ex
  obtain ⟨tb, pb, qb⟩ := hb.ex
  refine ⟨_, pe_andT pa pb, fun H0 O0 O ρ σ H Q rl o => ?_⟩
  refine qa H0 O0 O ρ σ H _ rl (o.bind.imp fun d H1 e1 o1 x hx => ?_)
  obtain ⟨k, h1, h2⟩ := tru_of (.inl hx) o1.bind
  refine ⟨k, h1, ?_⟩
  cases k with
  | true => rw [if_pos rfl] at h2 ⊢; exact qb H0 O0 O ρ σ H1 Q (rl.grow e1) h2
  | false => rw [if_neg Bool.false_ne_true] at h2 ⊢; exact h2 H1 (Same.refl H1) x hx
theorem de_or (ha : DE X W a f) (hb : DE X W (.BoolOp .Or (b :: rest) pos) g) : DE X W (.BoolOp .Or (a :: b :: rest) pos) (cOr f g) := by
  obtain ⟨ta, pa, qa⟩ := ha.ex
  obtain ⟨tb, pb, qb⟩ := hb.ex
  refine ⟨_, pe_orT pa pb, fun H0 O0 O ρ σ H Q rl o => ?_⟩
  refine qa H0 O0 O ρ σ H _ rl (o.bind.imp fun d H1 e1 o1 x hx => ?_)
  obtain ⟨k, h1, h2⟩ := tru_of (.inl hx) o1.bind
  refine ⟨k, h1, ?_⟩
  cases k with
  | true => rw [if_pos rfl] at h2 ⊢; exact h2 H1 (Same.refl H1) x hx
  | false => rw [if_neg Bool.false_ne_true] at h2 ⊢; exact qb H0 O0 O ρ σ H1 Q (rl.grow e1) h2
theorem de_not (ha : DV X W a f) : DE X W (.UnaryOp .Not a pos) (cNot f) := by
  obtain ⟨ta, pa, qa⟩ := ha.ex
  refine ⟨_, pe_notT pa, fun H0 O0 O ρ σ H Q rl o => ?_⟩
  refine qa H0 O0 O ρ σ H _ rl (o.bind.imp fun d H1 e1 o1 x hx => ?_)
  obtain ⟨k, h1, h2⟩ := tru_of hx o1.bind
  exact ⟨k, h1, h2 H1 (Same.refl H1) _ (.bl _)⟩
theorem de_if (hc : DB X W c p) (ha : DE X W a f) (hb : DE X W b g) : DE X W (.IfExp c a b pos) (cIf p f g) := by
  obtain ⟨tc, pc, qc⟩ := hc.ex
  obtain ⟨ta, pa, qa⟩ := ha.ex
  obtain ⟨tb, pb, qb⟩ := hb.ex
  refine ⟨_, pe_ifExp pc pa pb, fun H0 O0 O ρ σ H Q rl o => ?_⟩
  refine qc H0 O0 O ρ σ H _ rl (o.bind.imp fun k H1 e1 o1 => ?_)
  cases k with
  | true => rw [if_pos rfl] at o1 ⊢; exact qa H0 O0 O ρ σ H1 Q (rl.grow e1) o1
  | false => rw [if_neg Bool.false_ne_true] at o1 ⊢; exact qb H0 O0 O ρ σ H1 Q (rl.grow e1) o1
/-- a op b op' c -/
def cChain (F G : PD → PD → R PD) (f g h : En → R PD) : En → R PD := fun ρ => (f ρ).bind fun x => (g ρ).bind fun y => (F x y).bind fun z => (asB z).bind fun k => if k = true then (h ρ).bind fun u => G y u else .ok (.bool false)
theorem chain_go {r r' : R2} {F G : PD → PD → R PD} (h2 : ∀ W O σ H x y d e Q, (∀ p, H p = none → ¬ O p) → Dt X.K O H x d → Dt X.K O H y e → OutP X W O σ H (F d e) (fun d H' => ∀ v, Dq X.K (wo H' O) v d → Q v H') → r x y H Q)
    (h2' : ∀ W O σ H x y d e Q, (∀ p, H p = none → ¬ O p) → Dt X.K O H x d → Dt X.K O H y e → OutP X W O σ H (G d e) (fun d H' => ∀ v, Dq X.K (wo H' O) v d → Q v H') → r' x y H Q)
    {ta tb tc : TE} (qa : ∀ H0 O0 O ρ σ H Q, Rel X.K H0 O0 O H ρ σ → OutP X W O σ H (f ρ) (fun d H' => ∀ v, Dt X.K O H' v d → Q v H') → ta σ H Q)
    (qb : ∀ H0 O0 O ρ σ H Q, Rel X.K H0 O0 O H ρ σ → OutP X W O σ H (g ρ) (fun d H' => ∀ v, Dt X.K O H' v d → Q v H') → tb σ H Q)
    (qc : ∀ H0 O0 O ρ σ H Q, Rel X.K H0 O0 O H ρ σ → OutP X W O σ H (h ρ) (fun d H' => ∀ v, Dt X.K O H' v d → Q v H') → tc σ H Q)
    (H0 : Hp) (O0 O : Addr → Prop) (ρ : En) (σ : L2.St) (H : Hp) (Q : VK) (rl : Rel X.K H0 O0 O H ρ σ) (o : OutP X W O σ H (cChain F G f g h ρ) (fun d H' => ∀ v, Dq X.K (wo H' O) v d → Q v H')) : tChain r r' ta tb tc σ H Q := by
  refine qa H0 O0 O ρ σ H _ rl (o.bind.imp fun d H1 e1 o1 x hx => ?_)
  refine qb H0 O0 O ρ σ H1 _ (rl.grow e1) (o1.bind.imp fun d' H2 e2 o2 y hy => ?_)
  refine h2 W O σ H2 x y d d' _ (fun p n z => ((rl.grow e1).grow e2).al p z n) (hx.mono e2) hy (o2.bind.imp fun z H3 e3 o3 v hv => ?_)
  cases z with
  | bool k =>
    cases hv.sc_bl
    refine ⟨k, rfl, ?_⟩
    have o4 := o3.bind H3 (Same.refl H3)
    cases k with
    | false => rw [if_neg Bool.false_ne_true] at o4 ⊢; exact o4 H3 (Same.refl H3) _ (.bl _)
    | true =>
      rw [if_pos rfl] at o4 ⊢
      exact qc H0 O0 O ρ σ H3 _ (rl.grow ((e1.trans e2).trans e3)) (o4.bind.imp fun u H4 e4 o5 w hw => h2' W O σ H4 y w d' u Q (fun p n z => (rl.grow (((e1.trans e2).trans e3).trans e4)).al p z n) (hy.mono (e3.trans e4)) hw o5)
  | _ => exact o3.elim
theorem de_chain {op op' : CmpOp} {F G : PD → PD → R PD} (ho : OpD X (compareOp op) F) (ho' : OpD X (compareOp op') G) (ha : DV X W a f) (hb : DV X W b g) (hc : DV X W c h)
    (hm : lastMarks [op, op'] [b, c] = false := by with_unfolding_all rfl) : DE X W (.Compare a [op, op'] [b, c] pos) (cChain F G f g h) := by
  obtain ⟨r, h1, h2⟩ := ho
  obtain ⟨r', h1', h2'⟩ := ho'
  obtain ⟨ta, pa, qa⟩ := ha.ex
  obtain ⟨tb, pb, qb⟩ := hb.ex
  obtain ⟨tc, pc, qc⟩ := hc.ex
  exact ⟨_, pe_chain h1 h1' pa pb pc hm, chain_go h2 h2' qa qb qc⟩
def bChain (F G : PD → PD → R PD) (f g h : En → R PD) : En → R Bool := fun ρ => (cChain F G f g h ρ).bind asB
theorem db_chain {op op' : CmpOp} {F G : PD → PD → R PD} (ho : OpD X (compareOp op) F) (ho' : OpD X (compareOp op') G) (ha : DV X W a f) (hb : DV X W b g) (hc : DV X W c h)
    (hm : lastMarks [op, op'] [b, c] = false := by with_unfolding_all rfl) : DB X W (.Compare a [op, op'] [b, c] pos) (bChain F G f g h) := by
  obtain ⟨r, h1, h2⟩ := ho
  obtain ⟨r', h1', h2'⟩ := ho'
  obtain ⟨ta, pa, qa⟩ := ha.ex
  obtain ⟨tb, pb, qb⟩ := hb.ex
  obtain ⟨tc, pc, qc⟩ := hc.ex
  refine ⟨_, pt_chain h1 h1' pa pb pc hm, fun H0 O0 O ρ σ H Q rl o => ?_⟩
  refine chain_go h2 h2' qa qb qc H0 O0 O ρ σ H _ rl (o.bind.imp fun z H1 e1 o1 v hv => ?_)
  cases z with
  | bool k => cases hv.sc_bl; exact ⟨k, rfl, o1 H1 (Same.refl H1)⟩
  | _ => exact o1.elim
end

/-! ### argument lists -/
/-- clean arguments (of a display, of a call of a def of the text) -/
structure DC (X : Cx) (W : WX) (es : List Expr) (f : En → R (List PD)) : Prop where
  ex : ∃ t, PA X es t ∧ ∀ H0 O0 O ρ σ H Q, Rel X.K H0 O0 O H ρ σ → OutP X W O σ H (f ρ) (fun ds H' => ∀ vs, DqAll X.K (wo H' O) vs ds → Q vs H') → t σ H Q
/-- arguments of a built-in -/
abbrev DtAll (K : PySem.W.Frag) (O : Addr → Prop) (H : Hp) : List V → List PD → Prop := Paired (Dt K O H)
structure DA (X : Cx) (W : WX) (es : List Expr) (f : En → R (List PD)) : Prop where
  ex : ∃ t, PA X es t ∧ ∀ H0 O0 O ρ σ H Q, Rel X.K H0 O0 O H ρ σ → OutP X W O σ H (f ρ) (fun ds H' => ∀ vs, DtAll X.K O H' vs ds → Q vs H') → t σ H Q
def cNil : En → R (List PD) := fun _ => .ok []
def cCons (f : En → R PD) (g : En → R (List PD)) : En → R (List PD) := fun ρ => (f ρ).bind fun d => (g ρ).bind fun ds => .ok (d :: ds)
section
variable {X : Cx} {W : WX} {e : Expr} {es : List Expr} {f : En → R PD} {g : En → R (List PD)} {pos : Pos}
theorem dc_nil : DC X W [] cNil := ⟨_, pa_nil, fun H0 O0 O ρ σ H Q rl o => o H (Same.refl H) [] .nil⟩
theorem dc_cons (ha : DE X W e f) (hr : DC X W es g) (hs : starEach (e :: es) X.env = (false, eval e X.env) :: starEach es X.env := by rfl) : DC X W (e :: es) (cCons f g) := by
  obtain ⟨ta, pa, qa⟩ := ha.ex
  obtain ⟨tb, pb, qb⟩ := hr.ex
  refine ⟨_, pa_cons pa pb hs, fun H0 O0 O ρ σ H Q rl o => ?_⟩
  refine qa H0 O0 O ρ σ H _ rl (o.bind.imp fun d H1 e1 o1 x hx => ?_)
  refine qb H0 O0 O ρ σ H1 _ (rl.grow e1) (o1.bind.imp fun ds H2 e2 o2 vs hv => ?_)
  exact o2 H2 (Same.refl H2) _ (.cons (hx.mono (same_wo e2)) hv)
theorem da_nil : DA X W [] cNil := ⟨_, pa_nil, fun H0 O0 O ρ σ H Q rl o => o H (Same.refl H) [] .nil⟩
theorem da_cons (ha : DV X W e f) (hr : DA X W es g) (hs : starEach (e :: es) X.env = (false, eval e X.env) :: starEach es X.env := by rfl) : DA X W (e :: es) (cCons f g) := by
  obtain ⟨ta, pa, qa⟩ := ha.ex
  obtain ⟨tb, pb, qb⟩ := hr.ex
  refine ⟨_, pa_cons pa pb hs, fun H0 O0 O ρ σ H Q rl o => ?_⟩
  refine qa H0 O0 O ρ σ H _ rl (o.bind.imp fun d H1 e1 o1 x hx => ?_)
  refine qb H0 O0 O ρ σ H1 _ (rl.grow e1) (o1.bind.imp fun ds H2 e2 o2 vs hv => ?_)
  exact o2 H2 (Same.refl H2) _ (.cons (hx.mono e2) hv)

/-! ### displays -/
theorem Rel.fresh {K : PySem.W.Frag} {H0 H : Hp} {O0 O : Addr → Prop} {ρ : En} {σ : L2.St} (rl : Rel K H0 O0 O H ρ σ) {p : Addr} (h : H p = none) : ¬ O p := fun z => rl.al p z h
theorem wo_new {H : Hp} {O : Addr → Prop} {p : Addr} {o : HO} (h : ¬ O p) : wo (upd H p o) O p = some o := wo_some h upd_same
theorem all_grow {K : PySem.W.Frag} {H : Hp} {O : Addr → Prop} {p : Addr} {o : HO} {vs : List V} {ds : List PD} (n : H p = none) (h : DqAll K (wo H O) vs ds) : DqAll K (wo (upd H p o) O) vs ds := h.mono (same_wo (Same.updNew n))
def mkT (ds : List PD) : R PD := chk (decide (ds.length ≤ big)) (.ok (.tuple ds))
def mkL (ds : List PD) : R (List PD) := chk (decide (ds.length ≤ big)) (.ok ds)
def cTup (g : En → R (List PD)) : En → R PD := fun ρ => (g ρ).bind mkT
theorem de_tup {k : Nat} (h : DC X W es g) : DE X W (.Tuple es k pos) (cTup g) := by
  obtain ⟨ta, pa, qa⟩ := h.ex
  refine ⟨_, pe_tup pa, fun H0 O0 O ρ σ H Q rl o => ?_⟩
  refine qa H0 O0 O ρ σ H _ rl (o.bind.imp fun ds H1 e1 o1 vs hv => ?_)
  obtain ⟨c, o1⟩ := OutP.chk o1
  refine ⟨by rw [hv.length]; exact big_line (of_decide_eq_true c), fun p np => ?_⟩
  have nO := (rl.grow e1).fresh np
  exact o1 _ (Same.updNew np) _ (.tup (.inl (.inl (wo_new nO))) (all_grow np hv))
/-- a value that is a new list -/
structure DF (X : Cx) (W : WX) (e : Expr) (f : En → R (List PD)) : Prop where
  ex : ∃ t, PE X e t ∧ ∀ H0 O0 O ρ σ H Q, Rel X.K H0 O0 O H ρ σ → OutP X W O σ H (f ρ) (fun ds H1 => ∀ p vs H2, H1 p = none → DqAll X.K (wo H1 O) vs ds → H2 = upd H1 p (.lst vs) → Q (.ref p) H2) → t σ H Q
def cL (f : En → R (List PD)) : En → R PD := fun ρ => (f ρ).bind fun ds => .ok (.list ds)
theorem DF.de (h : DF X W e g) : DE X W e (cL g) := by
  obtain ⟨ta, pa, qa⟩ := h.ex
  refine ⟨_, pa, fun H0 O0 O ρ σ H Q rl o => ?_⟩
  refine qa H0 O0 O ρ σ H _ rl (o.bind.imp fun ds H1 e1 o1 p vs H2 np hv e2 => ?_)
  subst e2
  have nO := (rl.grow e1).fresh np
  exact o1 _ (Same.updNew np) _ (.lst (.inl ((wo_new nO))) (all_grow np hv))
def cLst (g : En → R (List PD)) : En → R (List PD) := fun ρ => (g ρ).bind mkL
theorem df_lst (h : DC X W es g) : DF X W (.List es pos) (cLst g) := by
  obtain ⟨ta, pa, qa⟩ := h.ex
  refine ⟨_, pe_lst pa, fun H0 O0 O ρ σ H Q rl o => ?_⟩
  refine qa H0 O0 O ρ σ H _ rl (o.bind.imp fun ds H1 e1 o1 vs hv => ?_)
  obtain ⟨c, o1⟩ := OutP.chk o1
  exact ⟨by rw [hv.length]; exact big_line (of_decide_eq_true c), fun p np => o1 H1 (Same.refl H1) p vs _ np hv rfl⟩

/-! ### calls of built-ins -/
def CallD (X : Cx) (u : Value) (F : List PD → R PD) : Prop :=
  ∃ r, CallR X u r ∧ ∀ W O σ H xs ds Q, (∀ p, H p = none → ¬ O p) → DtAll X.K O H xs ds → OutP X W O σ H (F ds) (fun d H' => ∀ v, Dq X.K (wo H' O) v d → Q v H') → r xs H Q
def cCl (F : List PD → R PD) (g : En → R (List PD)) : En → R PD := fun ρ => (g ρ).bind F
theorem de_callB {x : Str} {p : Pos} {id : String} {F : List PD → R PD} (hc : CallD X (.builtin id) F) (hg : Gl X x) (hm : X.mg x = none) (hv : bootBuiltins x = some (.builtin id)) (ha : DA X W (e :: es) g) (hn : x ≠ "__name__" := by decide) (hdb : (x == ("__debug__" : Str)) = false := by decide)
    (he : starEach (e :: es) X.env = (false, eval e X.env) :: starEach es X.env := by rfl) (hpl : (backTo pos (starEach es X.env)).any (·.1) = false := by rfl) : DE X W (.Call (.Name x p) (e :: es) [] pos) (cCl F g) := by
  obtain ⟨r, h1, h2⟩ := hc
  obtain ⟨ta, pa, qa⟩ := ha.ex
  refine ⟨_, pe_callB h1 hg hm hv pa hn hdb he hpl, fun H0 O0 O ρ σ H Q rl o => ?_⟩
  exact qa H0 O0 O ρ σ H _ rl (o.bind.imp fun ds H1 e1 o1 vs hv => h2 W O σ H1 vs ds Q (fun p n => (rl.grow e1).fresh n) hv o1)
theorem de_callTy {x : Str} {p : Pos} {T : String} {F : List PD → R PD} (hc : CallD X (.type T) F) (hg : Gl X x) (hm : X.mg x = none) (hv : bootBuiltins x = some (.type T)) (ha : DA X W (e :: es) g) (hn : x ≠ "__name__" := by decide) (hdb : (x == ("__debug__" : Str)) = false := by decide)
    (he : starEach (e :: es) X.env = (false, eval e X.env) :: starEach es X.env := by rfl) (hpl : (backTo pos (starEach es X.env)).any (·.1) = false := by rfl) : DE X W (.Call (.Name x p) (e :: es) [] pos) (cCl F g) := by
  obtain ⟨r, h1, h2⟩ := hc
  obtain ⟨ta, pa, qa⟩ := ha.ex
  refine ⟨_, pe_callTy h1 hg hm hv pa hn hdb he hpl, fun H0 O0 O ρ σ H Q rl o => ?_⟩
  exact qa H0 O0 O ρ σ H _ rl (o.bind.imp fun ds H1 e1 o1 vs hv => h2 W O σ H1 vs ds Q (fun p n => (rl.grow e1).fresh n) hv o1)

/-- .. that gives a new list -/
def CallF (X : Cx) (u : Value) (F : List PD → R (List PD)) : Prop :=
  ∃ r, CallR X u r ∧ ∀ W O σ H xs ds Q, (∀ p, H p = none → ¬ O p) → DtAll X.K O H xs ds → OutP X W O σ H (F ds) (fun ds H1 => ∀ p vs H2, H1 p = none → DqAll X.K (wo H1 O) vs ds → H2 = upd H1 p (.lst vs) → Q (.ref p) H2) → r xs H Q
def cClF (F : List PD → R (List PD)) (g : En → R (List PD)) : En → R (List PD) := fun ρ => (g ρ).bind F
theorem df_callB {x : Str} {p : Pos} {id : String} {F : List PD → R (List PD)} (hc : CallF X (.builtin id) F) (hg : Gl X x) (hm : X.mg x = none) (hv : bootBuiltins x = some (.builtin id)) (ha : DA X W (e :: es) g) (hn : x ≠ "__name__" := by decide) (hdb : (x == ("__debug__" : Str)) = false := by decide)
    (he : starEach (e :: es) X.env = (false, eval e X.env) :: starEach es X.env := by rfl) (hpl : (backTo pos (starEach es X.env)).any (·.1) = false := by rfl) : DF X W (.Call (.Name x p) (e :: es) [] pos) (cClF F g) := by
  obtain ⟨r, h1, h2⟩ := hc
  obtain ⟨ta, pa, qa⟩ := ha.ex
  refine ⟨_, pe_callB h1 hg hm hv pa hn hdb he hpl, fun H0 O0 O ρ σ H Q rl o => ?_⟩
  exact qa H0 O0 O ρ σ H _ rl (o.bind.imp fun ds H1 e1 o1 vs hv => h2 W O σ H1 vs ds _ (fun p n => (rl.grow e1).fresh n) hv o1)
theorem df_callTy {x : Str} {p : Pos} {T : String} {F : List PD → R (List PD)} (hc : CallF X (.type T) F) (hg : Gl X x) (hm : X.mg x = none) (hv : bootBuiltins x = some (.type T)) (ha : DA X W (e :: es) g) (hn : x ≠ "__name__" := by decide) (hdb : (x == ("__debug__" : Str)) = false := by decide)
    (he : starEach (e :: es) X.env = (false, eval e X.env) :: starEach es X.env := by rfl) (hpl : (backTo pos (starEach es X.env)).any (·.1) = false := by rfl) : DF X W (.Call (.Name x p) (e :: es) [] pos) (cClF F g) := by
  obtain ⟨r, h1, h2⟩ := hc
  obtain ⟨ta, pa, qa⟩ := ha.ex
  refine ⟨_, pe_callTy h1 hg hm hv pa hn hdb he hpl, fun H0 O0 O ρ σ H Q rl o => ?_⟩
  exact qa H0 O0 O ρ σ H _ rl (o.bind.imp fun ds H1 e1 o1 vs hv => h2 W O σ H1 vs ds _ (fun p n => (rl.grow e1).fresh n) hv o1)

/-! ### a unary operator -/
def UnD (X : Cx) (op : Value → Sem Value) (F : PD → R PD) : Prop :=
  ∃ r, UnR X op r ∧ ∀ W O σ H x d Q, (∀ p, H p = none → ¬ O p) → Dt X.K O H x d → OutP X W O σ H (F d) (fun d H' => ∀ v, Dq X.K (wo H' O) v d → Q v H') → r x H Q
def c1 (F : PD → R PD) (f : En → R PD) : En → R PD := fun ρ => (f ρ).bind F
theorem de_un {op : UnaryOp} {F : PD → R PD} (ho : UnD X (unaryOp op) F) (ha : DE X W e f) : DE X W (.UnaryOp op e pos) (c1 F f) := by
  obtain ⟨r, h1, h2⟩ := ho
  obtain ⟨ta, pa, qa⟩ := ha.ex
  refine ⟨_, pe_un h1 pa, fun H0 O0 O ρ σ H Q rl o => ?_⟩
  exact qa H0 O0 O ρ σ H _ rl (o.bind.imp fun d H1 e1 o1 x hx => h2 W O σ H1 x d Q (fun p n => (rl.grow e1).fresh n) (.inl hx) o1)

/-! ### items -/
def ixD : PD → PD → R PD
  | .list ds, .int i => match atI ds i with
    | some d => .ok d
    | none => .bad
  | .tuple ds, .int i => match atI ds i with
    | some d => .ok d
    | none => .bad
  | .str z, .int i => chk (decide (z.length ≤ big)) (match atI z.cps.toList i with
    | some c => .ok (.str ⟨#[c]⟩)
    | none => .bad)
  | _, _ => .bad
theorem atI_all {K : PySem.W.Frag} {H : Hp} {vs : List V} {ds : List PD} {i : Int} {d : PD} (h : DqAll K H vs ds) (e : atI ds i = some d) : ∃ v, atI vs i = some v ∧ Dq K H v d := by
  unfold atI at e ⊢
  rw [h.length]
  cases q : ixN ds.length i with
  | none => rw [q] at e; cases e
  | some j =>
    rw [q] at e
    exact h.get e
theorem de_ix {a b : Expr} {f g : En → R PD} (ha : DV X W a f) (hb : DV X W b g) (hs : PlainIx b) : DE X W (.Subscript a b pos) (c2 ixD f g) := by
  obtain ⟨ta, pa, qa⟩ := ha.ex
  obtain ⟨tb, pb, qb⟩ := hb.ex
  refine ⟨_, pe_ix ix_seq pa pb hs, fun H0 O0 O ρ σ H Q rl o => ?_⟩
  refine qa H0 O0 O ρ σ H _ rl (o.bind.imp fun d H1 e1 o1 x hx => ?_)
  refine qb H0 O0 O ρ σ H1 _ (rl.grow e1) (o1.bind.imp fun d' H2 e2 o2 y hy => ?_)
  have hx := hx.mono e2
  cases d' with
  | int i =>
    cases hy.sc_int
    cases d with
    | list ds =>
      obtain ⟨a, vs, rfl, h1, h2⟩ := hx.list
      unfold ixD at o2
      cases q : atI ds i with
      | none => simp only [q] at o2; exact o2.elim
      | some d =>
        simp only [q] at o2
        obtain ⟨v, k1, k2⟩ := atI_all h2 q
        exact .inl ⟨a, vs, i, v, rfl, rfl, .inl h1, k1, o2 H2 (Same.refl H2) v k2⟩
    | tuple ds =>
      obtain ⟨a, vs, rfl, h1, h2⟩ := hx.tuple
      unfold ixD at o2
      cases q : atI ds i with
      | none => simp only [q] at o2; exact o2.elim
      | some d =>
        simp only [q] at o2
        obtain ⟨v, k1, k2⟩ := atI_all h2 q
        exact .inr (.inl ⟨a, vs, i, v, rfl, rfl, Same.seqT wo_self h1, k1, o2 H2 (Same.refl H2) v k2⟩)
    | str z =>
      cases hx.sc_str
      unfold ixD at o2
      obtain ⟨c, o2⟩ := OutP.chk o2
      cases q : atI z.cps.toList i with
      | none => simp only [q] at o2; exact o2.elim
      | some d =>
        simp only [q] at o2
        exact .inr (.inr ⟨z, i, d, rfl, rfl, big_line (of_decide_eq_true c), q, o2 H2 (Same.refl H2) _ (.str _)⟩)
    | _ => exact o2.elim
  | _ => cases d <;> exact o2.elim
end
end DL
namespace DL
open PySem PySem.Spec L2

/-! ### statements -/
def OutS (K : PySem.W.Frag) (mg : Str → Option Value) (W : WX) (H0 : Hp) (O0 : Addr → Prop) (D : Ends) (o : Fl) : Prop :=
  match o with
  | .nx ρ => ∀ O H σ, Rel K H0 O0 O H ρ σ → D.nx σ H
  | .rt d => ∀ v H, Same H0 H → Dq K (wo H O0) v d → D.rt v H
  | .bk ρ => ∀ O H σ, Rel K H0 O0 O H ρ σ → D.bk σ H
  | .ct ρ => ∀ O H σ, Rel K H0 O0 O H ρ σ → D.ct σ H
  | .ex c pl ρ => ∀ O H σ cls dx, Rel K H0 O0 O H ρ σ → IsEx K mg c pl cls dx (wo H O) → W cls dx σ H
  | .bad => False
structure DS (X : Cx) (W : WX) (st : Stmt) (g : En → Fl) : Prop where
  ex : ∃ t, PS X st t ∧ ∀ H0 O0 O ρ σ H D, Rel X.K H0 O0 O H ρ σ → OutS X.K X.mg W H0 O0 D (g ρ) → t D σ H
structure DSs (X : Cx) (W : WX) (st : List Stmt) (g : En → Fl) : Prop where
  ex : ∃ t, PSs X st t ∧ ∀ H0 O0 O ρ σ H D, Rel X.K H0 O0 O H ρ σ → OutS X.K X.mg W H0 O0 D (g ρ) → t D σ H

def toS {α : Type} (ρ : En) (r : R α) (k : α → Fl) : Fl := match r with
  | .ok a => k a
  | .ex c pl => .ex c pl ρ
  | .bad => .bad
@[simp] theorem toS_ok {α : Type} (ρ : En) (a : α) (k : α → Fl) : toS ρ (.ok a) k = k a := rfl
@[simp] theorem toS_ex {α : Type} (ρ : En) (c pl) (k : α → Fl) : toS ρ (.ex c pl) k = .ex c pl ρ := rfl
@[simp] theorem toS_bad {α : Type} (ρ : En) (k : α → Fl) : toS ρ .bad k = .bad := rfl
section
variable {K : PySem.W.Frag} {mg : Str → Option Value} {W : WX} {H0 H H' H1 : Hp} {O0 O : Addr → Prop} {ρ : En} {σ : L2.St} {D : Ends} {p : Addr} {o : HO} {i : Nat} {X : Cx}
theorem OutS.ofR {α : Type} {r : R α} {k : α → Fl} (rl : Rel X.K H0 O0 O H ρ σ) (h : OutS X.K X.mg W H0 O0 D (toS ρ r k)) : OutP X W O σ H r (fun a _ => OutS X.K X.mg W H0 O0 D (k a)) := by
  cases r with
  | ok a => exact fun _ _ => h
  | ex c pl => exact fun cls dx H' e i => h O H' σ cls dx (rl.grow e) i
  | bad => exact h
theorem SlR.weak {O' : Addr → Prop} {s : Sl} {x : Option (Option V)} (h : SlR K O0 O H s x) (ns : Sl.own s = false) (e : Same (wo H O) (wo H' O')) : SlR K O0 O' H' s x := by
  cases s with
  | un => trivial
  | va d => obtain ⟨v, q, r⟩ := h; exact ⟨v, q, r.mono e⟩
  | sc ns => obtain ⟨v, q, r⟩ := h; exact ⟨v, q, e.seq r⟩
  | _ => cases ns
/-- an own thing at p, by its slot -/
def OwnAt (K : PySem.W.Frag) (O0 O : Addr → Prop) (H : Hp) (s : Sl) (p : Addr) : Prop := O p ∧ ¬ O0 p ∧ H p ≠ none
theorem SlR.own_at {s : Sl} {x : Option (Option V)} (h : SlR K O0 O H s x) (ns : Sl.own s = true) : ∃ p, x = some (some (.ref p)) ∧ O p ∧ ¬ O0 p ∧ H p ≠ none := by
  cases s with
  | un => cases ns
  | va d => cases ns
  | sc d => cases ns
  | ol ds => obtain ⟨p, vs, q, m, n, r, z⟩ := h; exact ⟨p, q, m, n, by rw [r]; exact fun y => nomatch y⟩
  | od ds => obtain ⟨p, vs, q, m, n, r, z⟩ := h; exact ⟨p, q, m, n, by rw [r]; exact fun y => nomatch y⟩
  | ot ds => obtain ⟨p, vs, q, m, n, r, z⟩ := h; exact ⟨p, q, m, n, by rw [r]; exact fun y => nomatch y⟩
/-- another heap and other own addresses: the frozen part grows, this slot's own object stands -/
theorem SlR.move {O' : Addr → Prop} {s : Sl} {x : Option (Option V)} (h : SlR K O0 O H s x) (e : Same (wo H O) (wo H' O')) (k : ∀ p, x = some (some (.ref p)) → O p → H p ≠ none → O' p ∧ H' p = H p ∨ Sl.own s = false) : SlR K O0 O' H' s x := by
  cases s with
  | un => trivial
  | va d => obtain ⟨v, q, r⟩ := h; exact ⟨v, q, r.mono e⟩
  | sc ns => obtain ⟨v, q, r⟩ := h; exact ⟨v, q, e.seq r⟩
  | ol ds =>
    obtain ⟨p, vs, q, m, n, r, z⟩ := h
    rcases k p q m (by rw [r]; exact fun y => nomatch y) with ⟨k1, k2⟩ | k
    · exact ⟨p, vs, q, k1, n, by rw [k2]; exact r, z.mono e⟩
    · cases k
  | od ds =>
    obtain ⟨p, vs, q, m, n, r, z⟩ := h
    rcases k p q m (by rw [r]; exact fun y => nomatch y) with ⟨k1, k2⟩ | k
    · exact ⟨p, vs, q, k1, n, by rw [k2]; exact r, z.mono e⟩
    · cases k
  | ot ds =>
    obtain ⟨p, vs, q, m, n, r, z⟩ := h
    rcases k p q m (by rw [r]; exact fun y => nomatch y) with ⟨k1, k2⟩ | k
    · exact ⟨p, vs, q, k1, n, by rw [k2]; exact r, z.mono e⟩
    · cases k
theorem get_set {α : Type} {l : List α} {i j : Nat} {a s : α} (h : (l.set i a)[j]? = some s) : (j = i ∧ s = a ∧ i < l.length) ∨ (j ≠ i ∧ l[j]? = some s) := by
  by_cases e : i = j
  · subst e
    by_cases hi : i < l.length
    · rw [List.getElem?_set_self hi] at h; exact .inl ⟨rfl, (Option.some.inj h).symm, hi⟩
    · rw [List.getElem?_eq_none (by simpa using hi)] at h; cases h
  · rw [List.getElem?_set_ne e] at h; exact .inr ⟨fun z => e z.symm, h⟩
/-- a slot takes data -/
theorem Rel.setV {v : V} {d : PD} (h : Rel K H0 O0 O H ρ σ) (hd : Dq K (wo H O) v d) (i : Nat) : Rel K H0 O0 O H (ρ.set i (.va d)) (σ.set i (some v)) := by
  refine ⟨h.fr, h.sub, h.nw, h.al, by simp [h.len], fun j s q => ?_, fun j l s s' p hjl q q' ns ns' e e' => ?_⟩
  · rcases get_set q with ⟨rfl, rfl, hi⟩ | ⟨hj, q⟩
    · rw [List.getElem?_set_self (by rw [← h.len]; exact hi)]; exact ⟨v, rfl, hd⟩
    · rw [List.getElem?_set_ne (Ne.symm hj)]; exact h.sl j s q
  · rcases get_set q with ⟨rfl, rfl, hi⟩ | ⟨hj, q⟩
    · cases ns
    · rcases get_set q' with ⟨rfl, rfl, hi⟩ | ⟨hl, q'⟩
      · cases ns'
      · rw [List.getElem?_set_ne (Ne.symm hj)] at e
        rw [List.getElem?_set_ne (Ne.symm hl)] at e'
        exact h.dj j l s s' p hjl q q' ns ns' e e'
theorem wo_add (n : H p = none) : Same (wo H O) (wo (upd H p o) (fun q => O q ∨ q = p)) := fun b u e => by
  obtain ⟨e1, e2⟩ := wo_inv e
  have hb : b ≠ p := ne_of_none e2 n
  refine wo_some (fun z => z.elim e1 hb) ?_
  rw [upd_ne hb]; exact e2
/-- a slot takes a new own thing -/
theorem Rel.setO {s' : Sl} (h : Rel K H0 O0 O H ρ σ) (n : H p = none) (i : Nat) (hs : SlR K O0 (fun q => O q ∨ q = p) (upd H p o) s' (some (some (.ref p)))) : Rel K H0 O0 (fun q => O q ∨ q = p) (upd H p o) (ρ.set i s') (σ.set i (some (.ref p))) := by
  refine ⟨h.fr.trans (Same.updNew n), fun q z => .inl (h.sub q z), fun q z => ?_, fun q z => ?_, by simp [h.len], fun j s q => ?_, fun j l s s2 q hjl g g' ns ns' e e' => ?_⟩
  · rcases z with z | rfl
    · exact h.nw q z
    · exact .inr (h.fr.free n)
  · by_cases hq : q = p
    · subst hq; rw [upd_same]; exact fun y => nomatch y
    · rw [upd_ne hq]; exact h.al q (z.resolve_right hq)
  · rcases get_set q with ⟨rfl, rfl, hi⟩ | ⟨hj, q⟩
    · rw [List.getElem?_set_self (by rw [← h.len]; exact hi)]; exact hs
    · rw [List.getElem?_set_ne (Ne.symm hj)]
      refine (h.sl j s q).move (wo_add n) fun r hr hO hn => .inl ⟨.inl hO, ?_⟩
      rw [upd_ne (fun z => hn (by rw [z]; exact n))]
  · have old : ∀ {j : Nat} {s : Sl} {q : Addr}, ρ[j]? = some s → Sl.own s = true → σ[j]? = some (some (.ref q)) → q ≠ p := fun {j s q} g ns e z => by
      obtain ⟨r, e1, _, _, e2⟩ := (h.sl j s g).own_at ns
      rw [e] at e1; cases e1
      exact e2 (by rw [z]; exact n)
    rcases get_set g with ⟨rfl, rfl, hi⟩ | ⟨hj, k1⟩
    · rcases get_set g' with ⟨rfl, rfl, hl⟩ | ⟨hl, k2⟩
      · exact hjl rfl
      · rw [List.getElem?_set_self (by rw [← h.len]; exact hi)] at e
        rw [List.getElem?_set_ne (Ne.symm hl)] at e'
        cases e
        exact old k2 ns' e' rfl
    · rw [List.getElem?_set_ne (Ne.symm hj)] at e
      rcases get_set g' with ⟨rfl, rfl, hl⟩ | ⟨hl, k2⟩
      · rw [List.getElem?_set_self (by rw [← h.len]; exact hl)] at e'
        cases e'
        exact old k1 ns e rfl
      · rw [List.getElem?_set_ne (Ne.symm hl)] at e'
        exact h.dj j l s s2 q hjl k1 k2 ns ns' e e'
/-- an own thing is changed -/
theorem Rel.updO {s s' : Sl} (h : Rel K H0 O0 O H ρ σ) (hi : ρ[i]? = some s) (ns : Sl.own s = true) (ns' : Sl.own s' = true) (hσ : σ[i]? = some (some (.ref p))) (hs : SlR K O0 O (upd H p o) s' (some (some (.ref p)))) : Rel K H0 O0 O (upd H p o) (ρ.set i s') σ := by
  obtain ⟨p', e1, m1, m2, m3⟩ := (h.sl i s hi).own_at ns
  rw [hσ] at e1; cases e1
  have h0 : H0 p = none := by
    rcases h.nw p m1 with z | z
    · exact absurd z m2
    · exact z
  refine ⟨fun b u e => ?_, h.sub, h.nw, fun q z => ?_, by simp [h.len], fun j t q => ?_, fun j l t t2 q hjl g g' n1 n2 e e' => ?_⟩
  · rw [upd_ne (ne_of_none e h0)]; exact h.fr b u e
  · by_cases hq : q = p
    · subst hq; rw [upd_same]; exact fun y => nomatch y
    · rw [upd_ne hq]; exact h.al q z
  · rcases get_set q with ⟨rfl, rfl, hi'⟩ | ⟨hj, q⟩
    · rw [hσ]; exact hs
    · refine (h.sl j t q).move (by rw [wo_upd m1]; exact Same.refl _) fun r hr hO hn => ?_
      by_cases hown : Sl.own t = true
      · refine .inl ⟨hO, ?_⟩
        rw [upd_ne (fun z => h.dj i j s t p (Ne.symm hj) hi q ns hown hσ (by rw [hr, z]))]
      · exact .inr (by simpa using hown)
  · rcases get_set g with ⟨rfl, rfl, _⟩ | ⟨hj, k1⟩
    · rcases get_set g' with ⟨rfl, rfl, _⟩ | ⟨hl, k2⟩
      · exact hjl rfl
      · exact h.dj j l s t2 q hjl hi k2 ns n2 e e'
    · rcases get_set g' with ⟨rfl, rfl, _⟩ | ⟨hl, k2⟩
      · exact h.dj j l t s q hjl k1 hi n1 ns e e'
      · exact h.dj j l t t2 q hjl k1 k2 n1 n2 e e'
/-- an own list is changed no more -/
theorem Rel.freeze {ds : List PD} (h : Rel K H0 O0 O H ρ σ) (hi : ρ[i]? = some (.ol ds)) : ∃ O', Rel K H0 O0 O' H (ρ.set i (.va (.list ds))) σ := by
  obtain ⟨p, vs, e1, m1, m2, m3, m4⟩ := h.sl i _ hi
  have sb : Same (wo H O) (wo H fun q => O q ∧ q ≠ p) := wo_sub fun q z => z.1
  refine ⟨fun q => O q ∧ q ≠ p, h.fr, fun q z => ⟨h.sub q z, fun y => m2 (by rw [← y]; exact z)⟩, fun q z => h.nw q z.1, fun q z => h.al q z.1, by simp [h.len], fun j t q => ?_, fun j l t t2 q hjl g g' n1 n2 e e' => ?_⟩
  · rcases get_set q with ⟨rfl, rfl, _⟩ | ⟨hj, q⟩
    · exact ⟨_, e1, .lst (.inl ((wo_some (fun z => z.2 rfl) m3))) (m4.mono sb)⟩
    · refine (h.sl j t q).move sb fun r hr hO hn => ?_
      by_cases hown : Sl.own t = true
      · exact .inl ⟨⟨hO, fun z => h.dj i j _ t p (Ne.symm hj) hi q rfl hown e1 (by rw [hr, z])⟩, rfl⟩
      · exact .inr (by simpa using hown)
  · rcases get_set g with ⟨rfl, rfl, _⟩ | ⟨hj, k1⟩
    · cases n1
    · rcases get_set g' with ⟨rfl, rfl, _⟩ | ⟨hl, k2⟩
      · cases n2
      · exact h.dj j l t t2 q hjl k1 k2 n1 n2 e e'
end

/-! ### blocks -/
def sNx : En → Fl := fun ρ => .nx ρ
def sSeq (g h : En → Fl) : En → Fl := fun ρ => match g ρ with
  | .nx ρ' => h ρ'
  | .rt d => .rt d
  | .bk ρ' => .bk ρ'
  | .ct ρ' => .ct ρ'
  | .ex c pl ρ' => .ex c pl ρ'
  | .bad => .bad
def sSet (i : Nat) (f : En → R PD) : En → Fl := fun ρ => toS ρ (f ρ) fun d => .nx (ρ.set i (.va d))
def sSetL (i : Nat) (f : En → R (List PD)) : En → Fl := fun ρ => toS ρ (f ρ) fun ds => .nx (ρ.set i (.ol ds))
def sDrop (f : En → R PD) : En → Fl := fun ρ => toS ρ (f ρ) fun _ => .nx ρ
def sRet (f : En → R PD) : En → Fl := fun ρ => toS ρ (f ρ) fun d => .rt d
def sIf (p : En → R Bool) (g h : En → Fl) : En → Fl := fun ρ => toS ρ (p ρ) fun b => if b = true then g ρ else h ρ
def frz (i : Nat) (ρ : En) : En := match ρ[i]? with
  | some (.ol ds) => ρ.set i (.va (.list ds))
  | _ => ρ
def sFrz (i : Nat) (g : En → Fl) : En → Fl := fun ρ => g (frz i ρ)
def sApp (i : Nat) (f : En → R PD) : En → Fl := fun ρ => match ρ[i]? with
  | some (.ol ds) => toS ρ (f ρ) fun d => if ds.length < big then .nx (ρ.set i (.ol (ds ++ [d]))) else .bad
  | _ => .bad
section
variable {X : Cx} {W : WX} {st : Stmt} {sts rest : List Stmt} {g h : En → Fl} {e : Expr} {f : En → R PD} {fl : En → R (List PD)} {p : En → R Bool} {pos : Pos} {i : Nat} {x : Str}
theorem dss_nil : DSs X W [] sNx := ⟨_, pss_nil, fun H0 O0 O ρ σ H D rl o => o O H σ rl⟩
theorem dss_one (a : DS X W st g) : DSs X W [st] g := let ⟨t, x, y⟩ := a.ex; ⟨t, pss_one x, y⟩
theorem dss_cons (a : DS X W st g) (b : DSs X W rest h) : DSs X W (st :: rest) (sSeq g h) := by
  obtain ⟨t, pt, qt⟩ := a.ex
  obtain ⟨u, pu, qu⟩ := b.ex
  refine ⟨_, pss_cons pt pu, fun H0 O0 O ρ σ H D rl o => ?_⟩
  refine qt H0 O0 O ρ σ H _ rl ?_
  unfold sSeq at o
  cases q : g ρ with
  | nx ρ' => rw [q] at o; exact fun O' H' σ' r => qu H0 O0 O' ρ' σ' H' D r o
  | rt d => rw [q] at o; exact o
  | bk ρ' => rw [q] at o; exact o
  | ct ρ' => rw [q] at o; exact o
  | ex c pl ρ' => rw [q] at o; exact o
  | bad => rw [q] at o; exact o
theorem dss_frz (i : Nat) (a : DSs X W sts g) : DSs X W sts (sFrz i g) := by
  obtain ⟨t, pt, qt⟩ := a.ex
  refine ⟨t, pt, fun H0 O0 O ρ σ H D rl o => ?_⟩
  unfold sFrz frz at o
  cases q : ρ[i]? with
  | none => rw [q] at o; exact qt H0 O0 O ρ σ H D rl o
  | some s =>
    rw [q] at o
    cases s with
    | ol ds => obtain ⟨O', r⟩ := rl.freeze q; exact qt H0 O0 O' _ σ H D r o
    | _ => exact qt H0 O0 O ρ σ H D rl o
theorem ds_pass : DS X W (.Pass pos) sNx := ⟨_, ps_pass, fun H0 O0 O ρ σ H D rl o => o O H σ rl⟩
theorem ds_break : DS X W (.Break pos) (fun ρ => .bk ρ) := ⟨_, ps_break, fun H0 O0 O ρ σ H D rl o => o O H σ rl⟩
theorem ds_continue : DS X W (.Continue pos) (fun ρ => .ct ρ) := ⟨_, ps_continue, fun H0 O0 O ρ σ H D rl o => o O H σ rl⟩
theorem ds_set {pos' : Pos} (hN : X.N.Nodup) (hi : X.N[i]? = some x) (hx : Loc X.env.scope x) (he : DE X W e f) (hs : swapsWith e (some (.Name x pos')) pos.line X.env = pure false := by rfl) (hf : X.fn x = true ∨ X.env.scope.names.lookup x = some .local := by first | exact .inl rfl | exact .inr rfl | assumption) :
    DS X W (.Assign [.Name x pos'] e pos) (sSet i f) := by
  obtain ⟨t, pt, qt⟩ := he.ex
  refine ⟨_, ps_set hN hi hx pt hs hf, fun H0 O0 O ρ σ H D rl o => ?_⟩
  exact qt H0 O0 O ρ σ H _ rl ((OutS.ofR rl o).imp fun d H1 e1 o1 v hv => o1 O H1 _ ((rl.grow e1).setV hv i))
/-- a new list of the frame's own -/
theorem ds_setL {pos' : Pos} (hN : X.N.Nodup) (hi : X.N[i]? = some x) (hx : Loc X.env.scope x) (he : DF X W e fl) (hs : swapsWith e (some (.Name x pos')) pos.line X.env = pure false := by rfl) (hf : X.fn x = true ∨ X.env.scope.names.lookup x = some .local := by first | exact .inl rfl | exact .inr rfl | assumption) :
    DS X W (.Assign [.Name x pos'] e pos) (sSetL i fl) := by
  obtain ⟨t, pt, qt⟩ := he.ex
  refine ⟨_, ps_set hN hi hx pt hs hf, fun H0 O0 O ρ σ H D rl o => ?_⟩
  refine qt H0 O0 O ρ σ H _ rl ((OutS.ofR rl o).imp fun ds H1 e1 o1 p vs H2 np hv e2 => ?_)
  subst e2
  have r1 := rl.grow e1
  refine o1 _ _ _ (r1.setO np i ⟨p, vs, rfl, .inr rfl, fun z => r1.al p (r1.sub p z) np, upd_same, hv.mono (wo_add np)⟩)
theorem ds_expr (he : DE X W e f) (hs : swapsWith e none pos.line X.env = pure false := by rfl) : DS X W (.Expr e pos) (sDrop f) := by
  obtain ⟨t, pt, qt⟩ := he.ex
  refine ⟨_, ps_expr pt hs, fun H0 O0 O ρ σ H D rl o => ?_⟩
  exact qt H0 O0 O ρ σ H _ rl ((OutS.ofR rl o).imp fun d H1 e1 o1 v hv => o1 O H1 σ (rl.grow e1))
theorem ds_ret (he : DE X W e f) : DS X W (.Return (some e) pos) (sRet f) := by
  obtain ⟨t, pt, qt⟩ := he.ex
  refine ⟨_, ps_ret pt, fun H0 O0 O ρ σ H D rl o => ?_⟩
  exact qt H0 O0 O ρ σ H _ rl ((OutS.ofR rl o).imp fun d H1 e1 o1 v hv => o1 v H1 (rl.fr.trans e1) (hv.mono (wo_sub rl.sub)))
theorem ds_retN : DS X W (.Return none pos) (fun _ => .rt .none) := ⟨_, ps_retN, fun H0 O0 O ρ σ H D rl o => o .non H rl.fr .non⟩
theorem ds_if {c : Expr} {a b : List Stmt} (hc : DB X W c p) (ha : DSs X W a g) (hb : DSs X W b h) : DS X W (.If c a b pos) (sIf p g h) := by
  obtain ⟨tc, pc, qc⟩ := hc.ex
  obtain ⟨ta, pa, qa⟩ := ha.ex
  obtain ⟨tb, pb, qb⟩ := hb.ex
  refine ⟨_, ps_if pc pa pb, fun H0 O0 O ρ σ H D rl o => ?_⟩
  refine qc H0 O0 O ρ σ H _ rl ((OutS.ofR rl o).imp fun k H1 e1 o1 => ?_)
  cases k with
  | true => rw [if_pos rfl] at o1 ⊢; exact qa H0 O0 O ρ σ H1 D (rl.grow e1) o1
  | false => rw [if_neg Bool.false_ne_true] at o1 ⊢; exact qb H0 O0 O ρ σ H1 D (rl.grow e1) o1
/-- x.append(e), x an own list -/
theorem ds_app {a : Expr} {apos cpos : Pos} (hx : PE X a (tVar i)) (he : DE X W e f) (hs : swapsWith (.Call (.Attribute a "append" apos) [e] [] cpos) none pos.line X.env = pure false := by rfl)
    (hbase : attributeBase a "append" X.env (eval a X.env) = eval a X.env := by rfl)
    (hfew : ((backTo cpos (starEach [e] X.env)).all (fun x => !x.1) && (backToKw cpos (keywordEach [] X.env)).all (fun x => x.1.isSome)
      && decide (([e] : List Expr).length + ([] : List Keyword).length + (if ([] : List Keyword).isEmpty then 0 else 1) < 30)) = true := by rfl)
    (hline : (apos.endLine == cpos.line) = true := by rfl) (hst : starEach [e] X.env = (false, eval e X.env) :: starEach [] X.env := by rfl) (hplain : (backTo cpos (starEach [] X.env)).any (·.1) = false := by rfl) :
    DS X W (.Expr (.Call (.Attribute a "append" apos) [e] [] cpos) pos) (sApp i f) := by
  obtain ⟨t, pt, qt⟩ := he.ex
  refine ⟨_, ps_expr (pe_bm PySem.F.plainAttrs_list PySem.F.slot_list_append PySem.F.type_list_append mt_append hx (pa_cons pt pa_nil hst) hbase hfew hline hst hplain) hs, fun H0 O0 O ρ σ H D rl o => ?_⟩
  unfold sApp at o
  cases q : ρ[i]? with
  | none => rw [q] at o; exact o.elim
  | some s =>
    rw [q] at o
    cases s with
    | ol ds =>
      obtain ⟨p, vs, e1, m1, m2, m3, m4⟩ := rl.sl i _ q
      refine ⟨_, e1, .inl ⟨rfl, vs, .inl (.inl m3)⟩, ?_⟩
      refine qt H0 O0 O ρ σ H _ rl ((OutS.ofR rl o).imp fun d H1 ex o1 v hv => ?_)
      by_cases hz : ds.length < big
      · rw [if_pos hz] at o1
        have m5 := m4.mono (same_wo (O := O) ex)
        refine ⟨p, vs, v, rfl, rfl, ex _ _ m3, by rw [m4.length]; exact big_line' hz, ?_⟩
        refine o1 O _ σ ((rl.grow ex).updO q rfl rfl e1 ⟨p, vs ++ [v], rfl, m1, m2, upd_same, ?_⟩)
        rw [wo_upd m1]
        exact m5.append (.one hv)
      · rw [if_neg hz] at o1; exact o1.elim
    | _ => exact o.elim

/-! ### targets -/
def OutG (K : PySem.W.Frag) (H0 : Hp) (O0 O : Addr → Prop) (H : Hp) (vs : List Nat) (σ : L2.St) (r : R En) (Q : L2.St → Hp → Prop) : Prop := match r with
  | .ok ρ' => ∀ σ', Rel K H0 O0 O H ρ' σ' → σ'.length = σ.length → (∀ j, j ∉ vs → σ'[j]? = σ[j]?) → Q σ' H
  | _ => False
structure DG (X : Cx) (tg : Expr) (vs : List Nat) (g : PD → En → R En) : Prop where
  ex : ∃ t, PG X tg t ∧ ∀ H0 O0 O ρ σ H x d Q, Rel X.K H0 O0 O H ρ σ → Dq X.K (wo H O) x d → OutG X.K H0 O0 O H vs σ (g d ρ) Q → t x σ H Q
structure DGs (X : Cx) (tgs : List Expr) (vs : List Nat) (g : List PD → En → R En) : Prop where
  ex : ∃ t, PGs X tgs t ∧ ∀ H0 O0 O ρ σ H xs ds Q, Rel X.K H0 O0 O H ρ σ → DqAll X.K (wo H O) xs ds → OutG X.K H0 O0 O H vs σ (g ds ρ) Q → t xs σ H Q
def gN (i : Nat) : PD → En → R En := fun d ρ => .ok (ρ.set i (.va d))
def gZ : List PD → En → R En := fun ds ρ => match ds with
  | [] => .ok ρ
  | _ => .bad
def gC (a : PD → En → R En) (b : List PD → En → R En) : List PD → En → R En := fun ds ρ => match ds with
  | [] => .bad
  | d :: r => match a d ρ with
    | .ok ρ' => b r ρ'
    | _ => .bad
def gT (n : Nat) (a : List PD → En → R En) : PD → En → R En := fun d ρ => match d with
  | .tuple ds => chk (ds.length == n) (a ds ρ)
  | .list ds => chk (ds.length == n) (a ds ρ)
  | _ => .bad
theorem dg_name (hN : X.N.Nodup) (hi : X.N[i]? = some x) (hx : Loc X.env.scope x) (hf : X.fn x = true ∨ X.env.scope.names.lookup x = some .local := by first | exact .inl rfl | exact .inr rfl | assumption) : DG X (.Name x pos) [i] (gN i) :=
  ⟨_, pg_name hN hi hx hf, fun H0 O0 O ρ σ H v d Q rl hd o => o _ (rl.setV hd i) (by simp) fun j hj => List.getElem?_set_ne (fun z => hj (by simp [z]))⟩
theorem dgs_nil : DGs X [] [] gZ := ⟨_, pgs_nil, fun H0 O0 O ρ σ H xs ds Q rl hd o => by
  cases hd with
  | nil => exact ⟨rfl, o σ rl rfl fun _ _ => rfl⟩
  | cons => exact o.elim⟩
theorem dgs_cons {e : Expr} {es : List Expr} {vs ws : List Nat} {a : PD → En → R En} {b : List PD → En → R En} (h1 : DG X e vs a) (h2 : DGs X es ws b)
    (hs : (assignEach (e :: es) X.env).map (·.2) = assign e X.env :: (assignEach es X.env).map (·.2) := by rfl) : DGs X (e :: es) (vs ++ ws) (gC a b) := by
  obtain ⟨t, pt, qt⟩ := h1.ex
  obtain ⟨u, pu, qu⟩ := h2.ex
  refine ⟨_, pgs_cons pt pu hs, fun H0 O0 O ρ σ H xs ds Q rl hd o => ?_⟩
  cases hd with
  | nil => exact o.elim
  | cons h1 h2 =>
    rename_i v vr d dr
    refine ⟨_, _, rfl, qt H0 O0 O ρ σ H _ _ _ rl h1 ?_⟩
    unfold gC at o
    cases q : a d ρ with
    | ok ρ' =>
      simp only [q] at o
      intro σ' rl' hl hk
      refine qu H0 O0 O ρ' σ' H _ _ _ rl' h2 ?_
      cases q2 : b dr ρ' with
      | ok ρ2 =>
        rw [q2] at o
        exact fun σ2 r2 hl2 hk2 => o σ2 r2 (hl2.trans hl) fun j hj => (hk2 j fun z => hj (List.mem_append_right _ z)).trans (hk j fun z => hj (List.mem_append_left _ z))
      | ex _ _ => rw [q2] at o; exact o.elim
      | bad => rw [q2] at o; exact o.elim
    | ex _ _ => simp only [q] at o; exact o.elim
    | bad => simp only [q] at o; exact o.elim
theorem PG.or {t u : TG} {tg : Expr} (a : PG X tg t) (b : PG X tg u) : PG X tg (fun v σ H Q => t v σ H Q ∨ u v σ H Q) :=
  ⟨fun pins s σ H v w Q I r h => h.elim (a.run pins s σ H v w Q I r) (b.run pins s σ H v w Q I r)⟩
theorem OutG.chk {K : PySem.W.Frag} {H0 : Hp} {O0 O : Addr → Prop} {H : Hp} {vs : List Nat} {σ : L2.St} {c : Bool} {r : R En} {Q : L2.St → Hp → Prop} (h : OutG K H0 O0 O H vs σ (chk c r) Q) : c = true ∧ OutG K H0 O0 O H vs σ r Q := by
  cases c with
  | true => exact ⟨rfl, h⟩
  | false => exact h.elim
theorem dg_tup {es : List Expr} {k : Nat} {n : Nat} {vs : List Nat} {a : List PD → En → R En} (hc : X.calm = true) (h : DGs X es vs a) (hn : (assignEach es X.env).length = n := by rfl) (hst : (assignEach es X.env).findIdx? (·.1) = none := by rfl) :
    DG X (.Tuple es k pos) vs (gT n a) := by
  obtain ⟨t, pt, qt⟩ := h.ex
  refine ⟨_, PG.or (pg_tup hc pt hn hst) (pg_lst hc pt hn hst), fun H0 O0 O ρ σ H x d Q rl hd o => ?_⟩
  cases hd with
  | tup h1 h2 =>
    obtain ⟨c, o⟩ := OutG.chk o
    exact .inl ⟨_, _, rfl, Same.seqT wo_self h1, by rw [h2.length]; exact eq_of_beq c, qt H0 O0 O ρ σ H _ _ _ rl h2 o⟩
  | lst h1 h2 =>
    obtain ⟨c, o⟩ := OutG.chk o
    exact .inr ⟨_, _, rfl, .inl (rd_mono wo_self h1), by rw [h2.length]; exact eq_of_beq c, qt H0 O0 O ρ σ H _ _ _ rl h2 o⟩
  | _ => exact o.elim
def sAsg (f : En → R PD) (g : PD → En → R En) : En → Fl := fun ρ => toS ρ (f ρ) fun d => match g d ρ with
  | .ok ρ' => .nx ρ'
  | _ => .bad
theorem ds_asg {tg : Expr} {vs : List Nat} {a : PD → En → R En} (he : DE X W e f) (hg : DG X tg vs a) (hs : swapsWithSole [tg] e pos.line X.env = pure false := by rfl) (hw : swappedStores [tg] e X.env = pure none := by rfl)
    (h1 : (assignEach [tg] X.env).map (·.2) = [assign tg X.env] := by rfl) : DS X W (.Assign [tg] e pos) (sAsg f a) := by
  obtain ⟨t, pt, qt⟩ := he.ex
  obtain ⟨u, pu, qu⟩ := hg.ex
  refine ⟨_, ps_asg pt pu hs hw h1, fun H0 O0 O ρ σ H D rl o => ?_⟩
  refine qt H0 O0 O ρ σ H _ rl ((OutS.ofR rl o).imp fun d H1 e1 o1 v hv => ?_)
  refine qu H0 O0 O ρ σ H1 v d _ (rl.grow e1) hv ?_
  cases q : a d ρ with
  | ok ρ' => simp only [q] at o1; exact fun σ' r _ _ => o1 O H1 σ' r
  | ex _ _ => simp only [q] at o1; exact o1.elim
  | bad => simp only [q] at o1; exact o1.elim
/-- a, b = x, y, stored from the right -/
def sPar (i j : Nat) (f g : En → R PD) : En → Fl := fun ρ => toS ρ (f ρ) fun d => toS ρ (g ρ) fun d' => .nx ((ρ.set i (.va d)).set j (.va d'))
theorem ds_par {j : Nat} {y : Str} {a b : Expr} {f g : En → R PD} {px py pt : Pos} {kt k2 pt2} (hc : X.calm = true) (hN : X.N.Nodup) (hi : X.N[i]? = some x) (hj : X.N[j]? = some y) (hij : i ≠ j)
    (hx : X.env.scope.names.lookup x = some .local) (hy : X.env.scope.names.lookup y = some .local) (ha : DE X W a f) (hb : DE X W b g)
    (hw : swappedStores [.Tuple [.Name x px, .Name y py] kt pt] (.Tuple [a, b] k2 pt2) X.env = pure (some [x, y]))
    (hs : swapsWithSole [.Tuple [.Name x px, .Name y py] kt pt] (.Tuple [a, b] k2 pt2) pos.line X.env = pure false := by rfl)
    (h1 : starEach [a, b] X.env = (false, eval a X.env) :: starEach [b] X.env := by rfl) (h2 : starEach [b] X.env = (false, eval b X.env) :: starEach [] X.env := by rfl) :
    DS X W (.Assign [.Tuple [.Name x px, .Name y py] kt pt] (.Tuple [a, b] k2 pt2) pos) (sPar i j f g) := by
  obtain ⟨t, pt, qt⟩ := ha.ex
  obtain ⟨u, pu, qu⟩ := hb.ex
  refine ⟨_, ps_par hc hN hi hj hij hx hy (pa_cons pt (pa_cons pu pa_nil h2) h1) hw hs, fun H0 O0 O ρ σ H D rl o => ?_⟩
  refine qt H0 O0 O ρ σ H _ rl ((OutS.ofR rl o).imp fun d H1 e1 o1 v hv => ?_)
  refine qu H0 O0 O ρ σ H1 _ (rl.grow e1) ((OutS.ofR (rl.grow e1) o1).imp fun d' H2 e2 o2 v' hv' => ?_)
  exact ⟨v, v', rfl, o2 O H2 _ ((((rl.grow e1).grow e2).setV (hv.mono (same_wo e2)) i).setV hv' j)⟩
end
end DL
namespace DL
open PySem PySem.Spec L2

/-! ### what a loop or a comprehension walks -/
structure Wk (K : PySem.W.Frag) (J : It) (items : List PD) (G : Hp) : Prop where
  go : ∀ i H, Same G H → i < items.length → J.go i H
  stop : ∀ i H, Same G H → items.length ≤ i → J.stop i H
  yld : ∀ i H x H', Same G H → J.yld i H x H' → Same H H' ∧ ∀ d, items[i]? = some d → ∀ O, Same G (wo H O) → (∀ p, H p = none → ¬ O p) → Dq K (wo H' O) x d
structure DI (X : Cx) (W : WX) (tg iter : Expr) (f : En → R (List PD)) : Prop where
  ex : ∃ wi, PI X tg iter wi ∧ ∀ H0 O0 O ρ σ H (Rr : It → Hp → Prop), Rel X.K H0 O0 O H ρ σ → OutP X W O σ H (f ρ) (fun items H1 => ∀ J, Wk X.K J items (wo H1 O) → Rr J H1) → wi σ H Rr
section
variable {K : PySem.W.Frag} {G : Hp} {a : Addr} {vs : List V} {ds : List PD}
theorem rd_inj {H : Hp} {u u' : HO} (h : Rd H a u) (h' : Rd H a u') (d : ∀ o, u ≠ .frz o u') (d' : ∀ o, u' ≠ .frz o u) : u = u' := by
  rcases h with h | ⟨o, h⟩ <;> rcases h' with h' | ⟨o', h'⟩ <;> rw [h] at h' <;> cases h'
  · rfl
  · exact absurd rfl (d _)
  · exact absurd rfl (d' _)
  · rfl
/-- a list's reading is one, over any heap that holds (by Inv); here for heaps that are not known to hold: by what is tracked or written -/
theorem wk_list (h1 : SqL K G a vs) (h2 : DqAll K G vs ds) : Wk K (Itl K a) ds G where
  go := fun i H e hi => ⟨vs, vs[i]'(by rw [h2.length]; exact hi), e.seq h1, List.getElem?_eq_getElem _⟩
  stop := fun i H e hi => ⟨vs, e.seq h1, by rw [h2.length]; exact hi⟩
  yld := fun i H x H' e ⟨eH, q⟩ => ⟨by rw [eH]; exact Same.refl H, fun d hd O eo nO => by
    obtain ⟨d', k1, k2⟩ := h2.getV (q vs (e.seq h1))
    rw [hd] at k1; cases k1
    rw [eH]; exact k2.mono eo⟩
theorem wk_tup (h1 : SqT K G a vs) (h2 : DqAll K G vs ds) : Wk K (Itt K a) ds G where
  go := fun i H e hi => ⟨vs, vs[i]'(by rw [h2.length]; exact hi), Same.seqT e h1, List.getElem?_eq_getElem _⟩
  stop := fun i H e hi => ⟨vs, Same.seqT e h1, by rw [h2.length]; exact hi⟩
  yld := fun i H x H' e ⟨eH, q⟩ => ⟨by rw [eH]; exact Same.refl H, fun d hd O eo nO => by
    obtain ⟨d', k1, k2⟩ := h2.getV (q vs (Same.seqT e h1))
    rw [hd] at k1; cases k1
    rw [eH]; exact k2.mono eo⟩
def rangeL (lo : Int) (n : Nat) : List PD := (List.range n).map fun (i : Nat) => .int (lo + (i : Int))
theorem rangeL_len (lo : Int) (n : Nat) : (rangeL lo n).length = n := by simp [rangeL]
theorem rangeL_get {lo : Int} {n i : Nat} {d : PD} (h : (rangeL lo n)[i]? = some d) : d = .int (lo + (i : Int)) := by
  unfold rangeL at h
  rw [List.getElem?_map] at h
  by_cases hi : i < n
  · rw [List.getElem?_range hi] at h; cases h; rfl
  · rw [List.getElem?_eq_none (by simpa using hi)] at h; cases h
theorem wk_range (lo : Int) (n : Nat) : Wk K (Itr lo n) (rangeL lo n) G where
  go := fun i H e hi => by rw [rangeL_len] at hi; exact hi
  stop := fun i H e hi => by rw [rangeL_len] at hi; exact hi
  yld := fun i H x H' e ⟨eH, q⟩ => ⟨by rw [eH]; exact Same.refl H, fun d hd O eo nO => by
    rw [rangeL_get hd, q]; exact .int _⟩
end
theorem PI.or {X : Cx} {tg iter : Expr} {w u : TI} (a : PI X tg iter w) (b : PI X tg iter u) : PI X tg iter (fun σ H R => w σ H R ∨ u σ H R) :=
  ⟨fun pins s σ H R I h => h.elim (a.run pins s σ H R I) (b.run pins s σ H R I)⟩
/-- lists and tuples (others: texts) -/
def itD : PD → R (List PD)
  | .list ds => .ok ds
  | .tuple ds => .ok ds
  | _ => .bad
def iSeq (f : En → R PD) : En → R (List PD) := fun ρ => (f ρ).bind itD
def rg1 (d : PD) : R (List PD) := match d with
  | .int n => chk (decide (-1000000000000000 ≤ n ∧ n ≤ 1000000000000000)) (.ok (rangeL 0 n.toNat))
  | _ => .bad
def iR1 (f : En → R PD) : En → R (List PD) := fun ρ => (f ρ).bind rg1
def rg2 (d e : PD) : R (List PD) := match d, e with
  | .int m, .int n => chk (decide (-1000000000000000 ≤ m ∧ m ≤ 1000000000000000 ∧ -1000000000000000 ≤ n ∧ n ≤ 1000000000000000)) (.ok (rangeL m (n - m).toNat))
  | _, _ => .bad
def iR2 (f g : En → R PD) : En → R (List PD) := fun ρ => (f ρ).bind fun d => (g ρ).bind fun e => rg2 d e
section
variable {X : Cx} {W : WX} {tg iter a b : Expr} {f g : En → R PD} {pos p : Pos}
theorem PI.ofPre {w w' : TI} (h : PI X tg iter w) (e : ∀ σ H R, w' σ H R → w σ H R) : PI X tg iter w' := ⟨fun pins s σ H R I q => h.run pins s σ H R I (e σ H R q)⟩
theorem di_seq (h : DE X W iter f) : DI X W tg iter (iSeq f) := by
  obtain ⟨t, pt, qt⟩ := h.ex
  refine ⟨_, PI.or (pi_list pt) (pi_tup pt), fun H0 O0 O ρ σ H Rr rl o => ?_⟩
  unfold iSeq at o
  cases q : f ρ with
  | ok d =>
    rw [q] at o
    cases d with
    | list ds =>
      refine .inl (qt H0 O0 O ρ σ H _ rl ?_)
      rw [q]
      intro H1 e1 v hv
      cases hv with
      | lst h1 h2 => exact ⟨_, rfl, ⟨_, .inl (rd_mono wo_self h1)⟩, o H1 e1 _ (wk_list (.inl h1) h2)⟩
    | tuple ds =>
      refine .inr (qt H0 O0 O ρ σ H _ rl ?_)
      rw [q]
      intro H1 e1 v hv
      cases hv with
      | tup h1 h2 => exact ⟨_, rfl, ⟨_, Same.seqT wo_self h1⟩, o H1 e1 _ (wk_tup h1 h2)⟩
    | _ => exact o.elim
  | ex c pl =>
    rw [q] at o
    refine .inl (qt H0 O0 O ρ σ H _ rl ?_)
    rw [q]; exact o
  | bad => rw [q] at o; exact o.elim
theorem di_r1 (hg : Gl X "range") (hm : X.mg "range" = none) (ha : DE X W a f) (hs : starEach [a] X.env = (false, eval a X.env) :: starEach [] X.env := by rfl) (hs2 : starEach [a] X.env = [(false, eval a X.env)] := by rfl) : DI X W tg (.Call (.Name "range" p) [a] [] pos) (iR1 f) := by
  obtain ⟨t, pt, qt⟩ := ha.ex
  refine ⟨_, pi_range1 hg hm (pa_cons pt pa_nil hs) hs2, fun H0 O0 O ρ σ H Rr rl o => ?_⟩
  refine qt H0 O0 O ρ σ H _ rl (o.bind.imp fun d H1 e1 o1 v hv => ?_)
  cases d with
  | int n =>
    cases hv.sc_int
    obtain ⟨c, o1⟩ := OutP.chk o1
    have c' := of_decide_eq_true c
    exact ⟨n, rfl, by omega, by omega, o1 H1 (Same.refl H1) _ (wk_range 0 _)⟩
  | _ => exact o1.elim
theorem di_r2 (hg : Gl X "range") (hm : X.mg "range" = none) (ha : DE X W a f) (hb : DE X W b g) (hs : starEach [a, b] X.env = [(false, eval a X.env), (false, eval b X.env)] := by rfl) (hs2 : starEach [b] X.env = [(false, eval b X.env)] := by rfl)
    (h1 : starEach [a, b] X.env = (false, eval a X.env) :: starEach [b] X.env := by rfl) (h2 : starEach [b] X.env = (false, eval b X.env) :: starEach [] X.env := by rfl) : DI X W tg (.Call (.Name "range" p) [a, b] [] pos) (iR2 f g) := by
  obtain ⟨t, pt, qt⟩ := ha.ex
  obtain ⟨u, pu, qu⟩ := hb.ex
  refine ⟨_, pi_range2 hg hm (pa_cons pt (pa_cons pu pa_nil h2) h1) hs hs2, fun H0 O0 O ρ σ H Rr rl o => ?_⟩
  refine qt H0 O0 O ρ σ H _ rl (o.bind.imp fun d H1 e1 o1 v hv => ?_)
  refine qu H0 O0 O ρ σ H1 _ (rl.grow e1) (o1.bind.imp fun d' H2 e2 o2 v' hv' => ?_)
  cases d with
  | int m =>
    cases hv.sc_int
    cases d' with
    | int n =>
      cases hv'.sc_int
      obtain ⟨c, o2⟩ := OutP.chk o2
      have c' := of_decide_eq_true c
      exact ⟨m, n, rfl, by omega, o2 H2 (Same.refl H2) _ (wk_range m _)⟩
    | _ => exact o2.elim
  | _ => cases d' <;> exact o2.elim
end

/-! ### for -/
def forL (tgt : PD → En → R En) (body : En → Fl) : List PD → En → Fl
  | [], ρ => .nx ρ
  | x :: xs, ρ => match tgt x ρ with
    | .ok ρ1 => match body ρ1 with
      | .nx ρ2 => forL tgt body xs ρ2
      | .ct ρ2 => forL tgt body xs ρ2
      | .bk ρ2 => .nx ρ2
      | .rt d => .rt d
      | .ex c pl ρ2 => .ex c pl ρ2
      | .bad => .bad
    | _ => .bad
def sFor (src : En → R (List PD)) (tgt : PD → En → R En) (body : En → Fl) : En → Fl := fun ρ => toS ρ (src ρ) fun items => forL tgt body items ρ
section
variable {X : Cx} {W : WX} {tg iter c : Expr} {body : List Stmt} {src : En → R (List PD)} {tgt : PD → En → R En} {g : En → Fl} {p : En → R Bool} {pos : Pos} {vs : List Nat}
theorem OutS.back {K : PySem.W.Frag} {mg : Str → Option Value} {H0 Hb : Hp} {O0 : Addr → Prop} {D : Ends} {o : Fl} (e : Same H0 Hb) (h : OutS K mg W H0 O0 D o) : OutS K mg W Hb O0 D o := by
  cases o with
  | nx ρ => exact fun O H σ r => h O H σ (r.back e)
  | rt d => exact fun v H r => h v H (e.trans r)
  | bk ρ => exact fun O H σ r => h O H σ (r.back e)
  | ct ρ => exact fun O H σ r => h O H σ (r.back e)
  | ex c pl ρ => exact fun O H σ cls dx r => h O H σ cls dx (r.back e)
  | bad => exact h
theorem drop_cons {α : Type} {l : List α} {i : Nat} (h : i < l.length) : l.drop i = l[i] :: l.drop (i + 1) := List.drop_eq_getElem_cons h
theorem ds_for (hp : PassesOwn (model X.prog X.w) X.A X.env X.xe) (hc : X.calm = true) (hi : DI X W tg iter src) (hg : DG X tg vs tgt) (hb : DSs X W body g)
    (hs : ∀ x, foldedSetIterable iter X.env x = pure x := by intro _; rfl) : DS X W (.For tg iter body [] pos) (sFor src tgt g) := by
  obtain ⟨wi, pw, qw⟩ := hi.ex
  obtain ⟨tG, pg, qg⟩ := hg.ex
  obtain ⟨tb, pb, qb⟩ := hb.ex
  refine ⟨_, ps_for hp hc pw pg pb hs, fun H0 O0 O ρ σ H D rl o => ?_⟩
  refine qw H0 O0 O ρ σ H _ rl ((OutS.ofR rl o).imp fun items H1 e1 o1 J wk => ?_)
  have r1 := rl.grow e1
  have rb := r1.rebase
  refine ⟨fun i m σ' H' => m = items.length - i ∧ i ≤ items.length ∧ ∃ O' ρ', Rel X.K (baseOf H1 O0 O) O0 O' H' ρ' σ' ∧ OutS X.K X.mg W H0 O0 D (forL tgt g (items.drop i) ρ'), ⟨items.length, by simp, Nat.zero_le _, O, ρ, rb, by simpa using o1⟩, ?_⟩
  rintro i m σ' H' ⟨rfl, hi, O', ρ', r', o'⟩
  have kG : Same (wo H1 O) (wo H' O') := r1.keep r'
  have kH : Same (wo H1 O) H' := kG.trans wo_self
  by_cases hlt : i < items.length
  · refine .inr ⟨wk.go i H' kH hlt, fun σ2 H2 => ∃ O2 ρ2, Rel X.K (baseOf H1 O0 O) O0 O2 H2 ρ2 σ2 ∧ OutS X.K X.mg W H0 O0 D (forL tgt g (items.drop (i + 1)) ρ2), fun σ2 H2 ⟨O2, ρ2, a, b⟩ => ⟨items.length - (i + 1), by omega, rfl, hlt, O2, ρ2, a, b⟩, fun x H3 y => ?_⟩
    obtain ⟨y1, y2⟩ := wk.yld i H' x H3 kH y
    have y3 := y2 _ (List.getElem?_eq_getElem hlt) O' kG (fun p n => r'.fresh n)
    refine qg _ O0 O' ρ' σ' H3 x _ _ (r'.grow y1) y3 ?_
    rw [drop_cons hlt] at o'
    unfold forL at o'
    cases q : tgt items[i] ρ' with
    | ok ρ1 =>
      simp only [q] at o'
      intro σ1 rr _ _
      refine qb _ O0 O' ρ1 σ1 H3 _ rr ?_
      cases q2 : g ρ1 with
      | nx ρ2 => simp only [q2] at o'; exact fun O2 H4 σ2 r4 => ⟨O2, ρ2, r4, o'⟩
      | ct ρ2 => simp only [q2] at o'; exact fun O2 H4 σ2 r4 => ⟨O2, ρ2, r4, o'⟩
      | bk ρ2 => simp only [q2] at o'; exact OutS.back r1.same_base (o := .nx ρ2) o'
      | rt d => simp only [q2] at o'; exact OutS.back r1.same_base (o := .rt d) o'
      | ex c pl ρ2 => simp only [q2] at o'; exact OutS.back r1.same_base (o := .ex c pl ρ2) o'
      | bad => simp only [q2] at o'; exact o'.elim
    | ex _ _ => simp only [q] at o'; exact o'.elim
    | bad => simp only [q] at o'; exact o'.elim
  · refine .inl ⟨wk.stop i H' kH (by omega), ?_⟩
    rw [List.drop_of_length_le (by omega)] at o'
    exact o' O' H' σ' (r'.back r1.same_base)

/-! ### while -/
def whL (p : En → R Bool) (g : En → Fl) : Nat → En → Fl
  | 0, _ => .bad
  | n + 1, ρ => toS ρ (p ρ) fun b => if b = true then (match g ρ with
      | .nx ρ2 => whL p g n ρ2
      | .ct ρ2 => whL p g n ρ2
      | .bk ρ2 => .nx ρ2
      | .rt d => .rt d
      | .ex c pl ρ2 => .ex c pl ρ2
      | .bad => .bad) else .nx ρ
theorem ds_while (n : Nat) (hp : PassesOwn (model X.prog X.w) X.A X.env X.xe) (hc : DB X W c p) (hb : DSs X W body g) : DS X W (.While c body [] pos) (whL p g n) := by
  obtain ⟨tc, pc, qc⟩ := hc.ex
  obtain ⟨tb, pb, qb⟩ := hb.ex
  refine ⟨_, ps_while hp pc pb, fun H0 O0 O ρ σ H D rl o => ?_⟩
  refine ⟨fun m σ' H' => ∃ O' ρ', Rel X.K H0 O0 O' H' ρ' σ' ∧ OutS X.K X.mg W H0 O0 D (whL p g m ρ'), ⟨n, O, ρ, rl, o⟩, ?_⟩
  rintro m σ' H' ⟨O', ρ', r', o'⟩
  cases m with
  | zero => exact o'.elim
  | succ m =>
    unfold whL at o'
    refine qc H0 O0 O' ρ' σ' H' _ r' ((OutS.ofR r' o').imp fun b H1 e1 o1 => ?_)
    cases b with
    | true =>
      rw [if_pos rfl] at o1 ⊢
      refine ⟨fun σ2 H2 => ∃ O2 ρ2, Rel X.K H0 O0 O2 H2 ρ2 σ2 ∧ OutS X.K X.mg W H0 O0 D (whL p g m ρ2), fun σ2 H2 h => ⟨m, Nat.lt_succ_self m, h⟩, ?_⟩
      refine qb H0 O0 O' ρ' σ' H1 _ (r'.grow e1) ?_
      cases q2 : g ρ' with
      | nx ρ2 => simp only [q2] at o1; exact fun O2 H4 σ2 r4 => ⟨O2, ρ2, r4, o1⟩
      | ct ρ2 => simp only [q2] at o1; exact fun O2 H4 σ2 r4 => ⟨O2, ρ2, r4, o1⟩
      | bk ρ2 => simp only [q2] at o1; exact o1
      | rt d => simp only [q2] at o1; exact o1
      | ex c pl ρ2 => simp only [q2] at o1; exact o1
      | bad => simp only [q2] at o1; exact o1.elim
    | false =>
      rw [if_neg Bool.false_ne_true] at o1 ⊢
      exact o1 O' H1 σ' (r'.grow e1)
end

/-! ### comprehensions -/
abbrev W0 : WX := fun _ _ _ _ => False
theorem takesW0 {X : Cx} : Takes X W0 := fun _ _ x => by
  obtain ⟨_, _, _, _, _, _, _, _, _, _, _, _, _, _, _, _, z⟩ := x
  exact z.elim
structure DT (X : Cx) (ifs : List Expr) (f : En → R Bool) : Prop where
  ex : ∃ t, PTs X ifs t ∧ ∀ H0 O0 O ρ σ H Q, Rel X.K H0 O0 O H ρ σ → OutP X W0 O σ H (f ρ) Q → t σ H Q
def bYes : En → R Bool := fun _ => .ok true
theorem dt_nil {X : Cx} : DT X [] bYes := ⟨_, pts_nil, fun H0 O0 O ρ σ H Q rl o => o H (Same.refl H)⟩
theorem dt_one {X : Cx} {c : Expr} {p : En → R Bool} (h : DB X W0 c p) : DT X [c] p := let ⟨t, x, y⟩ := h.ex; ⟨t, pts_one x, y⟩
def wipeE (ρ : En) : List Nat → En
  | [] => ρ
  | v :: vs => (wipeE ρ vs).set v .un
def compL (tgt : PD → En → R En) (p : En → R Bool) (f : En → R PD) (ρ : En) : List PD → R (List PD)
  | [] => .ok []
  | x :: xs => (tgt x ρ).nx.bind fun ρ1 => (p ρ1).nx.bind fun b => if b = true then (f ρ1).nx.bind fun d => (compL tgt p f ρ xs).bind fun r => .ok (d :: r) else compL tgt p f ρ xs
def cLc (own : List Nat) (src : En → R (List PD)) (tgt : PD → En → R En) (p : En → R Bool) (f : En → R PD) : En → R (List PD) := fun ρ => (src ρ).bind fun items => chk (decide (items.length ≤ big)) (compL tgt p f (wipeE ρ own) items)
section
variable {K : PySem.W.Frag} {H0 H : Hp} {O0 O : Addr → Prop} {ρ : En} {σ : L2.St}
theorem Rel.un (h : Rel K H0 O0 O H ρ σ) (i : Nat) : Rel K H0 O0 O H (ρ.set i .un) (σ.set i none) := by
  refine ⟨h.fr, h.sub, h.nw, h.al, by simp [h.len], fun j s q => ?_, fun j l s s' p hjl q q' ns ns' e e' => ?_⟩
  · rcases get_set q with ⟨rfl, rfl, hi⟩ | ⟨hj, q⟩
    · trivial
    · rw [List.getElem?_set_ne (Ne.symm hj)]; exact h.sl j s q
  · rcases get_set q with ⟨rfl, rfl, hi⟩ | ⟨hj, k1⟩
    · cases ns
    · rcases get_set q' with ⟨rfl, rfl, hi⟩ | ⟨hl, k2⟩
      · cases ns'
      · rw [List.getElem?_set_ne (Ne.symm hj)] at e
        rw [List.getElem?_set_ne (Ne.symm hl)] at e'
        exact h.dj j l s s' p hjl k1 k2 ns ns' e e'
theorem Rel.wipe (h : Rel K H0 O0 O H ρ σ) : ∀ vs : List Nat, Rel K H0 O0 O H (wipeE ρ vs) (L2.wipe σ vs)
  | [] => h
  | v :: vs => (h.wipe vs).un v
theorem wipe_get (σ : L2.St) (j : Nat) : ∀ vs : List Nat, (L2.wipe σ vs)[j]? = if j ∈ vs then (if j < σ.length then some none else none) else σ[j]?
  | [] => by simp [L2.wipe]
  | v :: vs => by
    unfold L2.wipe
    by_cases e : v = j
    · subst e
      by_cases hv : v < σ.length
      · rw [List.getElem?_set_self (by rw [wipe_length]; exact hv)]; simp [hv]
      · rw [List.getElem?_eq_none (by rw [List.length_set, wipe_length]; omega)]; simp [hv]
    · rw [List.getElem?_set_ne e, wipe_get σ j vs]
      have : (j ∈ v :: vs) = (j ∈ vs) := by simp [Ne.symm e]
      simp only [this]
theorem wipe_ext {σ σ' : L2.St} {vs own : List Nat} (hl : σ'.length = σ.length) (h : ∀ j, j ∉ vs → σ'[j]? = σ[j]?) (hs : ∀ j ∈ vs, j ∈ own) : L2.wipe σ' own = L2.wipe σ own := by
  apply List.ext_getElem?
  intro j
  rw [wipe_get, wipe_get, hl]
  by_cases hj : j ∈ own
  · rw [if_pos hj, if_pos hj]
  · rw [if_neg hj, if_neg hj]; exact h j fun z => hj (hs j z)
theorem wipe_wipe (σ : L2.St) (vs : List Nat) : L2.wipe (L2.wipe σ vs) vs = L2.wipe σ vs := by
  apply List.ext_getElem?
  intro j
  rw [wipe_get, wipe_get, wipe_length]
  by_cases hj : j ∈ vs
  · rw [if_pos hj, if_pos hj]
  · rw [if_neg hj, if_neg hj]
/-- one more own thing, of no slot -/
theorem Rel.extra {p : Addr} {o : HO} (h : Rel K H0 O0 O H ρ σ) (n : H p = none) : Rel K H0 O0 (fun q => O q ∨ q = p) (upd H p o) ρ σ := by
  refine ⟨h.fr.trans (Same.updNew n), fun q z => .inl (h.sub q z), fun q z => ?_, fun q z => ?_, h.len, fun j s q => ?_, h.dj⟩
  · rcases z with z | rfl
    · exact h.nw q z
    · exact .inr (h.fr.free n)
  · by_cases hq : q = p
    · subst hq; rw [upd_same]; exact fun y => nomatch y
    · rw [upd_ne hq]; exact h.al q (z.resolve_right hq)
  · refine (h.sl j s q).move (wo_add n) fun r hr hO hn => .inl ⟨.inl hO, ?_⟩
    rw [upd_ne (fun z => hn (by rw [z]; exact n))]
/-- .. it is changed -/
theorem Rel.updX {p : Addr} {o : HO} (h : Rel K H0 O0 O H ρ σ) (m : O p) (n0 : ¬ O0 p) (hd : ∀ (i : Nat) (s : Sl), ρ[i]? = some s → Sl.own s = true → σ[i]? ≠ some (some (V.ref p))) : Rel K H0 O0 O (upd H p o) ρ σ := by
  have h0 : H0 p = none := by
    rcases h.nw p m with z | z
    · exact absurd z n0
    · exact z
  refine ⟨fun b u e => ?_, h.sub, h.nw, fun q z => ?_, h.len, fun j t q => ?_, h.dj⟩
  · rw [upd_ne (ne_of_none e h0)]; exact h.fr b u e
  · by_cases hq : q = p
    · subst hq; rw [upd_same]; exact fun y => nomatch y
    · rw [upd_ne hq]; exact h.al q z
  · refine (h.sl j t q).move (by rw [wo_upd m]; exact Same.refl _) fun r hr hO hn => ?_
    by_cases hown : Sl.own t = true
    · refine .inl ⟨hO, ?_⟩
      rw [upd_ne (fun z => hd j t q hown (by rw [hr, z]))]
    · exact .inr (by simpa using hown)
end
end DL
namespace DL
open PySem PySem.Spec L2

/-! ### canonical readings -/
def eCan (X : Cx) (W : WX) (f : En → R PD) : TE := fun σ H Q => ∃ H0 O0 O ρ, Rel X.K H0 O0 O H ρ σ ∧ OutP X W O σ H (f ρ) (fun d H' => ∀ v, Dq X.K (wo H' O) v d → Q v H')
def bCan (X : Cx) (W : WX) (f : En → R Bool) : TT := fun σ H Q => ∃ H0 O0 O ρ, Rel X.K H0 O0 O H ρ σ ∧ OutP X W O σ H (f ρ) Q
def gCan (K : PySem.W.Frag) (vs : List Nat) (g : PD → En → R En) : TG := fun x σ H Q => ∃ H0 O0 O ρ d, Rel K H0 O0 O H ρ σ ∧ Dq K (wo H O) x d ∧ OutG K H0 O0 O H vs σ (g d ρ) Q
def iCan (X : Cx) (W : WX) (f : En → R (List PD)) : TI := fun σ H Rr => ∃ H0 O0 O ρ, Rel X.K H0 O0 O H ρ σ ∧ OutP X W O σ H (f ρ) (fun items H1 => ∀ J, Wk X.K J items (wo H1 O) → Rr J H1)
def sCan (K : PySem.W.Frag) (mg : Str → Option Value) (W : WX) (g : En → Fl) : TS := fun D σ H => ∃ H0 O0 O ρ, Rel K H0 O0 O H ρ σ ∧ OutS K mg W H0 O0 D (g ρ)
section
variable {X : Cx} {W : WX} {e tg iter : Expr} {f : En → R PD} {p : En → R Bool} {src : En → R (List PD)} {g : En → Fl} {tgt : PD → En → R En} {vs : List Nat} {ifs : List Expr} {sts : List Stmt}
theorem DE.can (h : DE X W e f) : PE X e (eCan X W f) := let ⟨_, a, b⟩ := h.ex; ⟨fun pins s σ H Q I ⟨H0, O0, O, ρ, r, o⟩ => a.run pins s σ H Q I (b H0 O0 O ρ σ H Q r o)⟩
theorem DT.can (h : DT X ifs p) : PTs X ifs (bCan X W0 p) := let ⟨_, a, b⟩ := h.ex; ⟨fun pins s σ H Q I ⟨H0, O0, O, ρ, r, o⟩ => a.run pins s σ H Q I (b H0 O0 O ρ σ H Q r o)⟩
theorem DG.can (h : DG X tg vs tgt) : PG X tg (gCan X.K vs tgt) := let ⟨_, a, b⟩ := h.ex; ⟨fun pins s σ H v u Q I rv ⟨H0, O0, O, ρ, d, r, hd, o⟩ => a.run pins s σ H v u Q I rv (b H0 O0 O ρ σ H v d Q r hd o)⟩
theorem DI.can (h : DI X W tg iter src) : PI X tg iter (iCan X W src) := let ⟨_, a, b⟩ := h.ex; ⟨fun pins s σ H Rr I ⟨H0, O0, O, ρ, r, o⟩ => a.run pins s σ H Rr I (b H0 O0 O ρ σ H Rr r o)⟩
theorem DSs.can (h : DSs X W sts g) : PSs X sts (sCan X.K X.mg W g) := let ⟨_, a, b⟩ := h.ex; ⟨fun pins s σ H D I ⟨H0, O0, O, ρ, r, o⟩ => a.run pins s σ H D I (b H0 O0 O ρ σ H D r o)⟩
end

/-! ### the list comprehension of one clause -/
theorem nx_ok {α : Type} {r : R α} {a : α} (h : r.nx = .ok a) : r = .ok a := by cases r <;> simp_all
theorem nx_bind_ok {α β : Type} {r : R α} {f : α → R β} {b : β} (h : r.nx.bind f = .ok b) : ∃ a, r = .ok a ∧ f a = .ok b := by
  cases r with
  | ok a => exact ⟨a, rfl, h⟩
  | ex _ _ => cases h
  | bad => cases h
theorem bind_ok {α β : Type} {r : R α} {f : α → R β} {b : β} (h : r.bind f = .ok b) : ∃ a, r = .ok a ∧ f a = .ok b := by
  cases r with
  | ok a => exact ⟨a, rfl, h⟩
  | ex _ _ => cases h
  | bad => cases h
theorem compL_noex {tgt : PD → En → R En} {p : En → R Bool} {f : En → R PD} {ρ : En} : ∀ (xs : List PD) (c pl), compL tgt p f ρ xs ≠ .ex c pl := by
  intro xs
  induction xs with
  | nil => intro c pl h; cases h
  | cons x xs ih =>
    intro c pl h
    unfold compL at h
    cases h1 : tgt x ρ with
    | ex _ _ => rw [h1] at h; cases h
    | bad => rw [h1] at h; cases h
    | ok ρ1 =>
      rw [h1] at h
      simp only [R.ok_nx, R.ok_bind] at h
      cases h2 : p ρ1 with
      | ex _ _ => rw [h2] at h; cases h
      | bad => rw [h2] at h; cases h
      | ok b =>
        rw [h2] at h
        simp only [R.ok_nx, R.ok_bind] at h
        cases b with
        | false => rw [if_neg Bool.false_ne_true] at h; exact ih c pl h
        | true =>
          rw [if_pos rfl] at h
          cases h3 : f ρ1 with
          | ex _ _ => rw [h3] at h; cases h
          | bad => rw [h3] at h; cases h
          | ok d =>
            rw [h3] at h
            simp only [R.ok_nx, R.ok_bind] at h
            cases h4 : compL tgt p f ρ xs with
            | ex c' pl' => exact ih c' pl' h4
            | bad => rw [h4] at h; cases h
            | ok r => rw [h4] at h; cases h
/-- the heap without one address -/
noncomputable def without (H : Hp) (D : Addr) : Hp := wo H fun q => q = D
theorem upd_without {H : Hp} {D : Addr} {o : HO} (h : H D = some o) : H = upd (without H D) D o := by
  funext b
  by_cases e : b = D
  · subst e; rw [upd_same]; exact h
  · rw [upd_ne e]; unfold without wo; rw [if_neg e]
theorem wo_without {H : Hp} {D : Addr} {O : Addr → Prop} : wo (without H D) O = wo H fun q => O q ∨ q = D := by
  funext b
  unfold without wo
  by_cases e : O b
  · rw [if_pos e, if_pos (.inl e)]
  · by_cases e2 : b = D
    · rw [if_neg e, if_pos e2, if_pos (.inr e2)]
    · rw [if_neg e, if_neg e2, if_neg (fun z => z.elim e e2)]
section
variable {X : Cx} {W : WX} {elt tg iter : Expr} {ifs : List Expr} {scope : Scope} {own : List (Str × Nat)} {pos spos py : Pos} {src : En → R (List PD)} {tgt : PD → En → R En} {p : En → R Bool} {f : En → R PD} {vs : List Nat} {i : Nat} {y : Str}
/-- the reading, from what the parts do -/
theorem lc_read (hvs : ∀ j ∈ vs, j ∈ own.map (·.2)) {H0 : Hp} {O0 O : Addr → Prop} {ρ : En} {σ : L2.St} {H : Hp} {Q : VK} (rl : Rel X.K H0 O0 O H ρ σ)
    (o : OutP X W O σ H (cLc (own.map (·.2)) src tgt p f ρ) (fun ds H1 => ∀ p vs H2, H1 p = none → DqAll X.K (wo H1 O) vs ds → H2 = upd H1 p (.lst vs) → Q (.ref p) H2)) :
    tLc (iCan X W src) (gCan X.K vs tgt) (bCan X W0 p) (eCan X W0 f) (own.map (·.2)) σ H Q := by
  refine ⟨H0, O0, O, ρ, rl, o.bind.imp fun items H1 e1 o1 J wk => ?_⟩
  obtain ⟨c, o1⟩ := OutP.chk o1
  have hbig : items.length ≤ big := of_decide_eq_true c
  have r1 := rl.grow e1
  intro D nD
  cases hc : compL tgt p f (wipeE ρ (own.map (·.2))) items with
  | ex c' pl => exact absurd hc (compL_noex _ _ _)
  | bad => rw [hc] at o1; exact o1.elim
  | ok ds =>
    rw [hc] at o1
    have rb := (r1.rebase.wipe (own.map (·.2))).extra (o := .lst []) nD
    have nO0 : ¬ O0 D := fun z => r1.al D (r1.sub D z) nD
    have noD : ∀ (j : Nat) (s : Sl), (wipeE ρ (own.map (·.2)))[j]? = some s → Sl.own s = true → (L2.wipe σ (own.map (·.2)))[j]? ≠ some (some (V.ref D)) := fun j s a b z => by
      obtain ⟨q, q1, _, _, q2⟩ := ((r1.rebase.wipe (own.map (·.2))).sl j s a).own_at b
      rw [z] at q1; cases q1
      exact q2 nD
    refine ⟨fun i m H' => m = items.length - i ∧ i ≤ items.length ∧ ∃ acc dacc rest, compL tgt p f (wipeE ρ (own.map (·.2))) (items.drop i) = .ok rest ∧ ds = dacc ++ rest ∧ dacc.length ≤ i ∧ Same H1 H' ∧ H' D = some (.lst acc) ∧
      DqAll X.K (wo H' fun q => O q ∨ q = D) acc dacc ∧ Rel X.K (baseOf H1 O0 O) O0 (fun q => O q ∨ q = D) H' (wipeE ρ (own.map (·.2))) (L2.wipe σ (own.map (·.2))),
      ⟨items.length, by simp, Nat.zero_le _, [], [], ds, by simpa using hc, rfl, Nat.le_refl _, Same.updNew nD, upd_same, .nil, rb⟩, ?_⟩
    rintro i m H' ⟨rfl, hi, acc, dacc, rest, hrest, eds, hdl, kk, hD, hacc, r'⟩
    have kG : Same (wo H1 O) (wo H' fun q => O q ∨ q = D) := by
      have := r'.frz
      rwa [wo_base r1.sub] at this
    have kH : Same (wo H1 O) H' := kG.trans wo_self
    by_cases hlt : i < items.length
    · refine .inr ⟨wk.go i H' kH hlt, fun H2 => i + 1 ≤ items.length ∧ ∃ acc dacc rest, compL tgt p f (wipeE ρ (own.map (·.2))) (items.drop (i + 1)) = .ok rest ∧ ds = dacc ++ rest ∧ dacc.length ≤ i + 1 ∧ Same H1 H2 ∧ H2 D = some (.lst acc) ∧
        DqAll X.K (wo H2 fun q => O q ∨ q = D) acc dacc ∧ Rel X.K (baseOf H1 O0 O) O0 (fun q => O q ∨ q = D) H2 (wipeE ρ (own.map (·.2))) (L2.wipe σ (own.map (·.2))),
        fun H2 q => ⟨items.length - (i + 1), by omega, rfl, q⟩, fun x H3 y => ?_⟩
      obtain ⟨y1, y2⟩ := wk.yld i H' x H3 kH y
      have y3 := y2 _ (List.getElem?_eq_getElem hlt) _ kG (fun p n => r'.fresh n)
      rw [drop_cons hlt] at hrest
      unfold compL at hrest
      obtain ⟨ρ1, t1, hrest⟩ := nx_bind_ok hrest
      obtain ⟨b, t2, hrest⟩ := nx_bind_ok hrest
      refine ⟨_, O0, _, _, _, r'.grow y1, y3, ?_⟩
      rw [t1]
      intro σ1 rr hl hk
      refine ⟨(wipe_ext (σ := L2.wipe σ (own.map (·.2))) hl hk hvs).trans (wipe_wipe _ _), _, O0, _, _, rr, ?_⟩
      rw [t2]
      intro H4 e4
      cases b with
      | false =>
        rw [if_neg Bool.false_ne_true] at hrest ⊢
        have e34 := y1.trans e4
        exact ⟨hlt, acc, dacc, rest, hrest, eds, Nat.le_succ_of_le hdl, kk.trans e34, e34 _ _ hD, hacc.mono (same_wo e34), r'.grow e34⟩
      | true =>
        rw [if_pos rfl] at hrest ⊢
        obtain ⟨d, t3, hrest⟩ := nx_bind_ok hrest
        obtain ⟨rest', t4, hrest⟩ := bind_ok hrest
        cases hrest
        refine ⟨_, O0, _, _, rr.grow e4, ?_⟩
        rw [t3]
        intro H5 e5 v hv
        have e35 := (y1.trans e4).trans e5
        refine ⟨acc, e35 _ _ hD, ?_, hlt, acc ++ [v], dacc ++ [d], rest', t4, by rw [eds, List.append_assoc]; rfl, by rw [List.length_append]; simpa using hdl, fun b u e => by rw [upd_ne (ne_of_none e nD)]; exact (kk.trans e35) b u e, upd_same, ?_, (r'.grow e35).updX (.inr rfl) nO0 noD⟩
        · rw [hacc.length]; exact big_line' (Nat.lt_of_le_of_lt hdl (Nat.lt_of_lt_of_le hlt hbig))
        · rw [wo_upd (.inr rfl)]
          exact (hacc.mono (same_wo e35)).append (.one hv)
    · refine .inl ⟨wk.stop i H' kH (by omega), ?_⟩
      rw [List.drop_of_length_le (by omega)] at hrest
      cases hrest
      rw [List.append_nil] at eds
      subst eds
      have sm : Same H1 (without H' D) := fun b u e => wo_some (ne_of_none e nD) (kk b u e)
      exact o1 (without H' D) sm D acc H' (wo_in rfl) (by rw [wo_without]; exact hacc) (upd_without hD)

theorem df_lc (hc : X.calm = true) (hN : X.N.Nodup) (hi : DI X W tg iter src) (ok : BlkOk X.N X.env.scope scope own) (hvs : ∀ j ∈ vs, j ∈ own.map (·.2))
    (hg : ∀ (s : Shared) (H : Hp) (C : Addr) (cl : List (Str × Addr)) (fp : List Addr), DG (X.blk s H scope (compEnvC scope cl C X.env) fp) tg vs tgt) (ht : ∀ (s : Shared) (H : Hp) (C : Addr) (cl : List (Str × Addr)) (fp : List Addr), DT (X.blk s H scope (compEnvC scope cl C X.env) fp) ifs p)
    (he : ∀ (s : Shared) (H : Hp) (C : Addr) (cl : List (Str × Addr)) (fp : List Addr), DE (X.blk s H scope (compEnvC scope cl C X.env) fp) W0 elt f) (hs : ∀ x, foldedSetIterable iter X.env x = pure x := by intro _; rfl) :
    DF X W (.ListComp elt [⟨tg, iter, ifs, 0⟩] scope pos) (cLc (own.map (·.2)) src tgt p f) :=
  ⟨_, pe_lc (wi := iCan X W src) (g := gCan X.K vs tgt) (tt := bCan X W0 p) (te := eCan X W0 f) hc hN hi.can ok (fun s H C cl fp => (hg s H C cl fp).can) (fun s H C cl fp => (ht s H C cl fp).can) (fun s H C cl fp => (he s H C cl fp).can) hs,
    fun H0 O0 O ρ σ H Q rl o => lc_read hvs rl o⟩
/-- name = [..] on one line, the name a local: data, or the frame's own -/
theorem ds_setLc (hc : X.calm = true) (hN : X.N.Nodup) (hy : X.N[i]? = some y) (hyl : X.env.scope.names.lookup y = some .local)
    (hsw : swapsWith (.ListComp elt [⟨tg, iter, ifs, 0⟩] scope pos) (some (.Name y py)) spos.line X.env = pure true) (hi : DI X W tg iter src) (ok : BlkOk X.N X.env.scope scope own) (hvs : ∀ j ∈ vs, j ∈ own.map (·.2))
    (hg : ∀ (s : Shared) (H : Hp) (C : Addr) (cl : List (Str × Addr)) (fp : List Addr), DG (X.blk s H scope (compEnvC scope cl C X.env) fp) tg vs tgt) (ht : ∀ (s : Shared) (H : Hp) (C : Addr) (cl : List (Str × Addr)) (fp : List Addr), DT (X.blk s H scope (compEnvC scope cl C X.env) fp) ifs p)
    (he : ∀ (s : Shared) (H : Hp) (C : Addr) (cl : List (Str × Addr)) (fp : List Addr), DE (X.blk s H scope (compEnvC scope cl C X.env) fp) W0 elt f) (hs : ∀ x, foldedSetIterable iter X.env x = pure x := by intro _; rfl) :
    DS X W (.Assign [.Name y py] (.ListComp elt [⟨tg, iter, ifs, 0⟩] scope pos) spos) (sSetL i (cLc (own.map (·.2)) src tgt p f)) := by
  refine ⟨_, ps_setLc (wi := iCan X W src) (g := gCan X.K vs tgt) (tt := bCan X W0 p) (te := eCan X W0 f) hc hN hy hyl hsw hi.can ok (fun s H C cl fp => (hg s H C cl fp).can) (fun s H C cl fp => (ht s H C cl fp).can) (fun s H C cl fp => (he s H C cl fp).can) hs,
    fun H0 O0 O ρ σ H D rl o => ?_⟩
  refine lc_read hvs rl ((OutS.ofR rl o).imp fun ds H1 e1 o1 p vs H2 np hv e2 => ?_)
  subst e2
  have r1 := rl.grow e1
  exact o1 _ _ _ (r1.setO np i ⟨p, vs, rfl, .inr rfl, fun z => r1.al p (r1.sub p z) np, upd_same, hv.mono (wo_add np)⟩)
theorem ds_setLcV (hc : X.calm = true) (hN : X.N.Nodup) (hy : X.N[i]? = some y) (hyl : X.env.scope.names.lookup y = some .local)
    (hsw : swapsWith (.ListComp elt [⟨tg, iter, ifs, 0⟩] scope pos) (some (.Name y py)) spos.line X.env = pure true) (hi : DI X W tg iter src) (ok : BlkOk X.N X.env.scope scope own) (hvs : ∀ j ∈ vs, j ∈ own.map (·.2))
    (hg : ∀ (s : Shared) (H : Hp) (C : Addr) (cl : List (Str × Addr)) (fp : List Addr), DG (X.blk s H scope (compEnvC scope cl C X.env) fp) tg vs tgt) (ht : ∀ (s : Shared) (H : Hp) (C : Addr) (cl : List (Str × Addr)) (fp : List Addr), DT (X.blk s H scope (compEnvC scope cl C X.env) fp) ifs p)
    (he : ∀ (s : Shared) (H : Hp) (C : Addr) (cl : List (Str × Addr)) (fp : List Addr), DE (X.blk s H scope (compEnvC scope cl C X.env) fp) W0 elt f) (hs : ∀ x, foldedSetIterable iter X.env x = pure x := by intro _; rfl) :
    DS X W (.Assign [.Name y py] (.ListComp elt [⟨tg, iter, ifs, 0⟩] scope pos) spos) (sSet i (cL (cLc (own.map (·.2)) src tgt p f))) := by
  refine ⟨_, ps_setLc (wi := iCan X W src) (g := gCan X.K vs tgt) (tt := bCan X W0 p) (te := eCan X W0 f) hc hN hy hyl hsw hi.can ok (fun s H C cl fp => (hg s H C cl fp).can) (fun s H C cl fp => (ht s H C cl fp).can) (fun s H C cl fp => (he s H C cl fp).can) hs,
    fun H0 O0 O ρ σ H D rl o => ?_⟩
  refine lc_read hvs rl ((OutP.bind (OutS.ofR rl o)).imp fun ds H1 e1 o1 p vs H2 np hv e2 => ?_)
  subst e2
  have r1 := rl.grow e1
  have nO := r1.fresh np
  exact o1 _ (Same.updNew (o := .lst vs) np) O _ _ ((r1.grow (Same.updNew np)).setV (.lst (.inl ((wo_new nO))) (all_grow np hv)) i)
end

/-! ### calls of the text's own defs -/
def spD (K : PySem.W.Frag) (mg : Str → Option Value) (n : Nat) (F : List PD → R PD) : Sp := fun vs H Q E => ∃ O ds, (∀ p, O p → H p ≠ none) ∧ vs.length = n ∧ DqAll K (wo H O) vs ds ∧
  match F ds with
  | .ok d => ∀ v H', Same H H' → Dq K (wo H' O) v d → Q v H'
  | .ex c pl => ∀ cls dx H', Same H H' → IsEx K mg c pl cls dx (wo H' O) → E cls dx H'
  | .bad => False
/-- the def at f gives F -/
abbrev FnD (P : Program) (w : World) (K : PySem.W.Frag) (mg : Str → Option Value) (base : Heap) (k : Nat) (f : Addr) (fd : FuncData) (ps : List Str) (F : List PD → R PD) : Prop :=
  FnOk P w K mg base (L2.CX P w) k f fd ps (spD K mg ps.length F)
def cCall (n : Nat) (F : List PD → R PD) (g : En → R (List PD)) : En → R PD := fun ρ => (g ρ).bind fun ds => chk (ds.length == n) (F ds)
section
variable {X : Cx} {W : WX} {k : Nat} {f : Addr} {fd : FuncData} {ps : List Str} {F : List PD → R PD} {x : Str} {p pos : Pos} {e : Expr} {es : List Expr} {g : En → R (List PD)}
theorem de_call (G : FnD X.prog X.w X.K X.mg X.base k f fd ps F) (hr : Room k X.A) (hg : Gl X x) (hm : X.mg x = some (.ref f)) (hk : PySem.W.keepIn X.K (.ref f) = true) (hb : Binds X.K fd ps []) (tk : Takes X W)
    (ha : DC X W (e :: es) g) (hdb : (x == ("__debug__" : Str)) = false := by decide) (he : starEach (e :: es) X.env = (false, eval e X.env) :: starEach es X.env := by rfl) (hpl : (backTo pos (starEach es X.env)).any (·.1) = false := by rfl) :
    DE X W (.Call (.Name x p) (e :: es) [] pos) (cCall ps.length F g) := by
  obtain ⟨t, pt, qt⟩ := ha.ex
  refine ⟨_, pe_callS (E := WE W) G hr hg hm hk hb (fun σ => passAt tk σ) pt hdb he hpl, fun H0 O0 O ρ σ H Q rl o => ?_⟩
  refine qt H0 O0 O ρ σ H _ rl (o.bind.imp fun ds H1 e1 o1 vs hv => ?_)
  obtain ⟨c, o1⟩ := OutP.chk o1
  refine ⟨O, ds, (rl.grow e1).al, by rw [hv.length]; exact eq_of_beq c, hv, ?_⟩
  cases q : F ds with
  | ok d => rw [q] at o1; exact fun v H' e' hd => o1 H' e' v hd
  | ex c pl => rw [q] at o1; exact fun cls dx H' e' i => o1 cls dx H' e' i
  | bad => rw [q] at o1; exact o1.elim
end

/-! ### a def's body -/
def fin : Fl → R PD
  | .nx _ => .ok .none
  | .rt d => .ok d
  | .ex c pl _ => .ex c pl
  | _ => .bad
def startE (n : Nat) (ds : List PD) : En := ds.map Sl.va ++ List.replicate (n - ds.length) .un
abbrev WofE (E : XK) : WX := fun cls d _ H => E cls d H
theorem _root_.L2.KvR.monoE {κ : Type} {K : PySem.W.Frag} {H H' : Hp} {a : List (κ × V)} {b : List (κ × PD)} (h : KvR K H a b) (e : Same H H') : KvR K H' a b := h.mono e
theorem IsEx.mono {K : PySem.W.Frag} {mg : Str → Option Value} {c : Str} {pl : List (Str × PD)} {cls : Value} {dx : Option Addr} {G G' : Hp} (h : IsEx K mg c pl cls dx G) (e : Same G G') : IsEx K mg c pl cls dx G' := by
  obtain ⟨C, h1, h2, h3⟩ := h
  refine ⟨C, h1, h2, ?_⟩
  rcases h3 with h3 | ⟨p, fs, h4, h5, h6⟩
  · exact .inl h3
  · exact .inr ⟨p, fs, h4, e _ _ h5, h6.mono e⟩
theorem start_rel {K : PySem.W.Frag} {H : Hp} {O : Addr → Prop} {vs : List V} {ds : List PD} {N : List Str} (al : ∀ p, O p → H p ≠ none) (h : DqAll K (wo H O) vs ds) : Rel K H O O H (startE N.length ds) (L2.start N vs) := by
  have hl := h.length
  refine ⟨Same.refl H, fun _ z => z, fun _ z => .inl z, al, by simp [startE, L2.start, hl], fun i s q => ?_, fun i j s s' p hij q q' ns ns' _ => ?_⟩
  · unfold startE at q
    unfold L2.start
    by_cases hi : i < ds.length
    · rw [List.getElem?_append_left (by simpa using hi), List.getElem?_map] at q
      cases hd : ds[i]? with
      | none => rw [hd] at q; cases q
      | some d =>
        rw [hd] at q; cases q
        obtain ⟨v, h1, h2⟩ := h.get hd
        refine ⟨v, ?_, h2⟩
        rw [List.getElem?_append_left (by simpa [hl] using hi), List.getElem?_map, h1]; rfl
    · rw [List.getElem?_append_right (by simpa using hi)] at q
      rw [List.getElem?_replicate] at q
      split at q
      · cases q; trivial
      · cases q
  · exfalso
    unfold startE at q
    by_cases hi : i < ds.length
    · rw [List.getElem?_append_left (by simpa using hi), List.getElem?_map] at q
      cases hd : ds[i]? with
      | none => rw [hd] at q; cases q
      | some d => rw [hd] at q; cases q; cases ns
    · rw [List.getElem?_append_right (by simpa using hi), List.getElem?_replicate] at q
      split at q
      · cases q; cases ns
      · cases q
section
variable {P : Program} {w : World} {K : PySem.W.Frag} {mg : Str → Option Value} {base : Heap}
theorem fnD_of {x qual : Str} {st : Stmt} {f : Addr} {fd : FuncData} {N ps : List Str} {k : Nat} {g : En → Fl} (F : Fun K x qual st f fd) (S : FnScope N ps (defScope st))
    (hbody : ∀ (cdv : Value) (A : Around) (outer : List PySem.Env) (s : Shared) (H : Hp) (E : XK), Room k (A.deeper (PyProof.Rows.envOfC qual (defScope st) s.heap.objs.size f cdv)) →
      DSs (cxOf (L2.CX P w) P w K mg base N qual (defScope st) f cdv A outer s H E) (WofE E) (defBody st) g) : FnD P w K mg base (k + 1) f fd ps (fun ds => fin (g (startE N.length ds))) := by
  refine F.okX S (fun vs H Q E h => ?_) (fun cdv A outer s H vs Q E hr h => ?_)
  · obtain ⟨_, _, _, h, _⟩ := h; exact h
  · obtain ⟨O, ds, al, hn, hd, o⟩ := h
    obtain ⟨t, pt, qt⟩ := (hbody cdv A outer s H E hr).ex
    refine ⟨t, pt, qt H O O _ _ H _ (start_rel al hd) ?_⟩
    show OutS K mg (WofE E) H O _ (g (startE N.length ds))
    have o : (match fin (g (startE N.length ds)) with
      | .ok d => ∀ v H', Same H H' → Dq K (wo H' O) v d → Q v H'
      | .ex c pl => ∀ cls dx H', Same H H' → IsEx K mg c pl cls dx (wo H' O) → E cls dx H'
      | .bad => False) := o
    cases q : g (startE N.length ds) with
    | nx ρ => rw [q] at o; exact fun O' H' σ' r => o .non H' r.fr .non
    | rt d => rw [q] at o; exact fun v H' e hv => o v H' e hv
    | bk ρ => rw [q] at o; exact o.elim
    | ct ρ => rw [q] at o; exact o.elim
    | ex c pl ρ => rw [q] at o; exact fun O' H' σ' cls dx r i => o cls dx H' r.fr (i.mono (wo_sub r.sub))
    | bad => rw [q] at o; exact o.elim
end

/-! ### raise, try -/
section
variable {X : Cx} {W : WX} {C : Addr} {bmB : List Value} {B newId initId : String} {x m : Str} {j : Nat} {p p2 pos pos2 : Pos}
theorem ds_raise (hc : X.calm = true) (tk : Takes X W) (F : PySem.ExcBaseFacts B newId initId bmB) (q : PySem.W.excIn X.K C bmB newId = true) (gC : X.mg x = some (.ref C)) (kC : PySem.W.keepIn X.K (.ref C) = true) (r : Raises X (.ref C)) (hg : Gl X x)
    (hdb : (x == ("__debug__" : Str)) = false := by decide) : DS X W (.Raise (some (.Call (.Name x p) [.Constant (.str m) j p2] [] pos)) none pos2) (fun ρ => .ex x [] ρ) :=
  ⟨_, ps_raise hc tk (pmk_own F q gC kC r hg hdb), fun H0 O0 O ρ σ H D rl o => o O H σ (.ref C) none rl ⟨C, gC, rfl, .inl rfl⟩⟩
end

def noEx : Fl → Fl
  | .ex _ _ _ => .bad
  | o => o
def hdl : List (Str × (En → Fl)) → Str → List (Str × PD) → En → Fl
  | [], c, pl, ρ => .ex c pl ρ
  | (n, g) :: r, c, pl, ρ => if (c == n) = true then noEx (g ρ) else hdl r c pl ρ
def sTry (cs : List Str) (body : En → Fl) (hs : List (Str × (En → Fl))) : En → Fl := fun ρ => match body ρ with
  | .ex c pl ρ' => if cs.contains c = true then hdl hs c pl ρ' else .bad
  | o => o
/-- the classes of cs are apart -/
def Apart (K : PySem.W.Frag) (mg : Str → Option Value) (cs : List Str) : Prop :=
  ∀ c ∈ cs, ∀ c' ∈ cs, ∀ C C', mg c = some (.ref C) → mg c' = some (.ref C') → PySem.W.exmOne K (.ref C) (.ref C') = some (c == c')
inductive HdD (X : Cx) : List ExceptHandler → List (Str × (En → Fl)) → Prop
  | nil : HdD X [] []
  | cons {x : Str} {C : Addr} {g : En → Fl} {b₀ : Stmt} {suite : List Stmt} {np pos' : Pos} {hds : List ExceptHandler} {l : List (Str × (En → Fl))} (hg : Gl X x) (hm : X.mg x = some (.ref C))
      (hsu : ∀ (a : Addr) (oe : Obj) (cls : Value) (d : Option Addr) (pn : List (Addr × Obj)), DSs (X.suite a ((a, oe) :: pn)) W0 (b₀ :: suite) g) (r : HdD X hds l) (hdb : (x == ("__debug__" : Str)) = false := by decide) :
      HdD X (.ExceptHandler (some (.Name x np)) none (b₀ :: suite) pos' :: hds) ((x, g) :: l)
section
variable {X : Cx} {W : WX} {body : List Stmt} {g : En → Fl} {h₀ : ExceptHandler} {hds : List ExceptHandler} {l : List (Str × (En → Fl))} {pos : Pos} {cs : List Str}
abbrev HdRel (X : Cx) : (Str × (En → Fl)) → (Value × (Addr → Value → Option Addr → TS)) → Prop := fun p q => ∃ C, X.mg p.1 = some (.ref C) ∧ q.1 = .ref C ∧ q.2 = fun _ _ _ => sCan X.K X.mg W0 p.2
theorem HdD.ok : ∀ {hds : List ExceptHandler} {l : List (Str × (En → Fl))}, HdD X hds l → ∃ l', HdsOk X hds l' ∧ Paired (HdRel X) l l'
  | _, _, .nil => ⟨[], .nil, .nil⟩
  | _, _, .cons hg hm hsu r hdb => by
    obtain ⟨l', h1, h2⟩ := HdD.ok r
    exact ⟨_, .cons (ts := fun _ _ _ => sCan X.K X.mg W0 _) ⟨hg, hdb, .inl hm⟩ (fun a oe cls d pn _ _ => (hsu a oe cls d pn).can) h1, .cons ⟨_, hm, rfl, rfl⟩ h2⟩
theorem OutS.noEx {K : PySem.W.Frag} {mg : Str → Option Value} {H0 : Hp} {O0 : Addr → Prop} {D : Ends} {o : Fl} (h : OutS K mg W H0 O0 D (noEx o)) : OutS K mg W0 H0 O0 D o := by
  cases o with
  | ex _ _ _ => exact h.elim
  | _ => exact h
theorem many_of (ap : Apart X.K X.mg cs) {c : Str} {pl : List (Str × PD)} {H0 H : Hp} {O0 O : Addr → Prop} {ρ : En} {σ : L2.St} {cls : Value} {dx : Option Addr} {D : Ends} (hc : c ∈ cs) (rl : Rel X.K H0 O0 O H ρ σ) (ie : IsEx X.K X.mg c pl cls dx (wo H O)) :
    ∀ {l : List (Str × (En → Fl))} {l' : List (Value × (Addr → Value → Option Addr → TS))}, Paired (HdRel X) l l' → (∀ p ∈ l, p.1 ∈ cs) → OutS X.K X.mg W H0 O0 D (hdl l c pl ρ) → wMany X.K W D l' cls dx σ H
  | _, _, .nil, _, o => o O H σ cls dx rl ie
  | _, _, .cons (a := (n, g)) (b := q) hr r, hin, o => by
    obtain ⟨C, hm, e1, e2⟩ := hr
    obtain ⟨q1, q2⟩ := q
    simp only at e1 e2
    subst e1 e2
    obtain ⟨C0, m0, ec, pls⟩ := id ie
    subst ec
    have em := ap c hc n (hin (n, g) List.mem_cons_self) C0 C m0 hm
    unfold hdl at o
    refine ⟨_, em, fun hb a ha => ?_, fun hb => ?_⟩
    · rw [if_pos hb] at o
      exact ⟨H0, O0, O, ρ, rl, o.noEx⟩
    · rw [if_neg (by rw [hb]; exact Bool.false_ne_true)] at o
      exact many_of ap hc rl ie r (fun p hp => hin p (List.mem_cons_of_mem _ hp)) o
theorem ds_try (hs : X.stack = X.env :: X.outer) (hf : X.env.frame = some X.env.locals) (tk : Takes X W) (ap : Apart X.K X.mg cs)
    (hb : ∀ (W' : WX) (pn : List (Addr × Obj)) (xe : Value → Shared → Prop), Takes (X.tr pn xe) W' → PassesOwn (model X.prog X.w) X.A X.env xe → DSs (X.tr pn xe) W' body g)
    (hh : HdD X (h₀ :: hds) l) (hin : ∀ p ∈ l, p.1 ∈ cs) : DS X W (.Try body (h₀ :: hds) [] [] pos) (sTry cs g l) := by
  obtain ⟨l', h1, h2⟩ := hh.ok
  refine ⟨_, ps_try_many (tb := fun W' => sCan X.K X.mg W' g) hs hf tk (fun W' pn xe t1 t2 => (hb W' pn xe t1 t2).can) h1, fun H0 O0 O ρ σ H D rl o => ⟨H0, O0, O, ρ, rl, ?_⟩⟩
  unfold sTry at o
  cases q : g ρ with
  | ex c pl ρ' =>
    simp only [q] at o
    by_cases hc : cs.contains c = true
    · rw [if_pos hc] at o
      exact fun O' H' σ' cls dx r i => many_of ap (List.contains_iff_mem.mp hc) r i h2 hin o
    · rw [if_neg hc] at o; exact o.elim
  | nx ρ' => simp only [q] at o; exact o
  | rt d => simp only [q] at o; exact o
  | bk ρ' => simp only [q] at o; exact o
  | ct ρ' => simp only [q] at o; exact o
  | bad => simp only [q] at o; exact o.elim
end
end DL
namespace DL
open PySem PySem.Spec L2

theorem OutP.grow {α : Type} {X : Cx} {W : WX} {O : Addr → Prop} {σ : L2.St} {H H1 : Hp} {r : R α} {P : α → Hp → Prop} (h : OutP X W O σ H r P) (e : Same H H1) : OutP X W O σ H1 r P := by
  cases r with
  | ok a => exact fun H' e' => h H' (e.trans e')
  | ex c pl => exact fun cls dx H' e' => h cls dx H' (e.trans e')
  | bad => exact h
/-! ### data -/
mutual
theorem dplain {K : PySem.W.Frag} {H : Hp} : ∀ (d : PD) (v : V), Dq K H v d → d.plain = true
  | _, _, .non => rfl
  | _, _, .bl b => rfl
  | _, _, .int i => rfl
  | _, _, .str x => rfl
  | _, _, .lst _ h2 => dplainAll _ _ h2
  | _, _, .tup _ h2 => dplainAll _ _ h2
theorem dplainAll {K : PySem.W.Frag} {H : Hp} : ∀ (ds : List PD) (vs : List V), DqAll K H vs ds → PyData.plainAll ds = true
  | _, _, .nil => rfl
  | _, _, .cons h1 h2 => by rw [PyData.plainAll, dplain _ _ h1, dplainAll _ _ h2]; rfl
end
theorem Dt.plain {K : PySem.W.Frag} {O : Addr → Prop} {H : Hp} {v : V} {d : PD} (h : Dt K O H v d) : d.plain = true := dplain _ _ h.dp
section
variable {X : Cx} {pins : List (Addr × Obj)} {σ : L2.St} {H : Hp} {s : Shared} {O : Addr → Prop}
theorem Dt.reads (I : Inv X pins σ H s) {v : V} {d : PD} {u : Value} (h : Dt X.K O H v d) (r : RelV v u) : ∃ as, PySem.Reads s.heap u d as := Dp.reads I d v u h.dp.dp r
theorem dp_unique (I : Inv X pins σ H s) {v : V} {d e : PD} {u : Value} {as : List Addr} (h : Dq X.K H v d) (r : RelV v u) (h' : PySem.Reads s.heap u e as) : d = e := by
  obtain ⟨bs, q⟩ := Dp.reads I d v u h.dp r
  exact SeqAt.plain_unique d e u bs as (dplain _ _ h) q h'
end
/-- room for deep looks -/
def Deep (X : Cx) : Prop := X.A.units + 190 < cLine
theorem Deep.of {X : Cx} {k : Nat} (h : Room k X.A) : Deep X := by have := h.un; unfold Deep; omega
def dOk (d e : PD) : Bool := decide (min d.depth e.depth ≤ 100)

/-! ### comparisons -/
def rEqP (K : PySem.W.Frag) : R2 := fun x y H Q => ∃ d e, Dq K H x d ∧ Dq K H y e ∧ dOk d e = true ∧ Q (.bl (PyData.eqv d e)) H
def rNeP (K : PySem.W.Frag) : R2 := fun x y H Q => ∃ d e, Dq K H x d ∧ Dq K H y e ∧ dOk d e = true ∧ Q (.bl (!PyData.eqv d e)) H
section
variable {X : Cx}
theorem op_eqP (hu : Deep X) : OpR X (compareOp .Eq) (rEqP X.K) := by
  intro pins s σ H x y v u Q I rx ry h
  obtain ⟨d, e, hd, he, ho, q⟩ := h
  obtain ⟨as, r1⟩ := Dp.reads I d x v hd.dp rx
  obtain ⟨bs, r2⟩ := Dp.reads I e y u he.dp ry
  have ho' := of_decide_eq_true ho
  exact SeqAt.eq_plain r1 r2 (dplain _ _ hd) (dplain _ _ he) (by unfold Deep at hu; omega) ⟨.bl _, H, I, rfl, q⟩
theorem op_neP (hu : Deep X) : OpR X (compareOp .NotEq) (rNeP X.K) := by
  intro pins s σ H x y v u Q I rx ry h
  obtain ⟨d, e, hd, he, ho, q⟩ := h
  obtain ⟨as, r1⟩ := Dp.reads I d x v hd.dp rx
  obtain ⟨bs, r2⟩ := Dp.reads I e y u he.dp ry
  have ho' := of_decide_eq_true ho
  exact SeqAt.ne_plain r1 r2 (dplain _ _ hd) (dplain _ _ he) (by unfold Deep at hu; omega) ⟨.bl _, H, I, rfl, q⟩
def eqD (d e : PD) : R PD := chk (dOk d e) (.ok (.bool (PyData.eqv d e)))
def neD (d e : PD) : R PD := chk (dOk d e) (.ok (.bool (!PyData.eqv d e)))
theorem opd_eq (hu : Deep X) : OpD X (compareOp .Eq) eqD :=
  ⟨_, op_eqP hu, fun W O σ H x y d e Q nO hx hy o => by
    obtain ⟨c, o⟩ := OutP.chk o
    exact ⟨d, e, hx.dp, hy.dp, c, o H (Same.refl H) _ (.bl _)⟩⟩
theorem opd_ne (hu : Deep X) : OpD X (compareOp .NotEq) neD :=
  ⟨_, op_neP hu, fun W O σ H x y d e Q nO hx hy o => by
    obtain ⟨c, o⟩ := OutP.chk o
    exact ⟨d, e, hx.dp, hy.dp, c, o H (Same.refl H) _ (.bl _)⟩⟩
/-- an order, of ints or of alike data -/
def ordD (p : Int → Int → Bool) (F : PD → PD → Bool) (d e : PD) : R PD := match d, e with
  | .int i, .int j => .ok (.bool (p i j))
  | .tuple xs, .tuple ys => chk (PySem.W.alike (.tuple xs) (.tuple ys) && dOk (.tuple xs) (.tuple ys)) (.ok (.bool (F (.tuple xs) (.tuple ys))))
  | .str x, .str y => .ok (.bool (F (.str x) (.str y)))
  | _, _ => .bad
def rOrd (K : PySem.W.Frag) (F : PD → PD → Bool) : R2 := fun x y H Q => ∃ d e, Dq K H x d ∧ Dq K H y e ∧ d ≠ .none ∧ PySem.W.alike d e = true ∧ dOk d e = true ∧ Q (.bl (F d e)) H
theorem op_ordP (hu : Deep X) {op : CmpOp} {F : PD → PD → Bool}
    (rule : ∀ (s : Shared) (a b : Value) (da db : PD) (as bs : List Addr) (Q E : Value → Shared → Prop), PySem.Reads s.heap a da as → PySem.Reads s.heap b db bs → PySem.W.alike da db = true → da ≠ .none → X.A.units + min da.depth db.depth < cLine → Q (.bool (F da db)) s → wpAny (model X.prog X.w) X.A (compareOp op a b) Q E s) :
    OpR X (compareOp op) (rOrd X.K F) := by
  intro pins s σ H x y v u Q I rx ry h
  obtain ⟨d, e, hd, he, hn, ha, ho, q⟩ := h
  obtain ⟨as, r1⟩ := Dp.reads I d x v hd.dp rx
  obtain ⟨bs, r2⟩ := Dp.reads I e y u he.dp ry
  have ho' := of_decide_eq_true ho
  exact rule s v u d e as bs _ _ r1 r2 ha hn (by unfold Deep at hu; omega) ⟨.bl _, H, I, rfl, q⟩
theorem opd_ord {op : CmpOp} {p : Int → Int → Bool} {F : PD → PD → Bool} (h1 : OpR X (compareOp op) (rI0 fun i j => .bl (p i j))) (h2 : OpR X (compareOp op) (rOrd X.K F)) : OpD X (compareOp op) (ordD p F) := by
  refine ⟨_, h1.or h2, fun W O σ H x y d e Q nO hx hy o => ?_⟩
  cases d with
  | int i =>
    cases e with
    | int j => cases hx.sc_int; cases hy.sc_int; exact .inl ⟨i, j, rfl, rfl, o H (Same.refl H) _ (.bl _)⟩
    | _ => exact o.elim
  | tuple xs =>
    cases e with
    | tuple ys =>
      obtain ⟨c, o⟩ := OutP.chk o
      rw [Bool.and_eq_true] at c
      exact .inr ⟨_, _, hx.dp, hy.dp, (fun z => by cases z), c.1, c.2, o H (Same.refl H) _ (.bl _)⟩
    | _ => exact o.elim
  | str xs =>
    cases e with
    | str ys => exact .inr ⟨_, _, hx.dp, hy.dp, (fun z => by cases z), by simp [PySem.W.alike], by simp [dOk, PyData.depth], o H (Same.refl H) _ (.bl _)⟩
    | _ => exact o.elim
  | _ => cases e <;> exact o.elim
def ltD := ordD (fun i j => decide (i < j)) PySem.W.dataLt
def leD := ordD (fun i j => decide (i ≤ j)) fun d e => !PySem.W.dataLt e d
def gtD := ordD (fun i j => decide (j < i)) fun d e => PySem.W.dataLt e d
def geD := ordD (fun i j => decide (j ≤ i)) fun d e => !PySem.W.dataLt d e
theorem opd_lt (hu : Deep X) : OpD X (compareOp .Lt) ltD := opd_ord op_lt (op_ordP hu fun s a b da db as bs Q E r1 r2 h hn hz q => PySem.W.lt_data r1 r2 h hn hz q)
theorem opd_le (hu : Deep X) : OpD X (compareOp .LtE) leD := opd_ord op_le (op_ordP hu fun s a b da db as bs Q E r1 r2 h hn hz q => PySem.W.le_data r1 r2 h hn hz q)
theorem opd_gt (hu : Deep X) : OpD X (compareOp .Gt) gtD := opd_ord op_gt (op_ordP hu fun s a b da db as bs Q E r1 r2 h hn hz q => PySem.W.gt_data r1 r2 h hn hz q)
theorem opd_ge (hu : Deep X) : OpD X (compareOp .GtE) geD := opd_ord op_ge (op_ordP hu fun s a b da db as bs Q E r1 r2 h hn hz q => PySem.W.ge_data r1 r2 h hn hz q)
/-- is, is not: None, truth values -/
def isNo : PD → Bool
  | .none => true
  | _ => false
def isD (d e : PD) : R PD := match d, e with
  | x, .none => .ok (.bool (isNo x))
  | .bool a, .bool b => .ok (.bool (a == b))
  | _, _ => .bad
def isnD (d e : PD) : R PD := match d, e with
  | x, .none => .ok (.bool (!isNo x))
  | .bool a, .bool b => .ok (.bool (!(a == b)))
  | _, _ => .bad
theorem non_iff {K : PySem.W.Frag} {O : Addr → Prop} {H : Hp} {x : V} {d : PD} (h : Dt K O H x d) : decide (x = .non) = isNo d := by
  have := h.dp
  cases this <;> simp [isNo]
theorem opd_is : OpD X (compareOp .Is) isD := by
  refine ⟨_, op_isN.or op_isBl, fun W O σ H x y d e Q nO hx hy o => ?_⟩
  cases e with
  | none =>
    cases hy.sc_non
    refine .inl ⟨rfl, ?_⟩
    rw [non_iff hx]
    have o' : OutP X W O σ H (.ok (.bool (isNo d))) (fun d H' => ∀ v, Dq X.K (wo H' O) v d → Q v H') := by cases d <;> exact o
    exact o' H (Same.refl H) _ (.bl _)
  | bool b =>
    cases d with
    | bool a =>
      cases hx.sc_bl; cases hy.sc_bl
      refine .inr ⟨a, b, rfl, rfl, ?_⟩
      have := o H (Same.refl H) _ (.bl _)
      cases a <;> cases b <;> exact this
    | _ => exact o.elim
  | _ => cases d <;> exact o.elim
theorem opd_isn : OpD X (compareOp .IsNot) isnD := by
  refine ⟨_, op_notN.or op_notBl, fun W O σ H x y d e Q nO hx hy o => ?_⟩
  cases e with
  | none =>
    cases hy.sc_non
    refine .inl ⟨rfl, ?_⟩
    rw [non_iff hx]
    have o' : OutP X W O σ H (.ok (.bool (!isNo d))) (fun d H' => ∀ v, Dq X.K (wo H' O) v d → Q v H') := by cases d <;> exact o
    exact o' H (Same.refl H) _ (.bl _)
  | bool b =>
    cases d with
    | bool a =>
      cases hx.sc_bl; cases hy.sc_bl
      refine .inr ⟨a, b, rfl, rfl, ?_⟩
      have := o H (Same.refl H) _ (.bl _)
      cases a <;> cases b <;> exact this
    | _ => exact o.elim
  | _ => cases d <;> exact o.elim
/-- in, not in: lists and tuples (texts: inS) -/
def inOk (d : PD) (xs : List PD) : Bool := decide (min (PyData.depthAll xs) d.depth ≤ 100)
def inD (d e : PD) : R PD := match e with
  | .list xs => chk (inOk d xs) (.ok (.bool (xs.any fun y => PyData.eqv y d)))
  | .tuple xs => chk (inOk d xs) (.ok (.bool (xs.any fun y => PyData.eqv y d)))
  | .str z => match d with
    | .str i => .ok (.bool (!(Builtin.Str.occurrences z i 0 z.length 1).isEmpty))
    | _ => .bad
  | _ => .bad
def notinD (d e : PD) : R PD := match e with
  | .list xs => chk (inOk d xs) (.ok (.bool (!xs.any fun y => PyData.eqv y d)))
  | .tuple xs => chk (inOk d xs) (.ok (.bool (!xs.any fun y => PyData.eqv y d)))
  | .str z => match d with
    | .str i => .ok (.bool (!!(Builtin.Str.occurrences z i 0 z.length 1).isEmpty))
    | _ => .bad
  | _ => .bad
def rInP (K : PySem.W.Frag) (neg : Bool) : R2 := fun x y H Q => ∃ d xs, Dq K H x d ∧ (Dq K H y (.list xs) ∨ Dq K H y (.tuple xs)) ∧ inOk d xs = true ∧ Q (.bl (if neg then !xs.any fun y => PyData.eqv y d else xs.any fun y => PyData.eqv y d)) H
theorem op_inP (hu : Deep X) : OpR X (compareOp .In) (rInP X.K false) := by
  intro pins s σ H x y v u Q I rx ry h
  obtain ⟨d, xs, hd, he, ho, q⟩ := h
  have ho' := of_decide_eq_true ho
  obtain ⟨as, r1⟩ := Dp.reads I d x v hd.dp rx
  rcases he with he | he
  · obtain ⟨bs, r2⟩ := Dp.reads I _ y u he.dp ry
    exact SeqAt.in_list_data r2 r1 (by have := dplain _ _ he; exact this) (dplain _ _ hd) (by unfold Deep at hu; omega) ⟨.bl _, H, I, rfl, q⟩
  · obtain ⟨bs, r2⟩ := Dp.reads I _ y u he.dp ry
    exact SeqAt.in_tuple_data r2 r1 (by have := dplain _ _ he; exact this) (dplain _ _ hd) (by unfold Deep at hu; omega) ⟨.bl _, H, I, rfl, q⟩
theorem op_notinP (hu : Deep X) : OpR X (compareOp .NotIn) (rInP X.K true) := by
  intro pins s σ H x y v u Q I rx ry h
  obtain ⟨d, xs, hd, he, ho, q⟩ := h
  have ho' := of_decide_eq_true ho
  obtain ⟨as, r1⟩ := Dp.reads I d x v hd.dp rx
  rcases he with he | he
  · obtain ⟨bs, r2⟩ := Dp.reads I _ y u he.dp ry
    exact SeqAt.notIn_list_data r2 r1 (by have := dplain _ _ he; exact this) (dplain _ _ hd) (by unfold Deep at hu; omega) ⟨.bl _, H, I, rfl, q⟩
  · obtain ⟨bs, r2⟩ := Dp.reads I _ y u he.dp ry
    exact SeqAt.notIn_tuple_data r2 r1 (by have := dplain _ _ he; exact this) (dplain _ _ hd) (by unfold Deep at hu; omega) ⟨.bl _, H, I, rfl, q⟩
theorem opd_in (hu : Deep X) : OpD X (compareOp .In) inD := by
  refine ⟨_, (op_inP hu).or op_in_str, fun W O σ H x y d e Q nO hx hy o => ?_⟩
  cases e with
  | list xs => obtain ⟨c, o⟩ := OutP.chk o; exact .inl ⟨d, xs, hx.dp, .inl hy.dp, c, o H (Same.refl H) _ (.bl _)⟩
  | tuple xs => obtain ⟨c, o⟩ := OutP.chk o; exact .inl ⟨d, xs, hx.dp, .inr hy.dp, c, o H (Same.refl H) _ (.bl _)⟩
  | str z =>
    cases d with
    | str i => cases hx.sc_str; cases hy.sc_str; exact .inr ⟨i, z, rfl, rfl, o H (Same.refl H) _ (.bl _)⟩
    | _ => exact o.elim
  | _ => exact o.elim
theorem opd_notin (hu : Deep X) : OpD X (compareOp .NotIn) notinD := by
  refine ⟨_, (op_notinP hu).or op_notIn_str, fun W O σ H x y d e Q nO hx hy o => ?_⟩
  cases e with
  | list xs => obtain ⟨c, o⟩ := OutP.chk o; exact .inl ⟨d, xs, hx.dp, .inl hy.dp, c, o H (Same.refl H) _ (.bl _)⟩
  | tuple xs => obtain ⟨c, o⟩ := OutP.chk o; exact .inl ⟨d, xs, hx.dp, .inr hy.dp, c, o H (Same.refl H) _ (.bl _)⟩
  | str z =>
    cases d with
    | str i => cases hx.sc_str; cases hy.sc_str; exact .inr ⟨i, z, rfl, rfl, o H (Same.refl H) _ (.bl _)⟩
    | _ => exact o.elim
  | _ => exact o.elim

/-! ### arithmetic -/
def addD (d e : PD) : R PD := match d, e with
  | .int i, .int j => .ok (.int (i + j))
  | .str x, .str y => chk (decide (x.length + y.length ≤ big)) (.ok (.str (x ++ y)))
  | .tuple xs, .tuple ys => chk (decide (xs.length + ys.length ≤ big)) (.ok (.tuple (xs ++ ys)))
  | .list xs, .list ys => chk (decide (xs.length + ys.length ≤ big)) (.ok (.list (xs ++ ys)))
  | _, _ => .bad
/-- list + list, whatever they are -/
def rCatP : R2 := fun x y H Q => ∃ l b xs zs, x = .ref l ∧ y = .ref b ∧ Rd H l (.lst xs) ∧ Rd H b (.lst zs) ∧ xs.length + zs.length ≤ sizeLine ∧ ∀ p, H p = none → Q (.ref p) (upd H p (.lst (xs ++ zs)))
theorem op_catP : OpR X (binaryOp .Add) rCatP := by
  intro pins s σ H x y v u Q I rx ry h
  obtain ⟨l, b, xs, zs, rfl, rfl, hH, hB, hz, q⟩ := h
  cases rx
  cases ry
  obtain ⟨_, its, n, r, e⟩ := hH.ok I.hok
  obtain ⟨_, its2, n2, r2, e2⟩ := hB.ok I.hok
  have hl := r.length
  have hl2 := r2.length
  refine PySem.P.add_list e e2 ?_ (by rw [List.size_toArray, List.size_toArray]; omega)
  have ea : its.toArray ++ its2.toArray = (its ++ its2).toArray := by simp
  rw [ea]
  exact ⟨.ref _, _, I.lnew (t' := s.toks) (r.append r2) (by rw [List.length_append]; omega), rfl, q _ I.fresh⟩
theorem opd_add : OpD X (binaryOp .Add) addD := by
  refine ⟨_, op_add.or (op_add_str.or (op_catA.or op_catP)), fun W O σ H x y d e Q nO hx hy o => ?_⟩
  cases d with
  | int i =>
    cases e with
    | int j => cases hx.sc_int; cases hy.sc_int; exact .inl ⟨i, j, rfl, rfl, o H (Same.refl H) _ (.int _)⟩
    | _ => exact o.elim
  | str i =>
    cases e with
    | str j => cases hx.sc_str; cases hy.sc_str; obtain ⟨c, o⟩ := OutP.chk o; exact .inr (.inl ⟨i, j, rfl, rfl, big_line (of_decide_eq_true c), o H (Same.refl H) _ (.str _)⟩)
    | _ => exact o.elim
  | tuple xs =>
    cases e with
    | tuple ys =>
      obtain ⟨c, o⟩ := OutP.chk o
      obtain ⟨a, vs, rfl, h1, h2⟩ := hx.tuple
      obtain ⟨b, ws, rfl, h3, h4⟩ := hy.tuple
      refine .inr (.inr (.inl ⟨a, b, vs, ws, rfl, rfl, Same.seqT wo_self h1, Same.seqT wo_self h3, by rw [h2.length, h4.length]; exact big_line (of_decide_eq_true c), fun e0 => ?_, fun _ e0 => ?_, fun _ _ p np => ?_⟩))
      · subst e0
        cases h2
        exact o H (Same.refl H) _ (.tup h3 h4)
      · subst e0
        cases h4
        rw [List.append_nil] at o
        exact o H (Same.refl H) _ (.tup h1 h2)
      · exact o _ (Same.updNew np) _ (.tup (.inl (.inl (wo_new (nO p np)))) (all_grow np (h2.append h4)))
    | _ => exact o.elim
  | list xs =>
    cases e with
    | list ys =>
      obtain ⟨c, o⟩ := OutP.chk o
      obtain ⟨a, vs, rfl, h1, h2⟩ := hx.list
      obtain ⟨b, ws, rfl, h3, h4⟩ := hy.list
      exact .inr (.inr (.inr ⟨a, b, vs, ws, rfl, rfl, h1, h3, by rw [h2.length, h4.length]; exact big_line (of_decide_eq_true c), fun p np => o _ (Same.updNew np) _ (.lst (.inl ((wo_new (nO p np)))) (all_grow np (h2.append h4)))⟩))
    | _ => exact o.elim
  | _ => cases e <;> exact o.elim
def subD (d e : PD) : R PD := match d, e with
  | .int i, .int j => .ok (.int (i - j))
  | _, _ => .bad
theorem opd_sub : OpD X (binaryOp .Sub) subD := by
  refine ⟨_, op_sub, fun W O σ H x y d e Q nO hx hy o => ?_⟩
  cases d with
  | int i =>
    cases e with
    | int j => cases hx.sc_int; cases hy.sc_int; exact ⟨i, j, rfl, rfl, o H (Same.refl H) _ (.int _)⟩
    | _ => exact o.elim
  | _ => cases e <;> exact o.elim
def modD (d e : PD) : R PD := match d, e with
  | .int i, .int j => chk (decide (0 < j)) (.ok (.int (i % j)))
  | _, _ => .bad
theorem opd_mod : OpD X (binaryOp .Mod) modD := by
  refine ⟨_, op_mod, fun W O σ H x y d e Q nO hx hy o => ?_⟩
  cases d with
  | int i =>
    cases e with
    | int j => cases hx.sc_int; cases hy.sc_int; obtain ⟨c, o⟩ := OutP.chk o; exact ⟨i, j, rfl, rfl, of_decide_eq_true c, o H (Same.refl H) _ (.int _)⟩
    | _ => exact o.elim
  | _ => cases e <;> exact o.elim
def fdivD (d e : PD) : R PD := match d, e with
  | .int i, .int j => chk (decide (0 < j ∧ j < 1073741824)) (.ok (.int (i / j)))
  | _, _ => .bad
theorem opd_fdiv : OpD X (binaryOp .FloorDiv) fdivD := by
  refine ⟨_, op_fdiv, fun W O σ H x y d e Q nO hx hy o => ?_⟩
  cases d with
  | int i =>
    cases e with
    | int j => cases hx.sc_int; cases hy.sc_int; obtain ⟨c, o⟩ := OutP.chk o; have c' : 0 < j ∧ j < 1073741824 := of_decide_eq_true c; exact ⟨i, j, rfl, rfl, c', o H (Same.refl H) _ (.int _)⟩
    | _ => exact o.elim
  | _ => cases e <;> exact o.elim
def powD (d e : PD) : R PD := match d, e with
  | .int i, .int j => chk (decide (0 ≤ j ∧ j ≤ 1000000 ∧ i.natAbs < 18446744073709551616)) (.ok (.int (i ^ j.toNat)))
  | _, _ => .bad
theorem opd_pow : OpD X (binaryOp .Pow) powD := by
  refine ⟨_, op_pow, fun W O σ H x y d e Q nO hx hy o => ?_⟩
  cases d with
  | int i =>
    cases e with
    | int j => cases hx.sc_int; cases hy.sc_int; obtain ⟨c, o⟩ := OutP.chk o; have c' := of_decide_eq_true c; exact ⟨i, j, rfl, rfl, ⟨c'.1, c'.2.1, by have := c'.2.2; omega⟩, o H (Same.refl H) _ (.int _)⟩
    | _ => exact o.elim
  | _ => cases e <;> exact o.elim
def repL (n : Nat) (xs : List PD) : List PD := (List.replicate n xs).flatten
def mulD (d e : PD) : R PD := match d, e with
  | .int i, .int j => chk (decide ((-18446744073709551616 < i ∧ i < 18446744073709551616) ∨ (-18446744073709551616 < j ∧ j < 18446744073709551616))) (.ok (.int (i * j)))
  | .tuple xs, .int k => chk (decide (0 < xs.length ∧ 2 ≤ k ∧ k ≤ 1000 ∧ xs.length ≤ 1000)) (.ok (.tuple (repL k.toNat xs)))
  | _, _ => .bad
theorem _root_.DL.DqAll.rep {K : PySem.W.Frag} {H : Hp} {vs : List V} {ds : List PD} (h : DqAll K H vs ds) : ∀ n : Nat, DqAll K H (List.replicate n vs).flatten (repL n ds)
  | 0 => .nil
  | n + 1 => by
    unfold repL
    rw [List.replicate_succ, List.replicate_succ, List.flatten_cons, List.flatten_cons]
    exact h.append (DqAll.rep h n)
theorem opd_mul : OpD X (binaryOp .Mult) mulD := by
  refine ⟨_, op_mul.or op_repT, fun W O σ H x y d e Q nO hx hy o => ?_⟩
  cases e with
  | int k =>
    cases hy.sc_int
    cases d with
    | int i =>
      cases hx.sc_int
      obtain ⟨c, o⟩ := OutP.chk o
      have c' := of_decide_eq_true c
      exact .inl ⟨i, k, rfl, rfl, by unfold CMul; omega, o H (Same.refl H) _ (.int _)⟩
    | tuple xs =>
      obtain ⟨c, o⟩ := OutP.chk o
      have c' := of_decide_eq_true c
      obtain ⟨a, vs, rfl, h1, h2⟩ := hx.tuple
      have hl := h2.length
      refine .inr ⟨a, k, vs, rfl, rfl, Same.seqT wo_self h1, (fun z => by rw [z] at hl; simp at hl; omega), c'.2.1, c'.2.2.1, by omega, fun p np => ?_⟩
      exact o _ (Same.updNew np) _ (.tup (.inl (.inl (wo_new (nO p np)))) (all_grow np (h2.rep _)))
    | _ => exact o.elim
  | _ => cases d <;> exact o.elim
/-- a new list times an int -/
def cRepL (f : En → R (List PD)) (g : En → R PD) : En → R (List PD) := fun ρ => (f ρ).bind fun ds => (g ρ).bind fun d => match d with
  | .int k => chk (decide (-1000000 ≤ k ∧ k ≤ 1000000 ∧ ds.length * k.toNat ≤ big)) (.ok (repL k.toNat ds))
  | _ => .bad
theorem df_repL {W : WX} {a b : Expr} {pos : Pos} {f : En → R (List PD)} {g : En → R PD} (ha : DF X W a f) (hb : DE X W b g) : DF X W (.BinOp a .Mult b pos) (cRepL f g) := by
  obtain ⟨t, pt, qt⟩ := ha.ex
  obtain ⟨u, pu, qu⟩ := hb.ex
  refine ⟨_, pe_op op_rep pt pu, fun H0 O0 O ρ σ H Q rl o => ?_⟩
  refine qt H0 O0 O ρ σ H _ rl (o.bind.imp fun ds H1 e1 o1 p vs H2 np hv e2 => ?_)
  subst e2
  have r1 := rl.grow e1
  have r2 := r1.grow (Same.updNew (o := .lst vs) np)
  have o2 : OutP X W O σ (upd H1 p (.lst vs)) (g ρ) _ := (o1.bind.grow (Same.updNew (o := .lst vs) np))
  refine qu H0 O0 O ρ σ _ _ r2 (o2.imp fun d H3 e3 o3 y hy => ?_)
  cases d with
  | int k =>
    cases hy.sc_int
    obtain ⟨c, o3⟩ := OutP.chk o3
    have c' := of_decide_eq_true c
    refine ⟨p, k, vs, rfl, rfl, e3 _ _ upd_same, by omega, by omega, by rw [hv.length]; exact big_line c'.2.2, fun q nq => ?_⟩
    exact o3 H3 (Same.refl H3) q _ _ nq ((hv.rep _).mono (same_wo ((Same.updNew (o := .lst vs) np).trans e3))) rfl
  | _ => exact o3.elim
end
end DL
namespace DL
open PySem PySem.Spec L2

/-! ### calls of built-ins, by data -/
section
variable {X : Cx}
theorem vals1' {x : V} {us : List Value} (r : Vals [x] us) : ∃ u, us = [u] ∧ RelV x u := by
  cases r with
  | cons r1 r2 => cases r2; exact ⟨_, rfl, r1⟩
/-- a list or a tuple that is read: its object -/
theorem seq_obj {pins : List (Addr × Obj)} {σ : L2.St} {H : Hp} {s : Shared} (I : Inv X pins σ H s) {v : V} {u : Value} {ds : List PD} (h : Dq X.K H v (.list ds) ∨ Dq X.K H v (.tuple ds)) (r : RelV v u) :
    ∃ (l : Addr) (vs : List V) (its : List Value) (as : List Addr), u = .ref l ∧ Vals vs its ∧ DqAll X.K H vs ds ∧ ReadsAll s.heap its ds as ∧ vs.length ≤ sizeLine ∧
      ((s.heap.IsList l its.toArray ∧ ∃ o n, s.heap.get? l = some o ∧ o.cls = .type "list" ∧ o.data = .seq its.toArray n) ∨ (s.heap.IsTuple l its.toArray ∧ ∃ o n, s.heap.get? l = some o ∧ o.cls = .type "tuple" ∧ o.data = .seq its.toArray n)) := by
  rcases h with h | h
  · cases h with
    | lst h1 h2 =>
      cases r
      obtain ⟨its, rv, pl, hz⟩ := I.list (.inl h1)
      obtain ⟨as, ra⟩ := Dp.readsAll I _ _ its (dqdpAll _ _ h2) rv
      obtain ⟨o, n, e, hc, hd0, hd⟩ := id pl
      exact ⟨_, _, its, as, rfl, rv, h2, ra, hz, .inl ⟨pl.isList, o, n, e, hc, hd⟩⟩
  · cases h with
    | tup h1 h2 =>
      cases r
      obtain ⟨its, rv, pl, hz⟩ := I.tuple h1
      obtain ⟨as, ra⟩ := Dp.readsAll I _ _ its (dqdpAll _ _ h2) rv
      obtain ⟨o, e, hc, n, hd⟩ := id pl
      exact ⟨_, _, its, as, rfl, rv, h2, ra, hz, .inr ⟨pl, o, n, e, hc, hd⟩⟩
/-- an item's length is no matter -/
def flat1 : PD → Bool
  | .str x => decide (x.length ≤ big)
  | .list xs => decide (xs.length ≤ big)
  | .tuple xs => decide (xs.length ≤ big)
  | _ => true
theorem fits_of {ds : List PD} (h : ds.all flat1 = true) : ∀ x ∈ ds, x.fits63 := by
  intro x hx
  have := List.all_eq_true.mp h x hx
  cases x <;> simp only [flat1, PyData.fits63, decide_eq_true_eq] at * <;> (try trivial) <;> (unfold big at this; omega)
def rQuant (K : PySem.W.Frag) (F : List PD → Bool) : List V → Hp → VK → Prop := fun xs H Q => ∃ v ds, xs = [v] ∧ (Dq K H v (.list ds) ∨ Dq K H v (.tuple ds)) ∧ ds.all flat1 = true ∧ Q (.bl (F ds)) H
theorem cr_allP (hc : X.calm = true) : CallR X (.builtin "all") (rQuant X.K fun ds => ds.all PyData.truthy) := by
  intro pins s σ H xs us Q I r h
  obtain ⟨v, ds, rfl, hd, hf, q⟩ := h
  obtain ⟨u, rfl, ru⟩ := vals1' r
  obtain ⟨l, vs, its, as, rfl, rv, hv, ra, hz, hl | hl⟩ := seq_obj I hd ru
  · exact PySem.W.all_list_data (I.ok.hd hc) hl.1 ra (dplainAll _ _ hv) (fits_of hf) fun h' tk k => ⟨.bl _, H, I.kept k, rfl, q⟩
  · exact PySem.W.all_tuple_data (I.ok.hd hc) hl.1 ra (dplainAll _ _ hv) (fits_of hf) fun h' tk k => ⟨.bl _, H, I.kept k, rfl, q⟩
theorem cr_anyP (hc : X.calm = true) : CallR X (.builtin "any") (rQuant X.K fun ds => ds.any PyData.truthy) := by
  intro pins s σ H xs us Q I r h
  obtain ⟨v, ds, rfl, hd, hf, q⟩ := h
  obtain ⟨u, rfl, ru⟩ := vals1' r
  obtain ⟨l, vs, its, as, rfl, rv, hv, ra, hz, hl | hl⟩ := seq_obj I hd ru
  · exact PySem.W.any_list_data (I.ok.hd hc) hl.1 ra (dplainAll _ _ hv) (fits_of hf) fun h' tk k => ⟨.bl _, H, I.kept k, rfl, q⟩
  · exact PySem.W.any_tuple_data (I.ok.hd hc) hl.1 ra (dplainAll _ _ hv) (fits_of hf) fun h' tk k => ⟨.bl _, H, I.kept k, rfl, q⟩
def items1 : List PD → R (List PD)
  | [.list ds] => .ok ds
  | [.tuple ds] => .ok ds
  | _ => .bad
def quantD (F : List PD → Bool) (xs : List PD) : R PD := (items1 xs).bind fun ds => chk (ds.all flat1) (.ok (.bool (F ds)))
def allD := quantD fun ds => ds.all PyData.truthy
def anyD := quantD fun ds => ds.any PyData.truthy
/-- what items1 finds -/
theorem items1_of {O : Addr → Prop} {H : Hp} {vs : List V} {xs ds : List PD} (h : DtAll X.K O H vs xs) (e : items1 xs = .ok ds) : ∃ v, vs = [v] ∧ (Dq X.K H v (.list ds) ∨ Dq X.K H v (.tuple ds)) ∧ (Dt X.K O H v (.list ds) ∨ Dt X.K O H v (.tuple ds)) := by
  match xs, h, e with
  | [.list _], .cons h1 .nil, e => cases e; exact ⟨_, rfl, .inl h1.dp, .inl h1⟩
  | [.tuple _], .cons h1 .nil, e => cases e; exact ⟨_, rfl, .inr h1.dp, .inr h1⟩
theorem quant_of {F : List PD → Bool} {id : String} (h : CallR X (.builtin id) (rQuant X.K F)) : CallD X (.builtin id) (quantD F) := by
  refine ⟨_, h, fun W O σ H vs xs Q nO hv o => ?_⟩
  cases e : items1 xs with
  | ok ds =>
    obtain ⟨v, rfl, hd, _⟩ := items1_of hv e
    unfold quantD at o
    rw [e] at o
    obtain ⟨c, o⟩ := OutP.chk o
    exact ⟨v, ds, rfl, hd, c, o H (Same.refl H) _ (.bl _)⟩
  | ex c pl => unfold quantD at o; rw [e] at o; unfold items1 at e; split at e <;> cases e
  | bad => unfold quantD at o; rw [e] at o; exact o.elim
theorem cd_all (hc : X.calm = true) : CallD X (.builtin "all") allD := quant_of (cr_allP hc)
theorem cd_any (hc : X.calm = true) : CallD X (.builtin "any") anyD := quant_of (cr_anyP hc)

/-! len, abs, int, bool, str, isinstance -/
def lenD : List PD → R PD
  | [.list ds] => .ok (.int ds.length)
  | [.tuple ds] => .ok (.int ds.length)
  | [.str z] => chk (decide (z.length ≤ big)) (.ok (.int z.length))
  | _ => .bad
theorem cd_len : CallD X (.builtin "len") lenD := by
  refine ⟨_, call_len, fun W O σ H vs xs Q nO hv o => ?_⟩
  match xs, hv, o with
  | [.list ds], .cons h1 .nil, o =>
    obtain ⟨a, ws, rfl, h2, h3⟩ := h1.list
    exact ⟨_, _, rfl, .inl ⟨ws, .inl h2, rfl⟩, by rw [h3.length]; exact o H (Same.refl H) _ (.int _)⟩
  | [.tuple ds], .cons h1 .nil, o =>
    obtain ⟨a, ws, rfl, h2, h3⟩ := h1.tuple
    exact ⟨_, _, rfl, .inr ⟨ws, Same.seqT wo_self h2, rfl⟩, by rw [h3.length]; exact o H (Same.refl H) _ (.int _)⟩
  | [.str z], .cons h1 .nil, o =>
    cases h1.sc_str
    obtain ⟨c, o⟩ := OutP.chk o
    exact ⟨_, _, rfl, ⟨big_line (of_decide_eq_true c), rfl⟩, o H (Same.refl H) _ (.int _)⟩
def absD : List PD → R PD
  | [.int i] => .ok (.int (if i < 0 then -i else i))
  | _ => .bad
theorem cd_abs : CallD X (.builtin "abs") absD := by
  refine ⟨_, call_abs, fun W O σ H vs xs Q nO hv o => ?_⟩
  match xs, hv, o with
  | [.int i], .cons h1 .nil, o => cases h1.sc_int; exact ⟨i, rfl, o H (Same.refl H) _ (.int _)⟩
def intD : List PD → R PD
  | [.int i] => .ok (.int i)
  | [.bool b] => .ok (.int (if b then 1 else 0))
  | _ => .bad
theorem cd_int : CallD X (.type "int") intD := by
  refine ⟨_, call_int1, fun W O σ H vs xs Q nO hv o => ?_⟩
  match xs, hv, o with
  | [.int i], .cons h1 .nil, o => cases h1.sc_int; exact .inl ⟨i, rfl, o H (Same.refl H) _ (.int _)⟩
  | [.bool i], .cons h1 .nil, o => cases h1.sc_bl; exact .inr ⟨i, rfl, o H (Same.refl H) _ (.int _)⟩
def strD : List PD → R PD
  | [.int i] => chk (decide (i.natAbs.log2 < 1920)) (.ok (.str (toString i)))
  | _ => .bad
theorem cd_str : CallD X (.type "str") strD := by
  refine ⟨_, call_str_int, fun W O σ H vs xs Q nO hv o => ?_⟩
  match xs, hv, o with
  | [.int i], .cons h1 .nil, o =>
    cases h1.sc_int
    obtain ⟨c, o⟩ := OutP.chk o
    exact ⟨i, rfl, of_decide_eq_true c, o H (Same.refl H) _ (.str _)⟩

/-! max, min -/
def alikes (ds : List PD) : Bool := ds.all fun x => (ds.all fun y => PySem.W.alike x y) && !isNo x
theorem alikes_of {ds : List PD} (h : alikes ds = true) : PySem.W.AlikeAll ds := by
  unfold alikes at h
  rw [List.all_eq_true] at h
  refine ⟨fun x hx y hy => ?_, fun x hx e => ?_⟩
  · have := h x hx
    rw [Bool.and_eq_true] at this
    exact List.all_eq_true.mp this.1 y hy
  · have := h x hx
    rw [Bool.and_eq_true, e] at this
    simp [isNo] at this
def rBest (K : PySem.W.Frag) (F : PD → List PD → PD) : List V → Hp → VK → Prop := fun xs H Q => ∃ a vs d ds, xs = [.ref a] ∧ (Rd H a (.lst vs) ∨ SqT K H a vs) ∧ DqAll K H vs (d :: ds) ∧ alikes (d :: ds) = true ∧ PyData.depthAll (d :: ds) ≤ 100 ∧
  ∀ (i : Nat) (y : V), vs[i]? = some y → (d :: ds)[i]? = some (F d ds) → Q y H
theorem best_at {pins : List (Addr × Obj)} {σ : L2.St} {H : Hp} {s : Shared} (I : Inv X pins σ H s) {vs : List V} {its : List Value} {ds : List PD} {i : Nat} {u : Value} {e : PD} {bs : List Addr} {h' : Heap} {tk : Nat} (rv : Vals vs its) (hv : DqAll X.K H vs ds) (hi : its.toArray[i]? = some u)
    (k : ∀ b o, s.heap.get? b = some o → h'.get? b = some o) (r : PySem.Reads h' u e bs) : ∃ v, vs[i]? = some v ∧ RelV v u ∧ ds[i]? = some e ∧ Dq X.K H v e := by
  have hi' : its[i]? = some u := by simpa using hi
  have hlen := rv.length
  have hiv : i < vs.length := by rw [hlen]; exact (List.getElem?_eq_some_iff.mp hi').1
  obtain ⟨u', hu', ru⟩ := rv.get (List.getElem?_eq_getElem hiv)
  rw [hi'] at hu'; cases hu'
  obtain ⟨d, hd, hq⟩ := hv.getV (List.getElem?_eq_getElem hiv)
  have I' : Inv X pins σ H { s with heap := h', toks := tk } := I.kept k
  have e1 := dp_unique I' hq ru r
  subst e1
  exact ⟨vs[i], List.getElem?_eq_getElem hiv, ru, hd, hq⟩
/-- a list or a tuple at a, its objects -/
theorem seq_at {pins : List (Addr × Obj)} {σ : L2.St} {H : Hp} {s : Shared} (I : Inv X pins σ H s) {a : Addr} {vs : List V} {ds : List PD} (h : Rd H a (.lst vs) ∨ SqT X.K H a vs) (hv : DqAll X.K H vs ds) :
    ∃ (its : List Value) (as : List Addr), Vals vs its ∧ ReadsAll s.heap its ds as ∧ vs.length ≤ sizeLine ∧ ∃ T o n, (T = "list" ∨ T = "tuple") ∧ s.heap.get? a = some o ∧ o.cls = .type T ∧ o.data = .seq its.toArray n ∧ (T = "list" → s.heap.IsList a its.toArray) ∧ (T = "tuple" → s.heap.IsTuple a its.toArray) := by
  rcases h with h | h
  · obtain ⟨its, rv, pl, hz⟩ := I.list (.inl h)
    obtain ⟨as, ra⟩ := Dp.readsAll I _ _ its (dqdpAll _ _ hv) rv
    obtain ⟨o, n, e, hc, hd0, hd⟩ := id pl
    exact ⟨its, as, rv, ra, hz, "list", o, n, .inl rfl, e, hc, hd, fun _ => pl.isList, fun z => absurd z (by decide)⟩
  · obtain ⟨its, rv, pl, hz⟩ := I.tuple h
    obtain ⟨as, ra⟩ := Dp.readsAll I _ _ its (dqdpAll _ _ hv) rv
    obtain ⟨o, e, hc, n, hd⟩ := id pl
    exact ⟨its, as, rv, ra, hz, "tuple", o, n, .inr rfl, e, hc, hd, fun z => absurd z (by decide), fun _ => pl⟩
theorem cr_minP (hc : X.calm = true) (hu : Deep X) : CallR X (.builtin "min") (rBest X.K PySem.W.minD) := by
  intro pins s σ H xs us Q I r h
  obtain ⟨a, vs, d, ds, rfl, hs, hv, ha, hd, q⟩ := h
  obtain ⟨u, rfl, ru⟩ := vals1' r
  cases ru
  obtain ⟨its, as, rv, ra, hz, T, o, n, hT, ho, hcl, hda, h1, h2⟩ := seq_at I hs hv
  have hroom : X.A.units + 1 + PyData.depthAll (d :: ds) < cLine := by unfold Deep at hu; omega
  rcases hT with rfl | rfl
  · refine PySem.W.min_list_data (I.ok.hd hc) (h1 rfl) ra (alikes_of ha) hroom fun i v h' tk bs hi r' k => ?_
    obtain ⟨y, y1, y2, y3, y4⟩ := best_at (tk := tk) I rv hv hi k r'
    exact ⟨y, H, I.kept k, y2, q i y y1 y3⟩
  · refine PySem.W.min_tuple_data (I.ok.hd hc) (h2 rfl) ra (alikes_of ha) hroom fun i v h' tk bs hi r' k => ?_
    obtain ⟨y, y1, y2, y3, y4⟩ := best_at (tk := tk) I rv hv hi k r'
    exact ⟨y, H, I.kept k, y2, q i y y1 y3⟩
theorem cr_maxP (hc : X.calm = true) (hu : Deep X) : CallR X (.builtin "max") (rBest X.K PySem.W.maxD) := by
  intro pins s σ H xs us Q I r h
  obtain ⟨a, vs, d, ds, rfl, hs, hv, ha, hd, q⟩ := h
  obtain ⟨u, rfl, ru⟩ := vals1' r
  cases ru
  obtain ⟨its, as, rv, ra, hz, T, o, n, hT, ho, hcl, hda, h1, h2⟩ := seq_at I hs hv
  have hroom : X.A.units + 1 + PyData.depthAll (d :: ds) < cLine := by unfold Deep at hu; omega
  rcases hT with rfl | rfl
  · refine PySem.W.max_list_data (I.ok.hd hc) (h1 rfl) ra (alikes_of ha) hroom fun i v h' tk bs hi r' k => ?_
    obtain ⟨y, y1, y2, y3, y4⟩ := best_at (tk := tk) I rv hv hi k r'
    exact ⟨y, H, I.kept k, y2, q i y y1 y3⟩
  · refine PySem.W.max_tuple_data (I.ok.hd hc) (h2 rfl) ra (alikes_of ha) hroom fun i v h' tk bs hi r' k => ?_
    obtain ⟨y, y1, y2, y3, y4⟩ := best_at (tk := tk) I rv hv hi k r'
    exact ⟨y, H, I.kept k, y2, q i y y1 y3⟩
/-- of one list or tuple that is not empty; of two ints -/
def bestD (F : PD → List PD → PD) (g : Int → Int → Int) : List PD → R PD
  | [.int i, .int j] => .ok (.int (g i j))
  | xs => (items1 xs).bind fun ds => match ds with
    | [] => .bad
    | d :: r => chk (alikes (d :: r) && decide (PyData.depthAll (d :: r) ≤ 100)) (.ok (F d r))
def mx2 (i j : Int) : Int := if j > i then j else i
def mn2 (i j : Int) : Int := if j < i then j else i
def maxD1 := bestD PySem.W.maxD mx2
def minD1 := bestD PySem.W.minD mn2
theorem foldl_mem {α : Type} (p : α → α → Bool) : ∀ (xs : List α) (x : α), xs.foldl (fun a y => if p a y = true then y else a) x ∈ x :: xs
  | [], x => by simp
  | y :: ys, x => by
    rw [List.foldl_cons]
    by_cases h : p x y = true
    · rw [if_pos h]; exact List.mem_cons_of_mem _ (foldl_mem p ys y)
    · rw [if_neg h]
      rcases List.mem_cons.mp (foldl_mem p ys x) with e | e
      · rw [e]; exact List.mem_cons_self
      · exact List.mem_cons_of_mem _ (List.mem_cons_of_mem _ e)
theorem best_go {F : PD → List PD → PD} {g : Int → Int → Int} {id : String} (h1 : CallR X (.builtin id) (rBest X.K F)) (h2 : CallR X (.builtin id) (fun xs H Q => ∃ i j, xs = [.int i, .int j] ∧ Q (.int (g i j)) H)) : CallD X (.builtin id) (bestD F g) := by
  refine ⟨fun xs H Q => rBest X.K F xs H Q ∨ ∃ i j, xs = [.int i, .int j] ∧ Q (.int (g i j)) H, fun pins s σ H xs us Q I r q => q.elim (h1 pins s σ H xs us Q I r) (h2 pins s σ H xs us Q I r), fun W O σ H vs xs Q nO hv o => ?_⟩
  have one : ∀ ds : List PD, items1 xs = .ok ds → OutP X W O σ H (match ds with
    | [] => .bad
    | d :: r => chk (alikes (d :: r) && decide (PyData.depthAll (d :: r) ≤ 100)) (.ok (F d r))) (fun d H' => ∀ v, Dq X.K (wo H' O) v d → Q v H') → rBest X.K F vs H Q := fun ds e o => by
    obtain ⟨v, rfl, _, hd⟩ := items1_of hv e
    cases ds with
    | nil => exact o.elim
    | cons d r =>
      obtain ⟨c, o⟩ := OutP.chk o
      rw [Bool.and_eq_true] at c
      have fin : ∀ ws, DqAll X.K (wo H O) ws (d :: r) → ∀ (i : Nat) (y : V), ws[i]? = some y → (d :: r)[i]? = some (F d r) → Q y H := fun ws hw i y e1 e2 => by
        obtain ⟨d', k1, k2⟩ := hw.getV e1
        rw [e2] at k1; cases k1
        exact o H (Same.refl H) y k2
      rcases hd with hd | hd
      · obtain ⟨a, ws, rfl, k1, k2⟩ := hd.list
        exact ⟨a, ws, d, r, rfl, .inl k1, k2.mono wo_self, c.1, of_decide_eq_true c.2, fin ws k2⟩
      · obtain ⟨a, ws, rfl, k1, k2⟩ := hd.tuple
        exact ⟨a, ws, d, r, rfl, .inr (Same.seqT wo_self k1), k2.mono wo_self, c.1, of_decide_eq_true c.2, fin ws k2⟩
  unfold bestD at o
  split at o
  · rename_i i j
    match vs, hv with
    | _, .cons k1 (.cons k2 .nil) => cases k1.sc_int; cases k2.sc_int; exact .inr ⟨i, j, rfl, o H (Same.refl H) _ (.int _)⟩
  · cases e : items1 xs with
    | ok ds => rw [e] at o; exact .inl (one ds e o)
    | ex c pl => unfold items1 at e; split at e <;> cases e
    | bad => rw [e] at o; exact o.elim
theorem cd_max (hc : X.calm = true) (hu : Deep X) : CallD X (.builtin "max") maxD1 := best_go (cr_maxP hc hu) (call_max2 hc)
theorem cd_min (hc : X.calm = true) (hu : Deep X) : CallD X (.builtin "min") minD1 := best_go (cr_minP hc hu) (call_min2 hc)

/-! sum, tuple, list, sorted -/
def intsOf : List PD → Option (List Int)
  | [] => some []
  | .int i :: r => (intsOf r).map (i :: ·)
  | _ => none
theorem intsOf_map : ∀ ns : List Int, intsOf (ns.map .int) = some ns
  | [] => rfl
  | n :: ns => by
    show (intsOf (ns.map .int)).map (n :: ·) = _
    rw [intsOf_map ns]; rfl
theorem intsOf_vals {K : PySem.W.Frag} {H : Hp} : ∀ {ds : List PD} {ns : List Int} {vs : List V}, intsOf ds = some ns → DqAll K H vs ds → vs = ns.map V.int
  | [], ns, vs, e, h => by cases e; cases h; rfl
  | .int i :: r, ns, vs, e, h => by
    cases q : intsOf r with
    | none => simp [intsOf, q] at e
    | some m =>
      simp [intsOf, q] at e
      subst e
      cases h with
      | cons h1 h2 => cases h1.dp; rw [intsOf_vals q h2]; rfl
def sumD : List PD → R PD
  | [.list ds] => match intsOf ds with
    | some ns => .ok (.int ns.sum)
    | none => .bad
  | _ => .bad
theorem cd_sum (hc : X.calm = true) : CallD X (.builtin "sum") sumD := by
  refine ⟨_, cr_sum hc, fun W O σ H vs xs Q nO hv o => ?_⟩
  match xs, hv, o with
  | [.list ds], .cons h1 .nil, o =>
    unfold sumD at o
    cases e : intsOf ds with
    | none => simp only [e] at o; exact o.elim
    | some ns =>
      simp only [e] at o
      obtain ⟨a, ws, rfl, k1, k2⟩ := h1.list
      have := intsOf_vals e k2
      subst this
      exact ⟨a, ns, rfl, .inl k1, o H (Same.refl H) _ (.int _)⟩
def tupD (xs : List PD) : R PD := (items1 xs).bind fun ds => .ok (.tuple ds)
theorem cd_tuple : CallD X (.type "tuple") tupD := by
  refine ⟨_, call_tuple_of, fun W O σ H vs xs Q nO hv o => ?_⟩
  cases e : items1 xs with
  | ok ds =>
    unfold tupD at o
    rw [e] at o
    obtain ⟨v, rfl, _, hd⟩ := items1_of hv e
    rcases hd with hd | hd
    · obtain ⟨a, ws, rfl, k1, k2⟩ := hd.list
      exact ⟨a, ws, rfl, .inl ⟨.inl k1, fun p np => o _ (Same.updNew np) _ (.tup (.inl (.inl (wo_new (nO p np)))) (all_grow np k2))⟩⟩
    · obtain ⟨a, ws, rfl, k1, k2⟩ := hd.tuple
      exact ⟨a, ws, rfl, .inr ⟨Same.seqT wo_self k1, o H (Same.refl H) _ (.tup k1 k2)⟩⟩
  | ex c pl => unfold items1 at e; split at e <;> cases e
  | bad => unfold tupD at o; rw [e] at o; exact o.elim
theorem cf_list : CallF X (.type "list") items1 := by
  refine ⟨_, call_list_of, fun W O σ H vs xs Q nO hv o => ?_⟩
  cases e : items1 xs with
  | ok ds =>
    rw [e] at o
    obtain ⟨v, rfl, _, hd⟩ := items1_of hv e
    rcases hd with hd | hd
    · obtain ⟨a, ws, rfl, k1, k2⟩ := hd.list
      exact ⟨a, ws, rfl, .inl (.inl k1), fun p np => o H (Same.refl H) p ws _ np k2 rfl⟩
    · obtain ⟨a, ws, rfl, k1, k2⟩ := hd.tuple
      exact ⟨a, ws, rfl, .inr (Same.seqT wo_self k1), fun p np => o H (Same.refl H) p ws _ np k2 rfl⟩
  | ex c pl => unfold items1 at e; split at e <;> cases e
  | bad => rw [e] at o; exact o.elim
end
end DL
namespace DL
open PySem PySem.Spec L2

/-! ### sorted -/
def isT1 : PD → Bool
  | .tuple (_ :: _) => true
  | _ => false
def noTN : PD → Bool
  | .tuple _ => false
  | .none => false
  | _ => true
def sortOk (ds : List PD) : Bool := (ds.all fun x => ds.all fun y => PySem.W.alike x y) && (ds.all isT1 || ds.all noTN) && decide (ds.length ≤ big ∧ PyData.depthAll ds ≤ 100)
def sortL (ds : List PD) : List PD := ds.mergeSort (PySem.W.dataLe false fun d => d)
def sortD (xs : List PD) : R (List PD) := (items1 xs).bind fun ds => chk (sortOk ds) (.ok (sortL ds))
theorem depth_mem : ∀ {ds : List PD} {d : PD}, d ∈ ds → d.depth ≤ PyData.depthAll ds
  | x :: xs, d, h => by
    rw [PyData.depthAll]
    rcases List.mem_cons.mp h with rfl | h
    · omega
    · have := depth_mem h; omega
theorem sortable_of {ds : List PD} (h : sortOk ds = true) : PySem.W.AllAlike ds ∧ PySem.W.Sortable ds ∧ ds.length ≤ big ∧ PyData.depthAll ds ≤ 100 := by
  unfold sortOk at h
  rw [Bool.and_eq_true, Bool.and_eq_true, Bool.or_eq_true, decide_eq_true_eq] at h
  obtain ⟨⟨h1, h2⟩, h3, h4⟩ := h
  refine ⟨fun d hd d' hd' => List.all_eq_true.mp (List.all_eq_true.mp h1 d hd) d' hd', ?_, h3, h4⟩
  rcases h2 with h2 | h2
  · refine .inl fun d hd => ?_
    have := List.all_eq_true.mp h2 d hd
    match d, this with
    | .tuple (x :: r), _ => exact ⟨x, r, rfl⟩
  · refine .inr fun d hd => ?_
    have := List.all_eq_true.mp h2 d hd
    constructor
    · intro e; rw [e] at this; cases this
    · intro xs e; rw [e] at this; cases this
def rSortP (K : PySem.W.Frag) : List V → Hp → VK → Prop := fun xs H Q => ∃ a vs ds, xs = [.ref a] ∧ (Rd H a (.lst vs) ∨ SqT K H a vs) ∧ DqAll K H vs ds ∧ sortOk ds = true ∧
  ∀ out p, (∀ G, DqAll K G vs ds → DqAll K G out (sortL ds)) → H p = none → Q (.ref p) (upd H p (.lst out))
theorem each_of {K : PySem.W.Frag} : ∀ {vs : List V} {its : List Value} {ds : List PD}, Vals vs its → vs.length = ds.length →
    PySem.W.EachIs (fun (u : Value) (d : PD) => ∃ v, RelV v u ∧ ∀ G, (∀ (i : Nat) (x : V), vs[i]? = some x → ∀ e : PD, ds[i]? = some e → Dq K G x e) → Dq K G v d) its ds
  | [], [], [], _, _ => .nil
  | v :: vs, u :: us, d :: ds, .cons r rr, h => by
    have ih := each_of (K := K) rr (by simpa using h)
    refine .cons ⟨v, r, fun G q => q 0 v rfl d rfl⟩ ?_
    exact ih.mono fun a b ⟨x, h1, h2⟩ => ⟨x, h1, fun G q => h2 G fun i y e1 e e2 => q (i + 1) y e1 e e2⟩
theorem all_at {K : PySem.W.Frag} {G : Hp} {vs : List V} {ds : List PD} (h : DqAll K G vs ds) : ∀ (i : Nat) (x : V), vs[i]? = some x → ∀ e : PD, ds[i]? = some e → Dq K G x e := fun i x h1 e h2 => by
  obtain ⟨e', k1, k2⟩ := h.getV h1
  rw [h2] at k1; cases k1
  exact k2
theorem each_out {K : PySem.W.Frag} {Pz : Hp → Prop} : ∀ {us : List Value} {ds : List PD}, PySem.W.EachIs (fun (u : Value) (d : PD) => ∃ v, RelV v u ∧ ∀ G, Pz G → Dq K G v d) us ds → ∃ out, Vals out us ∧ ∀ G, Pz G → DqAll K G out ds
  | _, _, .nil => ⟨[], .nil, fun _ _ => .nil⟩
  | _, _, .cons ⟨v, h1, h2⟩ r => by
    obtain ⟨out, k1, k2⟩ := each_out r
    exact ⟨v :: out, .cons h1 k1, fun G q => .cons (h2 G q) (k2 G q)⟩
theorem reads_each {h : Heap} : ∀ {us : List Value} {ds : List PD} {as : List Addr}, ReadsAll h us ds as → PySem.W.EachIs (fun (u : Value) (d : PD) => ∃ as, PySem.Reads h u d as) us ds
  | _, _, _, .nil => .nil
  | _, _, _, .cons h1 h2 => .cons ⟨_, h1⟩ (reads_each h2)
section
variable {X : Cx}
theorem cr_sortP (hu : Deep X) : CallR X (.builtin "sorted") (rSortP X.K) := by
  intro pins s σ H xs us Q I r h
  obtain ⟨a, vs, ds, rfl, hs, hv, ho, q⟩ := h
  obtain ⟨u, rfl, ru⟩ := vals1' r
  cases ru
  obtain ⟨its, as, rv, ra, hz, T, o, n, hT, hob, hcl, hda, _, _⟩ := seq_at I hs hv
  obtain ⟨k1, k2, k3, k4⟩ := sortable_of ho
  have hlen := rv.length
  have hlen2 := hv.length
  refine Calls.call_function_entry PyProof.Rows.kind_sorted PyProof.Rows.plain_sorted PyProof.Rows.entry_sorted (PyProof.Rows.args_sorted1 _) ?_
  unfold Builtin.«sorted»
  refine wpAny_bind (m := checkCount "sorted" 1 1 _) (wpAny_pure ?_)
  refine wpAny_bind (wpAny_collect_seq a hT hob hcl hda (fun h1 kp => ?_) (by rw [List.size_toArray]; omega))
  rw [show its.toArray.toList = its by simp]
  have I1 : Inv X pins σ H { s with heap := h1 } := I.kept (t' := s.toks) kp
  refine wpAny_bind (wpAny_newList ?_ (by omega))
  have hnew : (h1.push { cls := .type "list", data := .seq its.toArray }).get? h1.objs.size = some (PyProof.Rows.seqObj "list" its.toArray 0) := Heap.get?_push_size _ rfl
  have I2 : Inv X pins σ (upd H h1.objs.size (.lst vs)) { s with heap := h1.push { cls := .type "list", data := .seq its.toArray } } := I1.lnew (t' := s.toks) rv hz
  have fr := I1.fresh
  have er : PySem.W.EachIs (fun (u : Value) (d : PD) => ∃ as, PySem.Reads (PySem.W.sortingHeap (h1.push { cls := .type "list", data := .seq its.toArray }) h1.objs.size its) u d as) its ds := (reads_each ra).mono fun u d ⟨as, r⟩ =>
    ⟨as, PyProof.Rows.Reads.keeps (fun b o' e => PySem.W.sortingHeap_old (Nat.ne_of_lt (Heap.lt_size (kp b o' e))) (Heap.get?_push_of_some _ (kp b o' e))) r⟩
  have e0 := each_of (K := X.K) rv hlen2
  have lo := PySem.W.sortVals_length (κ := PySem.W.dataKind (PySem.W.sortingHeap (h1.push { cls := .type "list", data := .seq its.toArray }) h1.objs.size its) ds) (vs := its) false rfl
  have sd := PySem.W.sortVals_data (enc := fun d => d) false e0 (by simpa using er) (by simpa using k1)
  rw [List.map_id'] at sd
  obtain ⟨out, w1, w2⟩ := each_out sd
  refine wpAny_bind (wpAny_holding (wpAny_call_entry PyProof.Rows.slot_list_sort ⟨_, hnew, rfl⟩ PyProof.Rows.entry_list_sort
    (PySem.W.list_sort_vals (s := { s with heap := h1.push { cls := .type "list", data := .seq its.toArray } }) hnew
      (PySem.W.SortsAt.data (s := { s with heap := PySem.W.sortingHeap (h1.push { cls := .type "list", data := .seq its.toArray }) h1.objs.size its }) er k1 k2 (fun d hd => by have := depth_mem hd; have := hu; unfold Deep at this; show X.A.units + 1 + 1 + d.depth < cLine; omega)) (by omega) ⟨_, rfl, ?_⟩) (PyProof.Rows.args_list_sort _)))
  refine wpAny_pure ⟨_, rfl, ?_⟩
  obtain ⟨en, hat⟩ := PyProof.Rows.sortedHeap_at (out := (PySem.W.sortVals (PySem.W.dataKind (PySem.W.sortingHeap (h1.push { cls := .type "list", data := .seq its.toArray }) h1.objs.size its) ds) false its its).toArray) hnew
  have ol := w1.length
  have I3 := I2.write (x := h1.objs.size) (e := h1.objs.size) (o := .lst out) (t' := s.toks) (h' := PyProof.Rows.sortedHeap (h1.push { cls := .type "list", data := .seq its.toArray }) h1.objs.size its (PySem.W.sortVals (PySem.W.dataKind (PySem.W.sortingHeap (h1.push { cls := .type "list", data := .seq its.toArray }) h1.objs.size its) ds) false its its).toArray)
    (by rw [upd_same]; trivial) (.inl rfl) (fun b u hb q => (PyProof.Rows.sortedHeap_old hb (Heap.lt_size q)).trans q) ⟨_, hat⟩ ⟨by omega, _, en, w1, hat⟩
  rw [upd_upd] at I3
  refine ⟨.ref h1.objs.size, _, I3, rfl, q out h1.objs.size (fun G hG => w2 G (all_at hG)) fr⟩
theorem cf_sorted (hu : Deep X) : CallF X (.builtin "sorted") sortD := by
  refine ⟨_, cr_sortP hu, fun W O σ H vs xs Q nO hv o => ?_⟩
  cases e : items1 xs with
  | ok ds =>
    unfold sortD at o
    rw [e] at o
    obtain ⟨c, o⟩ := OutP.chk o
    obtain ⟨v, rfl, _, hd⟩ := items1_of hv e
    rcases hd with hd | hd
    · obtain ⟨a, ws, rfl, k1, k2⟩ := hd.list
      exact ⟨a, ws, ds, rfl, .inl k1, k2.mono wo_self, c, fun out p hG np => o H (Same.refl H) p out _ np (hG _ k2) rfl⟩
    · obtain ⟨a, ws, rfl, k1, k2⟩ := hd.tuple
      exact ⟨a, ws, ds, rfl, .inr (Same.seqT wo_self k1), k2.mono wo_self, c, fun out p hG np => o H (Same.refl H) p out _ np (hG _ k2) rfl⟩
  | ex c pl => unfold items1 at e; split at e <;> cases e
  | bad => unfold sortD at o; rw [e] at o; exact o.elim
end
end DL
namespace DL
open PySem PySem.Spec L2

/-! ### isinstance -/
section
variable {X : Cx} {W : WX} {e : Expr} {f : En → R PD} {pos p p2 : Pos}
def rIsa (K : PySem.W.Frag) (T : String) (F : PD → Bool) : List V → Hp → VK → Prop := fun xs H Q => ∃ v d, xs = [v, .ty T] ∧ Dq K H v d ∧ Q (.bl (F d)) H
theorem cr_isa {T : String} {F : PD → Bool} (rule : ∀ (prog : Program) (w : World) (A : Around) (E : Value → Shared → Prop) (s : Shared) (v : Value) (d : PD) (as : List Addr) (Q : Value → Shared → Prop), PySem.Reads s.heap v d as → (∀ tk, s.toks ≤ tk → Q (.bool (F d)) { s with toks := tk }) → wpAny (model prog w) A (call (.builtin "isinstance") [v, .type T]) Q E s) :
    CallR X (.builtin "isinstance") (rIsa X.K T F) := by
  intro pins s σ H xs us Q I r h
  obtain ⟨v, d, rfl, hd, q⟩ := h
  cases r with
  | cons r1 r2 =>
    cases r2 with
    | cons r3 r4 =>
      cases r4
      cases r3
      obtain ⟨as, hr⟩ := Dp.reads I d v _ hd.dp r1
      exact rule X.prog X.w X.A X.xe s _ d as _ hr fun tk _ => ⟨.bl _, H, I.tok tk, rfl, q⟩
def isaD (F : PD → Bool) (f : En → R PD) : En → R PD := fun ρ => (f ρ).bind fun d => .ok (.bool (F d))
theorem de_isa {T : String} {F : PD → Bool} {x : Str} (hc : CallR X (.builtin "isinstance") (rIsa X.K T F)) (hg : Gl X "isinstance") (hm : X.mg "isinstance" = none) (hgT : Gl X x) (hmT : X.mg x = none) (hvT : bootBuiltins x = some (.type T)) (ha : DV X W e f)
    (h1 : starEach [e, .Name x p2] X.env = (false, eval e X.env) :: starEach [.Name x p2] X.env := by rfl) (h2 : starEach [.Name x p2] X.env = (false, eval (.Name x p2) X.env) :: starEach [] X.env := by rfl)
    (hpl : (backTo pos (starEach [.Name x p2] X.env)).any (·.1) = false := by rfl) (hn : x ≠ "__name__" := by decide) (hdb : (x == ("__debug__" : Str)) = false := by decide) : DE X W (.Call (.Name "isinstance" p) [e, .Name x p2] [] pos) (isaD F f) := by
  obtain ⟨t, pt, qt⟩ := ha.ex
  refine ⟨_, pe_callB hc hg hm (by rfl) (pa_cons pt (pa_cons (pe_bltn (v := .ty T) hgT hmT hvT rfl hn hdb) pa_nil h2) h1) (by decide) (by decide) h1 hpl, fun H0 O0 O ρ σ H Q rl o => ?_⟩
  exact qt H0 O0 O ρ σ H _ rl (o.bind.imp fun d H1 e1 o1 v hv => ⟨v, d, rfl, hv.dp, o1 H1 (Same.refl H1) _ (.bl _)⟩)
theorem isa_int : CallR X (.builtin "isinstance") (rIsa X.K "int" PyData.isInt) := cr_isa fun _ _ _ _ _ _ _ _ _ r h => PySem.W.isinstance_int_data r h
theorem isa_bool : CallR X (.builtin "isinstance") (rIsa X.K "bool" PyData.isBool) := cr_isa fun _ _ _ _ _ _ _ _ _ r h => PySem.W.isinstance_bool_data r h
theorem isa_str : CallR X (.builtin "isinstance") (rIsa X.K "str" PyData.isStr) := cr_isa fun _ _ _ _ _ _ _ _ _ r h => PySem.W.isinstance_str_data r h
theorem isa_tuple : CallR X (.builtin "isinstance") (rIsa X.K "tuple" PyData.isTuple) := cr_isa fun _ _ _ _ _ _ _ _ _ r h => PySem.W.isinstance_tuple_data r h
theorem isa_list : CallR X (.builtin "isinstance") (rIsa X.K "list" PyData.isList) := cr_isa fun _ _ _ _ _ _ _ _ _ r h => PySem.W.isinstance_list_data r h
end

/-! ### slices -/
structure DO (X : Cx) (W : WX) (e : Option Expr) (f : En → R (Option Int)) : Prop where
  ex : ∃ t, PO X e t ∧ ∀ H0 O0 O ρ σ H Q, Rel X.K H0 O0 O H ρ σ → OutP X W O σ H (f ρ) Q → t σ H Q
def oN : En → R (Option Int) := fun _ => .ok none
def oS (f : En → R PD) : En → R (Option Int) := fun ρ => (f ρ).bind fun d => match d with
  | .int i => .ok (some i)
  | _ => .bad
def cutL {α : Type} (xs : List α) (lo hi : Option Int) : List α := (xs.drop (HT.sIx xs.length 0 lo)).take (HT.sIx xs.length xs.length hi - HT.sIx xs.length 0 lo)
def slD (d : PD) (lo hi : Option Int) : R PD := match d with
  | .list ds => .ok (.list (cutL ds lo hi))
  | .tuple ds => .ok (.tuple (cutL ds lo hi))
  | .str z => chk (decide (z.length ≤ big)) (.ok (.str (cutS z lo hi)))
  | _ => .bad
def cSl (f : En → R PD) (l h : En → R (Option Int)) : En → R PD := fun ρ => (f ρ).bind fun d => (l ρ).bind fun a => (h ρ).bind fun b => slD d a b
section
variable {X : Cx} {W : WX} {e : Expr} {lo hi : Option Expr} {f : En → R PD} {l h : En → R (Option Int)} {pos p2 : Pos}
theorem do_n : DO X W none oN := ⟨_, po_none, fun H0 O0 O ρ σ H Q rl o => o H (Same.refl H)⟩
theorem do_s (he : DE X W e f) : DO X W (some e) (oS f) := by
  obtain ⟨t, pt, qt⟩ := he.ex
  refine ⟨_, po_some pt, fun H0 O0 O ρ σ H Q rl o => ?_⟩
  refine qt H0 O0 O ρ σ H _ rl (o.bind.imp fun d H1 e1 o1 v hv => ?_)
  cases d with
  | int i => cases hv.sc_int; exact ⟨i, rfl, o1 H1 (Same.refl H1)⟩
  | _ => exact o1.elim
theorem all_cut {K : PySem.W.Frag} {G : Hp} {vs : List V} {ds : List PD} (hv : DqAll K G vs ds) (a b : Option Int) : DqAll K G (cutV vs a b) (cutL ds a b) := by
  unfold cutV cutL
  rw [hv.length]
  exact (hv.drop _).take _
theorem de_sl (he : DV X W e f) (hl : DO X W lo l) (hh : DO X W hi h) : DE X W (.Subscript e (.Slice lo hi none p2) pos) (cSl f l h) := by
  obtain ⟨te, pe, qe⟩ := he.ex
  obtain ⟨tl, pl, ql⟩ := hl.ex
  obtain ⟨th, ph, qh⟩ := hh.ex
  refine ⟨_, pe_slice (sl_list.or (sl_tupA.or sl_str)) pe pl ph, fun H0 O0 O ρ σ H Q rl o => ?_⟩
  refine qe H0 O0 O ρ σ H _ rl (o.bind.imp fun d H1 e1 o1 v hv => ?_)
  refine ql H0 O0 O ρ σ H1 _ (rl.grow e1) (o1.bind.imp fun a H2 e2 o2 => ?_)
  refine qh H0 O0 O ρ σ H2 _ ((rl.grow e1).grow e2) (o2.bind.imp fun b H3 e3 o3 => ?_)
  have r3 := ((rl.grow e1).grow e2).grow e3
  have hv := hv.mono (e2.trans e3)
  cases d with
  | list ds =>
    obtain ⟨x, vs, rfl, k1, k2⟩ := hv.list
    exact .inl ⟨x, vs, rfl, .inl k1, fun p np => o3 _ (Same.updNew np) _ (.lst (.inl (wo_new (r3.fresh np))) (all_grow np (all_cut k2 a b)))⟩
  | tuple ds =>
    obtain ⟨x, vs, rfl, k1, k2⟩ := hv.tuple
    have k1' : SqT X.K H3 x vs := Same.seqT wo_self k1
    refine .inr (.inl ⟨x, vs, rfl, k1', fun hw => ?_, fun hw p np => o3 _ (Same.updNew np) _ (.tup (.inl (.inl (wo_new (r3.fresh np)))) (all_grow np (all_cut k2 a b)))⟩)
    have hl := k2.length
    have ec : cutL ds a b = ds := by
      unfold cutL
      rw [← hl, hw.1, hw.2, List.drop_zero, Nat.sub_zero, hl, List.take_length]
    rw [slD, ec] at o3
    exact o3 H3 (Same.refl H3) _ (.tup k1 k2)
  | str z =>
    cases hv.sc_str
    obtain ⟨c, o3⟩ := OutP.chk o3
    exact .inr (.inr ⟨z, rfl, big_line (of_decide_eq_true c), o3 H3 (Same.refl H3) _ (.str _)⟩)
  | _ => exact o3.elim
/-- a list's slice, new -/
def cSlF (f : En → R PD) (l h : En → R (Option Int)) : En → R (List PD) := fun ρ => (f ρ).bind fun d => (l ρ).bind fun a => (h ρ).bind fun b => match d with
  | .list ds => .ok (cutL ds a b)
  | _ => .bad
theorem df_sl (he : DV X W e f) (hl : DO X W lo l) (hh : DO X W hi h) : DF X W (.Subscript e (.Slice lo hi none p2) pos) (cSlF f l h) := by
  obtain ⟨te, pe, qe⟩ := he.ex
  obtain ⟨tl, pl, ql⟩ := hl.ex
  obtain ⟨th, ph, qh⟩ := hh.ex
  refine ⟨_, pe_slice sl_list pe pl ph, fun H0 O0 O ρ σ H Q rl o => ?_⟩
  refine qe H0 O0 O ρ σ H _ rl (o.bind.imp fun d H1 e1 o1 v hv => ?_)
  refine ql H0 O0 O ρ σ H1 _ (rl.grow e1) (o1.bind.imp fun a H2 e2 o2 => ?_)
  refine qh H0 O0 O ρ σ H2 _ ((rl.grow e1).grow e2) (o2.bind.imp fun b H3 e3 o3 => ?_)
  have hv := hv.mono (e2.trans e3)
  cases d with
  | list ds =>
    obtain ⟨x, vs, rfl, k1, k2⟩ := hv.list
    exact ⟨x, vs, rfl, .inl k1, fun p np => o3 H3 (Same.refl H3) p _ _ np (all_cut k2 a b) rfl⟩
  | _ => exact o3.elim
end

/-! ### x[i] = e, x.extend(e), of an own list -/
def sSetI (i : Nat) (f g : En → R PD) : En → Fl := fun ρ => match ρ[i]? with
  | some (.ol ds) => toS ρ (f ρ) fun d => toS ρ (g ρ) fun j => match j with
    | .int k => match ixN ds.length k with
      | some n => .nx (ρ.set i (.ol (ds.set n d)))
      | none => .bad
    | _ => .bad
  | _ => .bad
section
variable {X : Cx} {W : WX} {a b e : Expr} {f g : En → R PD} {i : Nat} {pos p1 : Pos}
theorem ds_setI (hx : PE X a (tVar i)) (he : DE X W e f) (hb : DE X W b g)
    (ha : ∀ v, assign (.Subscript a b p1) X.env v = (do
      let ov ← holding [v] (eval a X.env)
      let iv ← holding [v, ov] (eval b X.env)
      standAt p1
      holding [v, ov, iv] (setItem ov iv v)
      release [v, ov, iv] []) := by intro _; rfl)
    (hs : swapsWithSole [.Subscript a b p1] e pos.line X.env = pure false := by rfl) (hw : swappedStores [.Subscript a b p1] e X.env = pure none := by rfl)
    (h1 : (assignEach [.Subscript a b p1] X.env).map (·.2) = [assign (.Subscript a b p1) X.env] := by rfl) : DS X W (.Assign [.Subscript a b p1] e pos) (sSetI i f g) := by
  obtain ⟨t, pt, qt⟩ := he.ex
  obtain ⟨u, pu, qu⟩ := hb.ex
  refine ⟨_, ps_asg pt (pg_sub hx pu set_list ha) hs hw h1, fun H0 O0 O ρ σ H D rl o => ?_⟩
  unfold sSetI at o
  cases q : ρ[i]? with
  | none => rw [q] at o; exact o.elim
  | some s =>
    cases s with
    | ol ds =>
      rw [q] at o
      refine qt H0 O0 O ρ σ H _ rl ((OutS.ofR rl o).imp fun d H1 e1 o1 v hv => ?_)
      have r1 := rl.grow e1
      obtain ⟨p, vs, e2, m1, m2, m3, m4⟩ := r1.sl i _ q
      refine ⟨_, e2, qu H0 O0 O ρ σ H1 _ r1 ((OutS.ofR r1 o1).imp fun j H2 e3 o2 w hw2 => ?_)⟩
      cases j with
      | int k =>
        cases hw2.sc_int
        cases hk : ixN ds.length k with
        | none => simp only [hk] at o2; exact o2.elim
        | some n =>
          simp only [hk] at o2
          have m5 := m4.mono (same_wo (O := O) e3)
          refine ⟨p, vs, k, n, rfl, rfl, e3 _ _ m3, by rw [m4.length]; exact hk, ?_⟩
          refine o2 O _ σ ((r1.grow e3).updO q rfl rfl e2 ⟨p, vs.set n v, rfl, m1, m2, upd_same, ?_⟩)
          rw [wo_upd m1]
          exact m5.set (hv.mono (same_wo e3)) n
      | _ => exact o2.elim
    | _ => rw [q] at o; exact o.elim
/-- what x.extend(e) does, e a list that is read -/
def rExtP : V → List V → Hp → VK → Prop := fun x vs H Q => ∃ l b xs zs, x = .ref l ∧ vs = [.ref b] ∧ H l = some (.lst xs) ∧ Rd H b (.lst zs) ∧ xs.length + zs.length ≤ sizeLine ∧ Q .non (upd H l (.lst (xs ++ zs)))
theorem mt_extP : MtR X "list.extend" rExtP := by
  intro pins s σ H x xs v us Q I rx rv h
  obtain ⟨l, b, ys, zs, rfl, rfl, hH, hB, hz, q⟩ := h
  cases rx
  obtain ⟨u, rfl, ru⟩ := vals1' rv
  cases ru
  obtain ⟨_, its, n, r, e⟩ := I.hok l _ hH
  obtain ⟨_, its2, n2, r2, e2⟩ := hB.ok I.hok
  have hl := r.length
  have hl2 := r2.length
  have z1 : its.toArray.size = ys.length := by rw [List.size_toArray, hl]
  have z2 : its2.toArray.size = zs.length := by rw [List.size_toArray, hl2]
  refine call_meets F.slot_list_extend ⟨_, e, rfl⟩ F.entry_list_extend (F.args_list_extend_2 _ _)
    (AutoSeq1.list_extend_list_list_0 l its.toArray n b its2.toArray n2 (by rw [notLongL (by omega), Bool.and_false]; decide) (by omega) (by omega)) ⟨e, e2, ?_⟩
  exact ⟨.non, _, I.lset (its' := its ++ its2) hH e (by simp) (r.append r2) (by rw [List.length_append]; omega), rfl, q⟩
def sExt (i : Nat) (f : En → R PD) : En → Fl := fun ρ => match ρ[i]? with
  | some (.ol ds) => toS ρ (f ρ) fun d => match d with
    | .list es => if ds.length + es.length ≤ big then .nx (ρ.set i (.ol (ds ++ es))) else .bad
    | _ => .bad
  | _ => .bad
theorem ds_ext {apos cpos : Pos} (hx : PE X a (tVar i)) (he : DE X W e f) (hs : swapsWith (.Call (.Attribute a "extend" apos) [e] [] cpos) none pos.line X.env = pure false := by rfl)
    (hbase : attributeBase a "extend" X.env (eval a X.env) = eval a X.env := by rfl)
    (hfew : ((backTo cpos (starEach [e] X.env)).all (fun x => !x.1) && (backToKw cpos (keywordEach [] X.env)).all (fun x => x.1.isSome)
      && decide (([e] : List Expr).length + ([] : List Keyword).length + (if ([] : List Keyword).isEmpty then 0 else 1) < 30)) = true := by rfl)
    (hline : (apos.endLine == cpos.line) = true := by rfl) (hst : starEach [e] X.env = (false, eval e X.env) :: starEach [] X.env := by rfl) (hplain : (backTo cpos (starEach [] X.env)).any (·.1) = false := by rfl) :
    DS X W (.Expr (.Call (.Attribute a "extend" apos) [e] [] cpos) pos) (sExt i f) := by
  obtain ⟨t, pt, qt⟩ := he.ex
  refine ⟨_, ps_expr (pe_bm PySem.F.plainAttrs_list PySem.F.slot_list_extend PySem.F.type_list_extend mt_extP hx (pa_cons pt pa_nil hst) hbase hfew hline hst hplain) hs, fun H0 O0 O ρ σ H D rl o => ?_⟩
  unfold sExt at o
  cases q : ρ[i]? with
  | none => rw [q] at o; exact o.elim
  | some s =>
    rw [q] at o
    cases s with
    | ol ds =>
      obtain ⟨p, vs, e1, m1, m2, m3, m4⟩ := rl.sl i _ q
      refine ⟨_, e1, .inl ⟨rfl, vs, .inl (.inl m3)⟩, ?_⟩
      refine qt H0 O0 O ρ σ H _ rl ((OutS.ofR rl o).imp fun d H1 ex o1 v hv => ?_)
      cases hv with
      | lst k1 k2 =>
        rename_i b ws es
        simp only at o1
        by_cases hz : ds.length + es.length ≤ big
        · rw [if_pos hz] at o1
          have m5 := m4.mono (same_wo (O := O) ex)
          refine ⟨p, b, vs, ws, rfl, rfl, ex _ _ m3, rd_mono wo_self k1, by rw [m4.length, k2.length]; exact big_line hz, ?_⟩
          refine o1 O _ σ ((rl.grow ex).updO q rfl rfl e1 ⟨p, vs ++ ws, rfl, m1, m2, upd_same, ?_⟩)
          rw [wo_upd m1]
          exact m5.append k2
        · rw [if_neg hz] at o1; exact o1.elim
      | _ => exact o1.elim
    | _ => exact o.elim
end

/-! ### enumerate -/
/-- the tuple at a, each item in a new pair with its number -/
def IteT (K : PySem.W.Frag) (a : Addr) : It :=
  ⟨fun i H => ∃ (xs : List V) (x : V), SqT K H a xs ∧ xs[i]? = some x, fun i H v H' => ∃ T x, v = .ref T ∧ H T = none ∧ H' = upd H T (.tup [.int (i : Nat), x]) ∧ ∀ xs, SqT K H a xs → xs[i]? = some x, fun i H => ∃ xs : List V, SqT K H a xs ∧ xs.length ≤ i⟩
theorem enum_draws {P : Program} {w : World} {A : Around} (hh : A.handled = none) {it a : Addr} (hne : a ≠ it) (items : Array Value) : Draws P w A it [it, a] items.size (fun i v => items[i]? = some v) (fun i h => h.IsTupleIter it a i ∧ h.IsTuple a items) := .tuple hh it a hne items
/-- at the end the tuple's iterator tells that it is done -/
theorem enum_at {P : Program} {w : World} {A : Around} (hh : A.handled = none) {it a : Addr} {n : Nat} (items : Array Value) (hn : items[n]? = none) : Draws P w A it [it, a] n (fun _ _ => True) (fun i h => h.IsTupleIter it a i ∧ h.IsTuple a items ∧ n ≤ i) where
  live := fun i h ⟨⟨o, ho, _⟩, _⟩ => ⟨o, ho⟩
  frame := fun i h h' ⟨h1, h2, h3⟩ hk => ⟨h1.at fun o e => hk it List.mem_cons_self o e, h2.at fun o e => hk a (List.mem_cons_of_mem _ List.mem_cons_self) o e, h3⟩
  item := fun i s Q E hi st hQ => absurd hi (Nat.not_lt.mpr st.2.2)
  done := fun s Q E st hE => wpAny_nextOf_tuple_end hh st.1 st.2.1 hn hE
theorem turn_enumT {P : Program} {w : World} {K : PySem.W.Frag} {elts : List Expr} {kk : Nat} {tpos : Pos} (a e it : Addr) :
    Turn P w K (.Tuple elts kk tpos) (IteT K a) [e, it] e (fun i h => (∃ old, IsEnum h e it ((i : Nat) : Int) old) ∧ h.IsTupleIter it a i ∧ e ≠ it ∧ e ≠ a ∧ a ≠ it) where
  mem := List.mem_cons_self
  obj := fun i h ⟨⟨old, he⟩, ⟨o, ho, hc, hd⟩, _⟩ b hb => by
    rcases List.mem_cons.mp hb with z | z
    · rw [z]; exact ⟨_, he, fun v q => nomatch q⟩
    · rw [List.mem_singleton.mp z]; exact ⟨o, ho, fun v q => by rw [hd] at q; cases q⟩
  keep := fun i h h' ⟨⟨old, he⟩, hi, hr⟩ k => ⟨⟨old, k e List.mem_cons_self _ he⟩, hi.at fun o q => k it (List.mem_cons_of_mem _ List.mem_cons_self) o q, hr⟩
  item := fun X hP hw hK hc i pins s σ H E I hf ⟨⟨old, he⟩, hit, hne, hea, hai⟩ hg => by
    subst hP hw hK
    obtain ⟨xs, x, hq, hx⟩ := hg
    obtain ⟨its, rv, p, hz⟩ := I.tuple hq
    obtain ⟨u, hu, ru⟩ := rv.get hx
    have hit2 : i < its.toArray.size := by rw [List.size_toArray]; exact (List.getElem?_eq_some_iff.mp hu).1
    have hel : e < s.heap.objs.size := Heap.lt_size he
    have hil : it < s.heap.objs.size := by obtain ⟨_, q, _⟩ := hit; exact Heap.lt_size q
    refine wpAny_pyNext_enum_itemC (enum_draws (A := X.A.in1) (I.ok.hd hc) hai its.toArray) he ⟨hit, p⟩ hit2 hne (fun z => ?_) fun y h' tk hy ho st' hT hsz hk => ?_
    · rcases List.mem_cons.mp z with z | z
      · exact hne z
      · exact hea (List.mem_singleton.mp z)
    have ey : y = u := by
      have hu2 : its.toArray[i]? = some u := by simpa using hu
      exact Option.some.inj (hy.symm.trans hu2)
    subst ey
    refine ⟨_, rfl, wpAny_letOwnedTupleGo_enum (s := { s with heap := h', toks := tk + 1 }) ho fun h2 he2 sb => ?_⟩
    have hT2 : h2.get? s.heap.objs.size = some { cls := .type "tuple", data := .seq #[.int i tk, y] } := (sb.2 _ (Nat.ne_of_gt hel)).trans hT
    have new : ObjOk X.prog X.w (upd H s.heap.objs.size (.tup [.int (i : Nat), x])) h2 s.heap.objs.size (.tup [.int (i : Nat), x]) :=
      ⟨by show 2 ≤ sizeLine; decide, [.int i tk, y], .cons ⟨_, rfl⟩ (.cons ru .nil), ⟨_, hT2, rfl, _, rfl⟩⟩
    have I1 := I.turnedNew (h' := h2) (t' := tk + 1) (ch := [e, it]) (fun b ob hb q => (sb.2 b (fun z => hb (by rw [z]; exact List.mem_cons_self))).trans (hk b ob (fun z => hb (by rw [z]; exact List.mem_cons_self)) (fun z => hb (by rw [z]; exact List.mem_cons_of_mem _ List.mem_cons_self)) q)) hf (Nat.le_refl _) new
    refine ⟨.ref s.heap.objs.size, _, I1, rfl, ⟨_, x, rfl, I.hok.fresh (Nat.le_refl _), rfl, fun ys hy => by rw [I.tuple_inj hy hq]; exact hx⟩, ⟨⟨y, ?_⟩, st'.1.at fun o q => (sb.2 it (Ne.symm hne)).trans q, hne, hea, hai⟩, fun b hb => ?_⟩
    · have e1 : ((i + 1 : Nat) : Int) = (i : Int) + 1 := by omega
      rw [e1]; exact he2
    · have hlt : b < s.heap.objs.size := by
        rcases List.mem_cons.mp hb with z | z
        · rw [z]; exact hel
        · rw [List.mem_singleton.mp z]; exact hil
      rw [upd_ne (Nat.ne_of_lt hlt)]
      exact (hf b hb).1
  done := fun X hP hw hK hc i pins s σ H E I hf ⟨⟨old, he⟩, hit, hne, hea, hai⟩ hg => by
    subst hP hw hK
    obtain ⟨xs, hq, hx⟩ := hg
    obtain ⟨its, rv, p, hz⟩ := I.tuple hq
    obtain ⟨f0, f1, f2, f3, f4, f5⟩ := hf it (List.mem_cons_of_mem _ List.mem_cons_self)
    have hl := rv.length
    have hn : its.toArray[i]? = none := by rw [List.getElem?_toArray]; exact List.getElem?_eq_none (by omega)
    exact wpAny_pyNext_enum_endD (enum_at (A := X.A.in1) (I.ok.hd hc) (it := it) (a := a) (n := i) its.toArray hn) he ⟨hit, p, Nat.le_refl _⟩ fun h' eb => ⟨rfl, I.turned (t' := s.toks) (fun b ob hb q => eb b ob hb q) f0 f1 f3 f4 f5⟩
  self := fun A i s Q E ⟨⟨_, he⟩, _⟩ h => wpAny_pyIter_enum he h
theorem new_enumB {v : Value} {o : Obj} {G : Heap → Prop} (B : Begins v o G) :
    Meets (Builtin.«enumerate.__new__» ⟨[.type "enumerate", v], []⟩) (fun _ R s => G s.heap ∧
      R (.ok (.ret (.ref (s.heap.push o).objs.size))) { s with heap := (s.heap.push o).push { cls := .type "enumerate", data := .fields #[.none, .bool false, .ref s.heap.objs.size, rawInt 0, .none, .none] } }) :=
  .of_wp fun prog w A R s h => by
    obtain ⟨hp, g, d, tk, os⟩ := s; obtain ⟨h1, h⟩ := h
    have hsub := sub_enumerate
    have q1 : ∀ {A' : Around} {E : Value → Shared → Prop} {Q : Value → Shared → Prop}, Q (.ref hp.objs.size) ⟨hp.push o, g, d, tk, os⟩ → wpAny (model prog w) A' (pyIter v) Q E ⟨hp, g, d, tk, os⟩ :=
      fun q => B.iter prog w _ _ ⟨hp, g, d, tk, os⟩ _ h1 q
    wp_walk using q1
    refine wpAny_stack_any fun st => wpAny_pure ?_
    split
    · rename_i c _ _ _ _ _
      cases (c == Value.type "enumerate")
      all_goals wp_walk using q1
      all_goals exact ⟨_, rfl, h⟩
    · wp_walk using q1
      exact ⟨_, rfl, h⟩
section
variable {prog : Program} {w : World} {A : Around} {E : Value → Shared → Prop} {s : Shared}
theorem enum_made {v : Value} {o : Obj} {G : Heap → Prop} {Q : Value → Shared → Prop} (B : Begins v o G) (h1 : G s.heap)
    (h : ∀ h', IsEnum h' (s.heap.objs.size + 1) s.heap.objs.size 0 .none → h'.get? s.heap.objs.size = some o → h'.objs.size = s.heap.objs.size + 2 →
      (∀ b o, s.heap.get? b = some o → h'.get? b = some o) → Q (.ref (s.heap.objs.size + 1)) { s with heap := h' }) :
    wpAny (model prog w) A (call (.type "enumerate") [v]) Q E s := by
  refine callType_new F.called_enumerate (by decide) (F.typeCall_enumerate_1 _) (F.newCall_enumerate_1 _) (fun obj => F.args_object_init_2 obj _) F.entry_enumerate_new (new_enumB B) ⟨h1, ?_⟩
  have hz : (s.heap.push o).objs.size = s.heap.objs.size + 1 := Heap.size_push ..
  show _ ∧ _
  rw [hz]
  have he : IsEnum ((s.heap.push o).push { cls := .type "enumerate", data := .fields #[.none, .bool false, .ref s.heap.objs.size, rawInt 0, .none, .none] }) (s.heap.objs.size + 1) s.heap.objs.size 0 .none := by
    have := Heap.get?_push_size (s.heap.push o) (o := { cls := .type "enumerate", data := .fields #[.none, .bool false, .ref s.heap.objs.size, rawInt 0, .none, .none] }) rfl
    rw [hz] at this; exact this
  exact ⟨⟨_, he, rfl⟩, h _ he (Heap.get?_push_of_some _ (Heap.get?_push_size _ B.free)) (by rw [Heap.size_push, hz]) fun b o x => Heap.get?_push_of_some _ (Heap.get?_push_of_some _ x)⟩
end
def iEnumA (K : PySem.W.Frag) (ta : TA) : TI := fun σ H R => ta σ H fun vs H1 => ∃ a xs, vs = [.ref a] ∧ ((SqL K H1 a xs ∧ R (Ite K a) H1) ∨ (SqT K H1 a xs ∧ R (IteT K a) H1))
theorem pi_enumA {X : Cx} {e : Expr} {ta : TA} {p pos tpos : Pos} {elts : List Expr} {kk : Nat} (hg : Gl X "enumerate") (hm : X.mg "enumerate" = none) (ha : PA X [e] ta) (hs : starEach [e] X.env = [(false, eval e X.env)] := by rfl) :
    PI X (.Tuple elts kk tpos) (.Call (.Name "enumerate" p) [e] [] pos) (iEnumA X.K ta) := by
  refine ⟨fun pins s σ H R I h => ?_⟩
  refine PyProof.Rows.Call_ (ld_blt I hg hm PyProof.Rows.boot_enumerate (PyProof.Rows.callWith_type1 (thn (ha.run pos pins s σ H _ I h) fun us s1 ⟨vs, H1, I1, r1, q1⟩ => ?_) hs rfl))
  obtain ⟨a, xs, ex, q1⟩ := q1
  subst ex
  cases r1 with
  | cons r rr =>
    cases rr
    cases r
    have fr : ∀ b ∈ [s1.heap.objs.size + 1, s1.heap.objs.size], FpOk X pins H1 b := fun b hb => by
      have hle : s1.heap.objs.size ≤ b := by
        rcases List.mem_cons.mp hb with z | z
        · rw [z]; exact Nat.le_add_right _ _
        · rw [List.mem_singleton.mp z]; exact Nat.le_refl _
      exact I1.fpOk hle (I1.hok.fresh hle)
    rcases q1 with ⟨hq, q⟩ | ⟨hq, q⟩
    · obtain ⟨its, rv, p', hz⟩ := I1.list hq
      refine call_enumerate_list p'.isList fun h' he hit hsz hk => wpAny_pyIter_enum he ?_
      exact ⟨s1.heap.objs.size + 1, [s1.heap.objs.size + 1, s1.heap.objs.size], _, _, H1, rfl, I1.kept (t' := s1.toks) hk, turn_enum a (s1.heap.objs.size + 1) s1.heap.objs.size, ⟨⟨.none, he⟩, hit, Nat.succ_ne_self _⟩, fr, q⟩
    · obtain ⟨its, rv, p', hz⟩ := I1.tuple hq
      obtain ⟨o1, ho1, _⟩ := id p'
      have al : a < s1.heap.objs.size := Heap.lt_size ho1
      refine enum_made (begins_tuple a its.toArray) p' fun h' he hit hsz hk => wpAny_pyIter_enum he ?_
      exact ⟨s1.heap.objs.size + 1, [s1.heap.objs.size + 1, s1.heap.objs.size], _, _, H1, rfl, I1.kept (t' := s1.toks) hk, turn_enumT a (s1.heap.objs.size + 1) s1.heap.objs.size,
        ⟨⟨.none, he⟩, ⟨_, hit, rfl, rfl⟩, Nat.succ_ne_self _, Nat.ne_of_gt (Nat.lt_succ_of_lt al), Nat.ne_of_lt al⟩, fr, q⟩

/-! ### enumerate and zip as sources -/
def enumL : Nat → List PD → List PD
  | _, [] => []
  | i, d :: ds => .tuple [.int (i : Nat), d] :: enumL (i + 1) ds
theorem enumL_get : ∀ (ds : List PD) (i j : Nat), (enumL i ds)[j]? = (ds[j]?).map fun d => .tuple [.int ((i + j : Nat) : Int), d]
  | [], i, j => by simp [enumL]
  | d :: ds, i, 0 => by simp [enumL]
  | d :: ds, i, j + 1 => by
    rw [enumL, List.getElem?_cons_succ, enumL_get ds (i + 1) j, List.getElem?_cons_succ]
    congr 1; funext d; rw [show i + 1 + j = i + (j + 1) by omega]
theorem enumL_len : ∀ (ds : List PD) (i : Nat), (enumL i ds).length = ds.length
  | [], i => rfl
  | d :: ds, i => by rw [enumL, List.length_cons, List.length_cons, enumL_len]
def zipL : List PD → List PD → List PD
  | d :: ds, e :: es => .tuple [d, e] :: zipL ds es
  | _, _ => []
theorem zipL_eq (ds es : List PD) : zipL ds es = List.zipWith (fun d e => .tuple [d, e]) ds es := by
  induction ds generalizing es with
  | nil => cases es <;> rfl
  | cons d ds ih => cases es with
    | nil => rfl
    | cons e es => rw [zipL, List.zipWith_cons_cons, ih]
section
variable {K : PySem.W.Frag} {G : Hp} {a b : Addr} {vs ws : List V} {ds es : List PD}
theorem wo_upd_new {H : Hp} {O : Addr → Prop} {T : Addr} {u : HO} (hO : ¬ O T) : wo (upd H T u) O = upd (wo H O) T u := by
  funext q
  by_cases e : q = T
  · subst e; unfold wo; rw [if_neg hO, upd_same, upd_same]
  · rw [upd_ne e]; unfold wo; rw [upd_ne e]
theorem wk_enum {R : It} (hgo : ∀ i H, Same G H → i < ds.length → R.go i H) (hst : ∀ i H, Same G H → ds.length ≤ i → R.stop i H)
    (hy : ∀ i H x H', Same G H → R.yld i H x H' → ∃ T y, x = .ref T ∧ H T = none ∧ H' = upd H T (.tup [.int (i : Nat), y]) ∧ vs[i]? = some y) (h2 : DqAll K G vs ds) : Wk K R (enumL 0 ds) G where
  go := fun i H e hi => hgo i H e (by rw [enumL_len] at hi; exact hi)
  stop := fun i H e hi => hst i H e (by rw [enumL_len] at hi; exact hi)
  yld := fun i H x H' e q => by
    obtain ⟨T, y, rfl, hT, rfl, hv⟩ := hy i H x H' e q
    refine ⟨Same.updNew hT, fun d hd O eo nO => ?_⟩
    obtain ⟨d', k1, k2⟩ := h2.getV hv
    rw [enumL_get, k1] at hd
    simp only [Option.map_some, Nat.zero_add, Option.some.injEq] at hd
    subst hd
    have hO := nO T hT
    rw [wo_upd_new hO]
    have hn : wo H O T = none := by unfold wo; rw [if_neg hO]; exact hT
    exact .tup (.inl (.inl upd_same)) (.cons (.int _) (.cons ((k2.mono eo).mono (Same.updNew hn)) .nil))
end
section
variable {X : Cx} {W : WX} {e a b : Expr} {f g : En → R PD} {pos p tpos : Pos} {elts : List Expr} {kk : Nat}
def iEnm (f : En → R PD) : En → R (List PD) := fun ρ => (f ρ).bind fun d => (itD d).bind fun ds => .ok (enumL 0 ds)
theorem di_enum (hg : Gl X "enumerate") (hm : X.mg "enumerate" = none) (h : DE X W e f) (h1 : starEach [e] X.env = (false, eval e X.env) :: starEach [] X.env := by rfl) (hs : starEach [e] X.env = [(false, eval e X.env)] := by rfl) :
    DI X W (.Tuple elts kk tpos) (.Call (.Name "enumerate" p) [e] [] pos) (iEnm f) := by
  obtain ⟨t, pt, qt⟩ := h.ex
  refine ⟨_, pi_enumA hg hm (pa_cons pt pa_nil h1) hs, fun H0 O0 O ρ σ H Rr rl o => ?_⟩
  refine qt H0 O0 O ρ σ H _ rl (o.bind.imp fun d H1 e1 o1 v hv => ?_)
  cases hv with
  | lst k1 k2 =>
    rename_i b vs ds
    exact ⟨b, vs, rfl, .inl ⟨.inl (rd_mono wo_self k1), o1 H1 (Same.refl H1) _ (wk_enum (fun i H e hi => ⟨vs, vs[i]'(by rw [k2.length]; exact hi), e.seq (.inl k1), List.getElem?_eq_getElem _⟩)
      (fun i H e hi => ⟨vs, e.seq (.inl k1), by rw [k2.length]; exact hi⟩) (fun i H x H' e ⟨T, y, ex, hT, eH, q⟩ => ⟨T, y, ex, hT, eH, q vs (e.seq (.inl k1))⟩) k2)⟩⟩
  | tup k1 k2 =>
    rename_i b vs ds
    exact ⟨b, vs, rfl, .inr ⟨Same.seqT wo_self k1, o1 H1 (Same.refl H1) _ (wk_enum (fun i H e hi => ⟨vs, vs[i]'(by rw [k2.length]; exact hi), Same.seqT e k1, List.getElem?_eq_getElem _⟩)
      (fun i H e hi => ⟨vs, Same.seqT e k1, by rw [k2.length]; exact hi⟩) (fun i H x H' e ⟨T, y, ex, hT, eH, q⟩ => ⟨T, y, ex, hT, eH, q vs (Same.seqT e k1)⟩) k2)⟩⟩
  | _ => exact o1.elim
end
end DL
namespace DL
open PySem PySem.Spec L2

/-! ### -e -/
def negD (d : PD) : R PD := match d with
  | .int i => .ok (.int (-i))
  | _ => .bad
theorem und_neg {X : Cx} : UnD X (unaryOp .USub) negD :=
  ⟨_, un_neg, fun W O σ H x d Q nf hd o => by
    cases d with
    | int i => cases hd.sc_int; exact ⟨i, rfl, o H (Same.refl H) _ (.int _)⟩
    | _ => exact o.elim⟩

section
variable {X : Cx} {W : WX} {k n : Nat} {f : Addr} {fd : FuncData} {ps : List Str} {F : List PD → R PD} {x : Str} {p pos : Pos} {e : Expr} {es : List Expr} {g : En → R (List PD)}
theorem de_cl (G : FnD X.prog X.w X.K X.mg X.base k f fd ps F) (hr : Room k X.A) (hg : Gl X x) (hm : X.mg x = some (.ref f)) (hk : PySem.W.keepIn X.K (.ref f) = true) (hb : Binds X.K fd ps []) (tk : Takes X W)
    (ha : DC X W (e :: es) g) (hn : ps.length = n := by rfl) (hdb : (x == ("__debug__" : Str)) = false := by decide) (he : starEach (e :: es) X.env = (false, eval e X.env) :: starEach es X.env := by rfl) (hpl : (backTo pos (starEach es X.env)).any (·.1) = false := by rfl) :
    DE X W (.Call (.Name x p) (e :: es) [] pos) (cCall n F g) := hn ▸ de_call G hr hg hm hk hb tk ha hdb he hpl
end
/-- a constant of the module -/
theorem pe_mc {X : Cx} {x : Str} {pos : Pos} {v : V} (hg : Gl X x) (h : ∃ u, X.mg x = some u ∧ RelV v u) (hd : (x == ("__debug__" : Str)) = false := by decide) : PE X (.Name x pos) (tC v) :=
  let ⟨_, e, r⟩ := h
  pe_glob hg e r hd

/-! ### methods of lists that leave them as they are -/
def MtL (X : Cx) (id : String) (F : List PD → List PD → R PD) : Prop :=
  ∃ r, MtR X id r ∧ ∀ W O σ H a vs ds xs es Q, (∀ p, H p = none → ¬ O p) → Rd H a (.lst vs) → Dq X.K H (.ref a) (.list ds) → DqAll X.K (wo H O) vs ds → DqAll X.K (wo H O) xs es → OutP X W O σ H (F ds es) (fun d H' => ∀ v, Dq X.K (wo H' O) v d → Q v H') → r (.ref a) xs H Q
def cMt (F : List PD → List PD → R PD) (f : En → R PD) (g : En → R (List PD)) : En → R PD := fun ρ => (f ρ).bind fun d => match d with
  | .list ds => (g ρ).bind fun es => F ds es
  | _ => .bad
theorem wo_wo {H : Hp} {O : Addr → Prop} : Same (wo H O) H := wo_self
section
variable {X : Cx} {W : WX} {o e : Expr} {es : List Expr} {f : En → R PD} {g : En → R (List PD)} {F : List PD → List PD → R PD} {name : Str} {apos cpos : Pos} {id : String}
theorem de_lm (slot : Slot "list" name id) (hty : typeOf (.builtin id) = pure (.type "method_descriptor")) (hm : MtL X id F) (ho : DV X W o f) (ha : DC X W (e :: es) g)
    (hbase : attributeBase o name X.env (eval o X.env) = eval o X.env := by rfl)
    (hfew : ((backTo cpos (starEach (e :: es) X.env)).all (fun x => !x.1) &&
        (backToKw cpos (keywordEach [] X.env)).all (fun x => x.1.isSome) && decide ((e :: es).length + ([] : List Keyword).length + (if ([] : List Keyword).isEmpty then 0 else 1) < 30)) = true := by rfl)
    (hline : (apos.endLine == cpos.line) = true := by rfl) (hs : starEach (e :: es) X.env = (false, eval e X.env) :: starEach es X.env := by rfl) (hplain : (backTo cpos (starEach es X.env)).any (·.1) = false := by rfl) :
    DE X W (.Call (.Attribute o name apos) (e :: es) [] cpos) (cMt F f g) := by
  obtain ⟨t, pt, qt⟩ := ho.ex
  obtain ⟨u, pu, qu⟩ := ha.ex
  obtain ⟨r, hr, hF⟩ := hm
  refine ⟨_, pe_bm PySem.F.plainAttrs_list slot hty hr pt pu hbase hfew hline hs hplain, fun H0 O0 O ρ σ H Q rl o => ?_⟩
  refine qt H0 O0 O ρ σ H _ rl (o.bind.imp fun d H1 e1 o1 v hv => ?_)
  cases d with
  | list ds =>
    obtain ⟨a, vs, rfl, k1, k2⟩ := hv.list
    refine ⟨.inl ⟨rfl, vs, .inl k1⟩, ?_⟩
    refine qu H0 O0 O ρ σ H1 _ (rl.grow e1) (o1.bind.imp fun es H2 e2 o2 xs hx => ?_)
    have k1' := rd_mono e2 k1
    have r2 := (rl.grow e1).grow e2
    exact hF W O σ H2 a vs ds xs es Q (fun p n => r2.fresh n) k1' (hv.mono e2).dp (k2.mono (same_wo e2)) hx o2
  | _ => exact o1.elim
end
def findI (d : PD) : List PD → Option Nat
  | [] => none
  | x :: xs => if PyData.eqv x d = true then some 0 else (findI d xs).map (· + 1)
theorem findI_some : ∀ (d : PD) (ds : List PD) (j : Nat), findI d ds = some j → ∃ z, ds[j]? = some z ∧ PyData.eqv z d = true ∧ ∀ (m : Nat) (z' : PyData), m < j → ds[m]? = some z' → PyData.eqv z' d = false
  | d, [], j, h => by cases h
  | d, x :: xs, j, h => by
    unfold findI at h
    by_cases e : PyData.eqv x d = true
    · rw [if_pos e] at h; cases h
      exact ⟨x, rfl, e, fun m z' hm => absurd hm (Nat.not_lt_zero _)⟩
    · rw [if_neg e] at h
      cases q : findI d xs with
      | none => rw [q] at h; cases h
      | some i =>
        rw [q] at h; cases h
        obtain ⟨z, h1, h2, h3⟩ := findI_some d xs i q
        refine ⟨z, by simpa using h1, h2, fun m z' hm hz => ?_⟩
        cases m with
        | zero =>
          simp only [List.getElem?_cons_zero, Option.some.injEq] at hz
          subst hz; simpa using e
        | succ m => exact h3 m z' (Nat.lt_of_succ_lt_succ hm) (by simpa using hz)
def indexD (ds es : List PD) : R PD := match es with
  | [d] => chk (SeqAt.shaped (.list ds) && SeqAt.shaped d) (match findI d ds with | some j => .ok (.int (j : Nat)) | none => .bad)
  | _ => .bad
theorem ml_index {X : Cx} (hu : Deep X) : MtL X "list.index" indexD :=
  ⟨_, mt_indexD (Nat.lt_of_le_of_lt (by omega) hu), fun W O σ H a vs ds xs es Q nf k1 kd k2 hx o => by
    unfold indexD at o
    cases hx with
    | cons r t =>
      cases t with
      | cons _ _ => exact o.elim
      | nil =>
        rename_i y d
        obtain ⟨c, o⟩ := OutP.chk o
        rw [Bool.and_eq_true] at c
        cases q : findI d ds with
        | none => rw [q] at o; exact o.elim
        | some j =>
          rw [q] at o
          obtain ⟨z, h1, h2, h3⟩ := findI_some d ds j q
          exact ⟨a, y, d, ds, j, z, rfl, rfl, kd.dp, (r.mono wo_self).dp, c.1, c.2, h1, h2, h3, o H (Same.refl H) _ (.int _)⟩
    | nil => exact o.elim⟩

/-! ### the script -/
def cScr (i : Nat) (n : Int) : En → R (List PD) := fun ρ => match ρ[i]? with
  | some (.sc ns) => .ok (cutL (ns.map PyData.int) none (some n))
  | _ => .bad
theorem cut_map {α β : Type} (f : α → β) (xs : List α) (a b : Option Int) : cutL (xs.map f) a b = (cutL xs a b).map f := by
  unfold cutL
  rw [List.map_take, List.map_drop, List.length_map]
theorem ints_all {K : PySem.W.Frag} {H : Hp} : ∀ ns : List Int, DqAll K H (ns.map V.int) (ns.map PyData.int)
  | [] => .nil
  | _ :: r => .cons (.int _) (ints_all r)
section
variable {X : Cx} {W : WX} {a : Expr} {i : Nat} {n : Int} {j : Nat} {pos p2 p3 : Pos}
theorem df_scr (hx : PE X a (tVar i)) : DF X W (.Subscript a (.Slice none (some (.Constant (.int n) j p3)) none p2) pos) (cScr i n) := by
  refine ⟨_, pe_slice sl_list hx po_none (po_some pe_int), fun H0 O0 O ρ σ H Q rl o => ?_⟩
  unfold cScr at o
  cases q : ρ[i]? with
  | none => rw [q] at o; exact o.elim
  | some s =>
    rw [q] at o
    cases s with
    | sc ns =>
      obtain ⟨b, e1, e2⟩ := rl.sl i _ q
      refine ⟨_, e1, n, rfl, b, ns.map V.int, rfl, Same.seq wo_self e2, fun p np => o H (Same.refl H) p _ _ np ?_ rfl⟩
      unfold cutV
      have := ints_all (K := X.K) (H := wo H O) (cutL ns none (some n))
      rw [cut_map] 
      unfold cutL at this ⊢
      rwa [List.length_map, ← List.map_drop, ← List.map_take]
    | _ => exact o.elim
end
/-- a def whose first argument is the script -/
def spScr (K : PySem.W.Frag) (F : List Int → Int → R PD) : Sp := fun vs H Q E => ∃ O a ns m, (∀ p, O p → H p ≠ none) ∧ vs = [.ref a, .int m] ∧ SqL K (wo H O) a (ns.map V.int) ∧
  match F ns m with
  | .ok d => ∀ v H', Same H H' → Dq K (wo H' O) v d → Q v H'
  | _ => False
def spLaw (K : PySem.W.Frag) (F : List Int → R PD) : Sp := fun vs H Q E => ∃ a ns, vs = [.ref a] ∧ SqL K H a (ns.map V.int) ∧
  match F ns with
  | .ok d => ∀ v H', Same H H' → Dq K H' v d → Q v H'
  | _ => False
theorem wo_noO {H : Hp} : (wo H fun _ => False) = H := by funext b; unfold wo; rw [if_neg (fun h => h)]
theorem scr_rel {K : PySem.W.Frag} {H : Hp} {O : Addr → Prop} {a : Addr} {ns : List Int} {vs : List V} {ds : List PD} {N : List Str} (al : ∀ p, O p → H p ≠ none) (h : SqL K (wo H O) a (ns.map V.int)) (hd : DqAll K (wo H O) vs ds) :
    Rel K H O O H (.sc ns :: (ds.map Sl.va ++ List.replicate (N.length - (ds.length + 1)) .un)) (L2.start N (.ref a :: vs)) := by
  have hl := hd.length
  refine ⟨Same.refl H, fun _ z => z, fun _ z => .inl z, al, by simp [L2.start, hl], fun i s q => ?_, fun i j s s' p hij q q' n1 n2 _ => ?_⟩
  · cases i with
    | zero => cases q; exact ⟨a, rfl, h⟩
    | succ i =>
      rw [List.getElem?_cons_succ] at q
      by_cases hi : i < ds.length
      · rw [List.getElem?_append_left (by simpa using hi), List.getElem?_map] at q
        cases hq : ds[i]? with
        | none => rw [hq] at q; cases q
        | some d =>
          rw [hq] at q; cases q
          obtain ⟨v, h1, h2⟩ := hd.get hq
          refine ⟨v, ?_, h2⟩
          unfold L2.start
          rw [List.map_cons, List.cons_append, List.getElem?_cons_succ, List.getElem?_append_left (by simpa [hl] using hi), List.getElem?_map, h1]
          rfl
      · rw [List.getElem?_append_right (by simpa using hi), List.getElem?_replicate] at q
        split at q
        · cases q; trivial
        · cases q
  · exfalso
    have own : ∀ (i : Nat) (s : Sl), (Sl.sc ns :: (ds.map Sl.va ++ List.replicate (N.length - (ds.length + 1)) .un))[i]? = some s → Sl.own s = false := fun i s q => by
      cases i with
      | zero => cases q; rfl
      | succ i =>
        rw [List.getElem?_cons_succ] at q
        have m := List.mem_of_getElem? q
        rcases List.mem_append.mp m with m | m
        · obtain ⟨d, _, rfl⟩ := List.mem_map.mp m; rfl
        · rw [(List.mem_replicate.mp m).2]; rfl
    rw [own i s q] at n1
    cases n1
section
variable {P : Program} {w : World} {K : PySem.W.Frag} {mg : Str → Option Value} {base : Heap}
theorem fnScr_of {x qual : Str} {st : Stmt} {f : Addr} {fd : FuncData} {N ps : List Str} {k : Nat} {g : En → Fl} (F : Fun K x qual st f fd) (S : FnScope N ps (defScope st)) (hps : ps.length = 2)
    (hbody : ∀ (cdv : Value) (A : Around) (outer : List PySem.Env) (s : Shared) (H : Hp) (E : XK), Room k (A.deeper (PyProof.Rows.envOfC qual (defScope st) s.heap.objs.size f cdv)) →
      DSs (cxOf (L2.CX P w) P w K mg base N qual (defScope st) f cdv A outer s H E) (WofE E) (defBody st) g) :
    FnOk P w K mg base (L2.CX P w) (k + 1) f fd ps (spScr K fun ns m => fin (g (.sc ns :: .va (.int m) :: List.replicate (N.length - 2) .un))) := by
  refine F.okX S (fun vs H Q E h => ?_) (fun cdv A outer s H vs Q E hr h => ?_)
  · obtain ⟨_, _, _, _, _, rfl, _⟩ := h; exact hps.symm
  · obtain ⟨O, a, ns, m, al, rfl, hS, o⟩ := h
    obtain ⟨t, pt, qt⟩ := (hbody cdv A outer s H E hr).ex
    refine ⟨t, pt, qt H O O _ _ H _ (scr_rel (vs := [.int m]) (ds := [.int m]) al hS (.one (.int m))) ?_⟩
    show OutS K mg (WofE E) H O _ (g (.sc ns :: .va (.int m) :: List.replicate (N.length - 2) .un))
    have o : (match fin (g (.sc ns :: .va (.int m) :: List.replicate (N.length - 2) .un)) with
      | .ok d => ∀ v H', Same H H' → Dq K (wo H' O) v d → Q v H'
      | _ => False) := o
    cases q : g (.sc ns :: .va (.int m) :: List.replicate (N.length - 2) .un) with
    | nx ρ => rw [q] at o; exact fun O' H' σ' r => o .non H' r.fr .non
    | rt d => rw [q] at o; exact fun v H' e hv => o v H' e hv
    | bk ρ => rw [q] at o; exact o.elim
    | ct ρ => rw [q] at o; exact o.elim
    | ex c pl ρ => rw [q] at o; exact o.elim
    | bad => rw [q] at o; exact o.elim
theorem fnLaw_of {x qual : Str} {st : Stmt} {f : Addr} {fd : FuncData} {N ps : List Str} {k : Nat} {g : En → Fl} (F : Fun K x qual st f fd) (S : FnScope N ps (defScope st)) (hps : ps.length = 1)
    (hbody : ∀ (cdv : Value) (A : Around) (outer : List PySem.Env) (s : Shared) (H : Hp) (E : XK), Room k (A.deeper (PyProof.Rows.envOfC qual (defScope st) s.heap.objs.size f cdv)) →
      DSs (cxOf (L2.CX P w) P w K mg base N qual (defScope st) f cdv A outer s H E) (WofE E) (defBody st) g) :
    FnOk P w K mg base (L2.CX P w) (k + 1) f fd ps (spLaw K fun ns => fin (g (.sc ns :: List.replicate (N.length - 1) .un))) := by
  refine F.okX S (fun vs H Q E h => ?_) (fun cdv A outer s H vs Q E hr h => ?_)
  · obtain ⟨_, _, rfl, _⟩ := h; exact hps.symm
  · obtain ⟨a, ns, rfl, hS, o⟩ := h
    obtain ⟨t, pt, qt⟩ := (hbody cdv A outer s H E hr).ex
    have hS' : SqL K (wo H fun _ => False) a (ns.map V.int) := by rw [wo_noO]; exact hS
    refine ⟨t, pt, qt H _ _ _ _ H _ (scr_rel (vs := []) (ds := []) (fun p z => z.elim) hS' .nil) ?_⟩
    show OutS K mg (WofE E) H (fun _ => False) _ (g (.sc ns :: List.replicate (N.length - 1) .un))
    have o : (match fin (g (.sc ns :: List.replicate (N.length - 1) .un)) with
      | .ok d => ∀ v H', Same H H' → Dq K H' v d → Q v H'
      | _ => False) := o
    cases q : g (.sc ns :: List.replicate (N.length - 1) .un) with
    | nx ρ => rw [q] at o; exact fun O' H' σ' r => o .non H' r.fr .non
    | rt d => rw [q] at o; exact fun v H' e hv => o v H' e (by rwa [wo_noO] at hv)
    | bk ρ => rw [q] at o; exact o.elim
    | ct ρ => rw [q] at o; exact o.elim
    | ex c pl ρ => rw [q] at o; exact o.elim
    | bad => rw [q] at o; exact o.elim
end
def cDr (F : List Int → Int → R PD) (i : Nat) (m : Int) : En → R PD := fun ρ => match ρ[i]? with
  | some (.sc ns) => match F ns m with
    | .ok d => .ok d
    | _ => .bad
  | _ => .bad
section
variable {X : Cx} {W : WX} {k : Nat} {f : Addr} {fd : FuncData} {ps : List Str} {F : List Int → Int → R PD} {x : Str} {p p2 pos : Pos} {a : Expr} {i j : Nat} {m : Int}
theorem de_dr (G : FnOk X.prog X.w X.K X.mg X.base (L2.CX X.prog X.w) k f fd ps (spScr X.K F)) (hr : Room k X.A) (hg : Gl X x) (hm : X.mg x = some (.ref f)) (hk : PySem.W.keepIn X.K (.ref f) = true) (hb : Binds X.K fd ps []) (tk : Takes X W)
    (hx : PE X a (tVar i)) (hdb : (x == ("__debug__" : Str)) = false := by decide) (he : starEach [a, .Constant (.int m) j p2] X.env = (false, eval a X.env) :: starEach [.Constant (.int m) j p2] X.env := by rfl)
    (he2 : starEach [.Constant (.int m) j p2] X.env = (false, eval (.Constant (.int m) j p2) X.env) :: starEach [] X.env := by rfl) (hpl : (backTo pos (starEach [.Constant (.int m) j p2] X.env)).any (·.1) = false := by rfl) :
    DE X W (.Call (.Name x p) [a, .Constant (.int m) j p2] [] pos) (cDr F i m) := by
  refine ⟨_, pe_callS (E := WE W) G hr hg hm hk hb (fun σ => passAt tk σ) (pa_cons hx (pa_cons pe_int pa_nil he2) he) hdb he hpl, fun H0 O0 O ρ σ H Q rl o => ?_⟩
  unfold cDr at o
  cases q : ρ[i]? with
  | none => rw [q] at o; exact o.elim
  | some s =>
    rw [q] at o
    cases s with
    | sc ns =>
      obtain ⟨b, e1, e2⟩ := rl.sl i _ q
      refine ⟨_, e1, O, b, ns, m, rl.al, rfl, e2, ?_⟩
      cases r : F ns m with
      | ok d => simp only [r] at o; exact fun v H' e' hd => o H' e' v hd
      | ex c pl => simp only [r] at o; exact o.elim
      | bad => simp only [r] at o; exact o.elim
    | _ => exact o.elim
end

/-! ### the law's own end -/
theorem exm_by {K : PySem.W.Frag} {t : Value} {S : Addr} {b : Bool} (h1 : PySem.W.subIn K (.ref S) (.type "BaseException") = some true) (h2 : PySem.W.isClsIn K S = true) (h3 : PySem.W.typeIn K (.ref S) = some (.type "type")) (h4 : PySem.W.subIn K t (.ref S) = some b) :
    PySem.W.exmOne K t (.ref S) = some b := by
  have e2 : (PySem.W.clsIn K S).isSome = true := h2
  unfold PySem.W.exmOne PySem.W.kitCls
  rw [h1, if_pos (beq_self_eq_true _)]
  simp only [e2, h3, Bool.true_and, beq_self_eq_true, if_true]
  exact h4
theorem apart_go {K : PySem.W.Frag} {mg : Str → Option Value} {c c' : Str} {C C' D D' : Addr} (g : mg c = some (.ref C)) (g' : mg c' = some (.ref C')) (h : mg c = some (.ref D)) (h' : mg c' = some (.ref D')) (e : PySem.W.exmOne K (.ref C) (.ref C') = some (c == c')) : PySem.W.exmOne K (.ref D) (.ref D') = some (c == c') := by
  cases g.symm.trans h
  cases g'.symm.trans h'
  exact e
theorem walk_law {l : PySem.W.OpenLaw} {k : Nat} {q : Program} {loose : List Str} {XP : (Str → Option Value) → Heap → Prop} {YP : World → Heap → Prop} {d : DefRec} {K : Params → PySem.W.Frag} {F : List Int → R PD} (hn : l.most = some 63) (hdf : d.params.defaults = []) (hr : Room k callerA)
    (hY : ∀ (w : World) (h : Heap), YP w h → (K w.params).In h) (hF : ∀ ns : List Int, ns.length ≤ 63 → F ns = .ok (.bool true))
    (Fk : ∀ (w : World) (mg : Str → Option Value) (fa : Addr) (h : Heap), (K w.params).In h → h.Ns mainGlobals mg → mg d.name = some (.ref fa) →
      ∃ fd : FuncData, (∀ (s : Shared) (u : Value), BindsTo s fd ⟨[u], []⟩ [("script", u)]) ∧ ∀ base : Heap, (K w.params).In base → base.Ns mainGlobals mg → FnOk l.prog w (K w.params) mg base (L2.CX l.prog w) k fa fd ["script"] (spLaw (K w.params) F)) :
    PySem.W.WalkO q loose XP YP l.row.toRowW d [] (fun f vs => PySem.call f vs) :=
  L2.walk_of (n := 63) (k := k) (x := "script") (CX := fun w => L2.CX l.prog w) (sp := fun w => spLaw (K w.params) F) hn (by decide) hdf hr hY Fk (fun w H a ns hl _ hS => ⟨a, ns, rfl, hS, by rw [hF ns hl]; exact fun v H' e hv => hv.sc_bl⟩)
    fun w H s e s' h => by obtain ⟨_, _, _, _, _, _, _, _, _, _, _, _, z⟩ := h; exact z
end DL
namespace DL
open PySem PySem.Spec L2

/-! ### constants of the module, tuples too -/
def McD (K : PySem.W.Frag) (mg : Str → Option Value) (x : Str) (d : PD) : Prop := ∃ v u, mg x = some u ∧ RelV v u ∧ ∀ H, Dq K H v d
section
variable {X : Cx} {W : WX} {x : Str} {d : PD} {pos : Pos}
theorem de_mc (h : McD X.K X.mg x d) (hg : Gl X x) (hd : (x == ("__debug__" : Str)) = false := by decide) : DE X W (.Name x pos) (cK d) := by
  obtain ⟨v, u, e, r, q⟩ := h
  exact ⟨_, pe_glob hg e r hd, fun H0 O0 O ρ σ H Q rl o => o H (Same.refl H) v (q _)⟩
end
section
variable {K : PySem.W.Frag} {mg : Str → Option Value} {x : Str}
theorem mc_int {n : Int} {t : Tok} (h : mg x = some (.int n t)) : McD K mg x (.int n) := ⟨.int n, _, h, ⟨_, rfl⟩, fun H => .int n⟩
theorem mc_str {n : Str} {t : Tok} (h : mg x = some (.str n t)) : McD K mg x (.str n) := ⟨.str n, _, h, ⟨_, rfl⟩, fun H => .str n⟩
/-- flat items -/
inductive FlatAre : List Value → List PD → Prop
  | nil : FlatAre [] []
  | int {n : Int} {t : Tok} {us : List Value} {ds : List PD} (r : FlatAre us ds) : FlatAre (.int n t :: us) (.int n :: ds)
  | str {n : Str} {t : Tok} {us : List Value} {ds : List PD} (r : FlatAre us ds) : FlatAre (.str n t :: us) (.str n :: ds)
theorem FlatAre.vals {H : Hp} : ∀ {us : List Value} {ds : List PD}, FlatAre us ds → ∃ vs, Vals vs us ∧ DqAll K H vs ds
  | _, _, .nil => ⟨[], .nil, .nil⟩
  | _, _, .int (n := n) r => let ⟨vs, a, b⟩ := FlatAre.vals (H := H) r; ⟨.int n :: vs, .cons ⟨_, rfl⟩ a, .cons (.int _) b⟩
  | _, _, .str (n := n) r => let ⟨vs, a, b⟩ := FlatAre.vals (H := H) r; ⟨.str n :: vs, .cons ⟨_, rfl⟩ a, .cons (.str _) b⟩
theorem mc_tup {a : Addr} {od : Option Addr} {us : Array Value} {n : Nat} {sl : Array (Option Value)} {ds : List PD} (h : mg x = some (.ref a)) (l : K.lookup a = some ⟨.type "tuple", od, .seq us n, sl⟩) (hf : FlatAre us.toList ds) (hs : us.size ≤ sizeLine) : McD K mg x (.tuple ds) :=
  ⟨.ref a, _, h, rfl, fun H => by
    obtain ⟨vs, v1, v2⟩ := hf.vals (K := K) (H := H)
    exact .tup (.inr ⟨_, us, n, l, rfl, rfl, hs, v1⟩) v2⟩
end

/-! ### zip -/
theorem zipL_get : ∀ (ds es : List PD) (j : Nat) (d : PD), (zipL ds es)[j]? = some d → ∃ a b, ds[j]? = some a ∧ es[j]? = some b ∧ d = .tuple [a, b]
  | [], es, j, d, h => by simp [zipL] at h
  | _ :: _, [], j, d, h => by simp [zipL] at h
  | a :: ds, b :: es, 0, d, h => by simp [zipL] at h; exact ⟨a, b, rfl, rfl, h.symm⟩
  | a :: ds, b :: es, j + 1, d, h => by simp [zipL] at h; simpa using zipL_get ds es j d h
theorem zipL_len : ∀ (ds es : List PD), (zipL ds es).length = min ds.length es.length
  | [], es => by simp [zipL]
  | _ :: _, [] => by simp [zipL]
  | a :: ds, b :: es => by simp [zipL, zipL_len ds es]
section
variable {K : PySem.W.Frag} {G : Hp} {a b : Addr} {vs ws : List V} {ds es : List PD}
theorem wk_zip {R : It} (h1 : DqAll K G vs ds) (h2 : DqAll K G ws es) (hgo : ∀ i H, Same G H → i < ds.length → i < es.length → R.go i H) (hst : ∀ i H, Same G H → (ds.length ≤ i ∨ es.length ≤ i) → R.stop i H)
    (hy : ∀ i H x H', Same G H → R.yld i H x H' → ∃ T y z, x = .ref T ∧ H T = none ∧ H' = upd H T (.tup [y, z]) ∧ vs[i]? = some y ∧ ws[i]? = some z) : Wk K R (zipL ds es) G where
  go := fun i H e hi => by rw [zipL_len] at hi; exact hgo i H e (by omega) (by omega)
  stop := fun i H e hi => by rw [zipL_len] at hi; exact hst i H e (by omega)
  yld := fun i H x H' e q => by
    obtain ⟨T, y, z, rfl, hT, rfl, hv, hw⟩ := hy i H x H' e q
    refine ⟨Same.updNew hT, fun d hd O eo nO => ?_⟩
    obtain ⟨d1, d2, k1, k2, rfl⟩ := zipL_get _ _ _ _ hd
    obtain ⟨e1, l1, l2⟩ := h1.getV hv
    obtain ⟨e2, m1, m2⟩ := h2.getV hw
    rw [k1] at l1; cases l1
    rw [k2] at m1; cases m1
    have hO := nO T hT
    rw [wo_upd_new hO]
    have hn : wo H O T = none := by unfold wo; rw [if_neg hO]; exact hT
    exact .tup (.inl (.inl upd_same)) (.cons ((l2.mono eo).mono (Same.updNew hn)) (.cons ((m2.mono eo).mono (Same.updNew hn)) .nil))
end
def zpD (d e : PD) : R (List PD) := match d, e with
  | .list ds, .list es => .ok (zipL ds es)
  | .tuple ds, .tuple es => .ok (zipL ds es)
  | _, _ => .bad
def iZp (f g : En → R PD) : En → R (List PD) := fun ρ => (f ρ).bind fun d => (g ρ).bind fun e => zpD d e
section
variable {X : Cx} {W : WX} {e e2 : Expr} {f g : En → R PD} {pos p tpos : Pos} {elts : List Expr} {kk : Nat}
theorem di_zip (hg : Gl X "zip") (hm : X.mg "zip" = none) (h : DE X W e f) (h' : DE X W e2 g) (h1 : starEach [e, e2] X.env = (false, eval e X.env) :: starEach [e2] X.env := by rfl) (h2 : starEach [e2] X.env = (false, eval e2 X.env) :: starEach [] X.env := by rfl) (hpl : (backTo pos (starEach [e2] X.env)).any (·.1) = false := by rfl) :
    DI X W (.Tuple elts kk tpos) (.Call (.Name "zip" p) [e, e2] [] pos) (iZp f g) := by
  obtain ⟨t, pt, qt⟩ := h.ex
  obtain ⟨u, pu, qu⟩ := h'.ex
  refine ⟨_, RZ.pi_zipA hg hm (pa_cons pt (pa_cons pu pa_nil h2) h1) h1 hpl, fun H0 O0 O ρ σ H Rr rl o => ?_⟩
  refine qt H0 O0 O ρ σ H _ rl (o.bind.imp fun d H1 e1 o1 v hv => ?_)
  refine qu H0 O0 O ρ σ H1 _ (rl.grow e1) (o1.bind.imp fun d' H2 e2 o2 v' hv' => ?_)
  have hv := hv.mono (same_wo e2)
  cases hv with
  | lst k1 k2 =>
    cases hv' with
    | lst m1 m2 =>
      rename_i b1 vs ds b2 ws es
      exact ⟨b1, b2, vs, ws, rfl, .inl ⟨.inl (rd_mono wo_self k1), .inl (rd_mono wo_self m1), o2 H2 (Same.refl H2) _ (wk_zip k2 m2 (fun i H e hi hj => ⟨vs, ws, vs[i]'(by rw [k2.length]; exact hi), ws[i]'(by rw [m2.length]; exact hj), e.seq (.inl k1), e.seq (.inl m1), List.getElem?_eq_getElem _, List.getElem?_eq_getElem _⟩)
        (fun i H e hi => ⟨vs, ws, e.seq (.inl k1), e.seq (.inl m1), by rw [k2.length, m2.length]; exact hi⟩) (fun i H x H' e ⟨T, y, z, ex, hT, eH, q1, q2⟩ => ⟨T, y, z, ex, hT, eH, q1 vs (e.seq (.inl k1)), q2 ws (e.seq (.inl m1))⟩))⟩⟩
    | _ => exact o2.elim
  | tup k1 k2 =>
    cases hv' with
    | tup m1 m2 =>
      rename_i b1 vs ds b2 ws es
      exact ⟨b1, b2, vs, ws, rfl, .inr ⟨Same.seqT wo_self k1, Same.seqT wo_self m1, o2 H2 (Same.refl H2) _ (wk_zip k2 m2 (fun i H e hi hj => ⟨vs, ws, vs[i]'(by rw [k2.length]; exact hi), ws[i]'(by rw [m2.length]; exact hj), Same.seqT e k1, Same.seqT e m1, List.getElem?_eq_getElem _, List.getElem?_eq_getElem _⟩)
        (fun i H e hi => ⟨vs, ws, Same.seqT e k1, Same.seqT e m1, by rw [k2.length, m2.length]; exact hi⟩) (fun i H x H' e ⟨T, y, z, ex, hT, eH, q1, q2⟩ => ⟨T, y, z, ex, hT, eH, q1 vs (Same.seqT e k1), q2 ws (Same.seqT e m1)⟩))⟩⟩
    | _ => exact o2.elim
  | _ => cases hv' <;> exact o2.elim
end

/-! ### list(range(..)), tuple(range(..)) -/
structure DRg (X : Cx) (W : WX) (e : Expr) (f : En → R (Int × Int)) : Prop where
  ex : ∃ t, PRg X e t ∧ ∀ H0 O0 O ρ σ H (Q : Int → Int → Hp → Prop), Rel X.K H0 O0 O H ρ σ → OutP X W O σ H (f ρ) (fun d H' => Q d.1 d.2 H') → t σ H Q
def rgI1 (d : PD) : R (Int × Int) := match d with
  | .int n => .ok (0, n)
  | _ => .bad
def rgI2 (d e : PD) : R (Int × Int) := match d, e with
  | .int m, .int n => .ok (m, n)
  | _, _ => .bad
def xR1 (f : En → R PD) : En → R (Int × Int) := fun ρ => (f ρ).bind rgI1
def xR2 (f g : En → R PD) : En → R (Int × Int) := fun ρ => (f ρ).bind fun d => (g ρ).bind fun e => rgI2 d e
def rgOk (d : Int × Int) : Bool := decide (-1000000000000000 ≤ d.1 ∧ d.1 ≤ 1000000000000000 ∧ -1000000000000000 ≤ d.2 ∧ d.2 ≤ 1000000000000000 ∧ (d.2 - d.1).toNat ≤ big)
theorem rgOk_of {d : Int × Int} (h : rgOk d = true) : L2.RgOk d.1 d.2 := by
  have c := of_decide_eq_true h
  unfold big at c
  exact ⟨by omega, by omega, by omega, by omega, by omega⟩
def cRgL (f : En → R (Int × Int)) : En → R (List PD) := fun ρ => (f ρ).bind fun d => chk (rgOk d) (.ok (rangeL d.1 (d.2 - d.1).toNat))
def cRgT (f : En → R (Int × Int)) : En → R PD := fun ρ => (f ρ).bind fun d => chk (rgOk d) (.ok (.tuple (rangeL d.1 (d.2 - d.1).toNat)))
theorem rg_all {K : PySem.W.Frag} {H : Hp} (a : Int) : ∀ l : List Nat, DqAll K H (l.map fun (i : Nat) => V.int (a + (i : Nat))) (l.map fun (i : Nat) => PyData.int (a + (i : Int)))
  | [] => .nil
  | _ :: r => .cons (.int _) (rg_all a r)
section
variable {X : Cx} {W : WX} {a b e : Expr} {f g : En → R PD} {h : En → R (Int × Int)} {pos p : Pos}
theorem drg_1 (hg : Gl X "range") (hm : X.mg "range" = none) (ha : DE X W a f) (na : starEach [a] X.env = (false, eval a X.env) :: starEach [] X.env := by rfl) : DRg X W (.Call (.Name "range" p) [a] [] pos) (xR1 f) := by
  obtain ⟨t, pt, qt⟩ := ha.ex
  refine ⟨_, prg_1 hg hm pt na, fun H0 O0 O ρ σ H Q rl o => ?_⟩
  refine qt H0 O0 O ρ σ H _ rl (o.bind.imp fun d H1 e1 o1 v hv => ?_)
  cases d with
  | int n => cases hv.sc_int; exact ⟨n, rfl, o1 H1 (Same.refl H1)⟩
  | _ => exact o1.elim
theorem drg_2 (hg : Gl X "range") (hm : X.mg "range" = none) (ha : DE X W a f) (hb : DE X W b g) (na : starEach [a, b] X.env = (false, eval a X.env) :: starEach [b] X.env := by rfl)
    (nb : starEach [b] X.env = (false, eval b X.env) :: starEach [] X.env := by rfl) (hp : (backTo pos (starEach [b] X.env)).any (·.1) = false := by rfl) : DRg X W (.Call (.Name "range" p) [a, b] [] pos) (xR2 f g) := by
  obtain ⟨t, pt, qt⟩ := ha.ex
  obtain ⟨u, pu, qu⟩ := hb.ex
  refine ⟨_, prg_2 hg hm pt pu na nb hp, fun H0 O0 O ρ σ H Q rl o => ?_⟩
  refine qt H0 O0 O ρ σ H _ rl (o.bind.imp fun d H1 e1 o1 v hv => ?_)
  refine qu H0 O0 O ρ σ H1 _ (rl.grow e1) (o1.bind.imp fun d' H2 e2 o2 v' hv' => ?_)
  cases d with
  | int m =>
    cases d' with
    | int n => cases hv.sc_int; cases hv'.sc_int; exact ⟨m, n, rfl, rfl, o2 H2 (Same.refl H2)⟩
    | _ => exact o2.elim
  | _ => cases d' <;> exact o2.elim
theorem df_rgL (hc : X.calm = true) (hg : Gl X "list") (hm : X.mg "list" = none) (he : DRg X W e h) (na : starEach [e] X.env = (false, eval e X.env) :: starEach [] X.env := by rfl) : DF X W (.Call (.Name "list" p) [e] [] pos) (cRgL h) := by
  obtain ⟨t, pt, qt⟩ := he.ex
  refine ⟨_, pe_listRg hc hg hm pt na, fun H0 O0 O ρ σ H Q rl o => ?_⟩
  refine qt H0 O0 O ρ σ H _ rl (o.bind.imp fun d H1 e1 o1 => ?_)
  obtain ⟨c, o1⟩ := OutP.chk o1
  exact ⟨rgOk_of c, fun q nq => o1 H1 (Same.refl H1) q _ _ nq (rg_all d.1 _) rfl⟩
theorem de_rgT (hc : X.calm = true) (hg : Gl X "tuple") (hm : X.mg "tuple" = none) (he : DRg X W e h) (na : starEach [e] X.env = (false, eval e X.env) :: starEach [] X.env := by rfl) : DE X W (.Call (.Name "tuple" p) [e] [] pos) (cRgT h) := by
  obtain ⟨t, pt, qt⟩ := he.ex
  refine ⟨_, pe_tupRg hc hg hm pt na, fun H0 O0 O ρ σ H Q rl o => ?_⟩
  refine qt H0 O0 O ρ σ H _ rl (o.bind.imp fun d H1 e1 o1 => ?_)
  obtain ⟨c, o1⟩ := OutP.chk o1
  exact ⟨rgOk_of c, fun q nq => o1 _ (Same.updNew nq) _ (.tup (.inl (.inl (wo_new ((rl.grow e1).fresh nq)))) (all_grow nq (rg_all d.1 _)))⟩
end

/-! ### x += e, x -= e, of ints -/
def IpD (X : Cx) (op : Operator) (F : PD → PD → R PD) : Prop :=
  ∃ r, PIp X op r ∧ ∀ W O σ H x y d e Q, (∀ p, H p = none → ¬ O p) → Dq X.K (wo H O) x d → Dt X.K O H y e → OutP X W O σ H (F d e) (fun d H' => ∀ v, Dq X.K (wo H' O) v d → Q v H') → r x y H Q
def sAug (i : Nat) (F : PD → PD → R PD) (f : En → R PD) : En → Fl := fun ρ => match ρ[i]? with
  | some (.va d) => toS ρ (f ρ) fun e => toS ρ (F d e) fun z => .nx (ρ.set i (.va z))
  | _ => .bad
def iaddD (d e : PD) : R PD := match d, e with
  | .int i, .int j => .ok (.int (i + j))
  | _, _ => .bad
def isubD (d e : PD) : R PD := match d, e with
  | .int i, .int j => .ok (.int (i - j))
  | _, _ => .bad
section
variable {X : Cx} {W : WX} {e : Expr} {f : En → R PD} {i : Nat} {x : Str} {pos pos' : Pos} {op : Operator} {F : PD → PD → R PD}
theorem ipd_add : IpD X .Add iaddD := ⟨_, ip_add, fun W O σ H x y d e Q nO hx hy o => by
  cases d with
  | int i =>
    cases e with
    | int j => cases hx.sc_int; cases hy.sc_int; exact ⟨i, j, rfl, rfl, o H (Same.refl H) _ (.int _)⟩
    | _ => exact o.elim
  | _ => cases e <;> exact o.elim⟩
theorem ipd_sub : IpD X .Sub isubD := ⟨_, ip_sub, fun W O σ H x y d e Q nO hx hy o => by
  cases d with
  | int i =>
    cases e with
    | int j => cases hx.sc_int; cases hy.sc_int; exact ⟨i, j, rfl, rfl, o H (Same.refl H) _ (.int _)⟩
    | _ => exact o.elim
  | _ => cases e <;> exact o.elim⟩
theorem ds_aug (ho : IpD X op F) (hN : X.N.Nodup) (hi : X.N[i]? = some x) (hx : Loc X.env.scope x) (he : DV X W e f) (hf : X.fn x = true ∨ X.env.scope.names.lookup x = some .local := by first | exact .inl rfl | exact .inr rfl | assumption) :
    DS X W (.AugAssign (.Name x pos') op e pos) (sAug i F f) := by
  obtain ⟨t, pt, qt⟩ := he.ex
  obtain ⟨r, p1, p2⟩ := ho
  refine ⟨_, ps_aug hN hi hx pt p1 hf, fun H0 O0 O ρ σ H D rl o => ?_⟩
  unfold sAug at o
  cases q : ρ[i]? with
  | none => rw [q] at o; exact o.elim
  | some s =>
    rw [q] at o
    cases s with
    | va d =>
      obtain ⟨v, e1, e2⟩ := rl.sl i _ q
      refine ⟨v, e1, qt H0 O0 O ρ σ H _ rl ((OutS.ofR rl o).imp fun d' H1 ex o1 y hy => ?_)⟩
      have r1 := rl.grow ex
      refine p2 W O σ H1 v y d d' _ (fun p n => r1.fresh n) (e2.mono (same_wo ex)) hy ((OutS.ofR r1 o1).imp fun z H2 ex2 o2 w hw => ?_)
      exact o2 O H2 _ ((r1.grow ex2).setV hw i)
    | _ => exact o.elim
end
end DL
namespace DL
open PySem PySem.Spec L2

/-! ### a, b, c = x, y, z -/
def sPar3 (i j l : Nat) (f g h : En → R PD) : En → Fl := fun ρ => toS ρ (f ρ) fun d => toS ρ (g ρ) fun d' => toS ρ (h ρ) fun d'' => .nx (((ρ.set i (.va d)).set j (.va d')).set l (.va d''))
section
variable {X : Cx} {W : WX} {x y z : Str} {i j l : Nat} {a b c : Expr} {f g h : En → R PD} {px py pz pt pos : Pos} {kt k2 : Nat} {pt2 : Pos}
theorem ds_par3 (hc : X.calm = true) (hN : X.N.Nodup) (hi : X.N[i]? = some x) (hj : X.N[j]? = some y) (hl : X.N[l]? = some z) (hij : i ≠ j) (hil : i ≠ l) (hjl : j ≠ l)
    (hx : X.env.scope.names.lookup x = some .local) (hy : X.env.scope.names.lookup y = some .local) (hz : X.env.scope.names.lookup z = some .local) (ha : DE X W a f) (hb : DE X W b g) (hd : DE X W c h)
    (hw : swappedStores [.Tuple [.Name x px, .Name y py, .Name z pz] kt pt] (.Tuple [a, b, c] k2 pt2) X.env = pure (some [x, y, z]))
    (hs : swapsWithSole [.Tuple [.Name x px, .Name y py, .Name z pz] kt pt] (.Tuple [a, b, c] k2 pt2) pos.line X.env = pure false := by rfl)
    (h1 : starEach [a, b, c] X.env = (false, eval a X.env) :: starEach [b, c] X.env := by rfl) (h2 : starEach [b, c] X.env = (false, eval b X.env) :: starEach [c] X.env := by rfl) (h3 : starEach [c] X.env = (false, eval c X.env) :: starEach [] X.env := by rfl) :
    DS X W (.Assign [.Tuple [.Name x px, .Name y py, .Name z pz] kt pt] (.Tuple [a, b, c] k2 pt2) pos) (sPar3 i j l f g h) := by
  obtain ⟨t, pt, qt⟩ := ha.ex
  obtain ⟨u, pu, qu⟩ := hb.ex
  obtain ⟨w, pw, qw⟩ := hd.ex
  refine ⟨_, ps_par3 hc hN hi hj hl hij hil hjl hx hy hz (pa_cons pt (pa_cons pu (pa_cons pw pa_nil h3) h2) h1) hw hs, fun H0 O0 O ρ σ H D rl o => ?_⟩
  refine qt H0 O0 O ρ σ H _ rl ((OutS.ofR rl o).imp fun d H1 e1 o1 v hv => ?_)
  refine qu H0 O0 O ρ σ H1 _ (rl.grow e1) ((OutS.ofR (rl.grow e1) o1).imp fun d' H2 e2 o2 v' hv' => ?_)
  have r2 := (rl.grow e1).grow e2
  refine qw H0 O0 O ρ σ H2 _ r2 ((OutS.ofR r2 o2).imp fun d'' H3 e3 o3 v'' hv'' => ?_)
  have e13 := e2.trans e3
  refine ⟨v, v', v'', rfl, ?_⟩
  have k := o3 O H3 _ ((((r2.grow e3).setV (hv.mono (same_wo e13)) i).setV (hv'.mono (same_wo e3)) j).setV hv'' l)
  first
    | exact k
    | (have c1 : ∀ (σ : L2.St) (a b c : Option V), ((σ.set i a).set j b).set l c = ((σ.set l c).set j b).set i a := fun σ a b c => by
        rw [List.set_comm _ _ hij, List.set_comm _ _ hil, List.set_comm _ _ hjl]
       rw [← c1]; exact k)
end

/-! ### the turns that a while loop may take: enough, and no more is known -/
@[irreducible] def fuel : Nat := 1000000000
theorem fuel_ge : 1000000000 ≤ fuel := by unfold fuel; exact Nat.le_refl _
theorem whL_mono {p : En → R Bool} {g : En → Fl} : ∀ (n m : Nat) (ρ : En) (o : Fl), n ≤ m → whL p g n ρ = o → o ≠ .bad → whL p g m ρ = o
  | 0, m, ρ, o, _, e, nb => absurd e.symm nb
  | n + 1, 0, ρ, o, h, _, _ => absurd h (Nat.not_succ_le_zero _)
  | n + 1, m + 1, ρ, o, h, e, nb => by
    have ih := fun ρ2 e => whL_mono (p := p) (g := g) n m ρ2 o (Nat.le_of_succ_le_succ h) e nb
    rw [whL] at e ⊢
    cases hp : p ρ with
    | ex c pl => rw [hp] at e; exact e
    | bad => rw [hp] at e; exact absurd e.symm nb
    | ok b =>
      rw [hp] at e
      simp only [toS] at e ⊢
      cases b with
      | false => exact e
      | true =>
        rw [if_pos rfl] at e ⊢
        cases hg : g ρ with
        | nx ρ2 => simp only [hg] at e ⊢; exact ih ρ2 e
        | ct ρ2 => simp only [hg] at e ⊢; exact ih ρ2 e
        | bk ρ2 => simp only [hg] at e ⊢; exact e
        | rt d => simp only [hg] at e ⊢; exact e
        | ex c pl ρ2 => simp only [hg] at e ⊢; exact e
        | bad => simp only [hg] at e ⊢; exact e
theorem whL_fuel {p : En → R Bool} {g : En → Fl} {n : Nat} {ρ : En} {o : Fl} (h : n ≤ 1000000000) (e : whL p g n ρ = o) (nb : o ≠ .bad) : whL p g fuel ρ = o := whL_mono n fuel ρ o (Nat.le_trans h fuel_ge) e nb
end DL
namespace DL
open PySem PySem.Spec L2

/-! ### the data functions, applied -/
section
variable {i j n : Nat} {ρ : En} {d e : PD} {f g h : En → R PD} {fs gs : En → R (List PD)} {p q : En → R Bool} {k : Int} {ds : List PD} {α : Type}
@[simp] theorem a_cV : cV i ρ = (match ρ[i]? with | some (.va d) => .ok d | _ => .bad) := rfl
@[simp] theorem a_cW : cW i ρ = (match ρ[i]? with | some (.va d) => .ok d | some (.ol ds) => .ok (.list ds) | _ => .bad) := rfl
@[simp] theorem a_cK : cK d ρ = .ok d := rfl
@[simp] theorem a_c2 (F : PD → PD → R PD) : c2 F f g ρ = (f ρ).bind fun x => (g ρ).bind fun y => F x y := rfl
@[simp] theorem a_c1 (F : PD → R PD) : c1 F f ρ = (f ρ).bind F := rfl
@[simp] theorem a_cNil : cNil ρ = .ok [] := rfl
@[simp] theorem a_cCons : cCons f fs ρ = (f ρ).bind fun d => (fs ρ).bind fun ds => .ok (d :: ds) := rfl
@[simp] theorem a_cTup : cTup fs ρ = (fs ρ).bind mkT := rfl
@[simp] theorem a_cLst : cLst fs ρ = (fs ρ).bind mkL := rfl
@[simp] theorem a_cL : cL fs ρ = (fs ρ).bind fun ds => .ok (.list ds) := rfl
@[simp] theorem a_cCl (F : List PD → R PD) : cCl F fs ρ = (fs ρ).bind F := rfl
@[simp] theorem a_cClF (F : List PD → R (List PD)) : cClF F fs ρ = (fs ρ).bind F := rfl
@[simp] theorem a_cCall (F : List PD → R PD) : cCall n F fs ρ = (fs ρ).bind fun ds => chk (ds.length == n) (F ds) := rfl
@[simp] theorem a_isaD (F : PD → Bool) : isaD F f ρ = (f ρ).bind fun d => .ok (.bool (F d)) := rfl
@[simp] theorem a_cAnd : cAnd f g ρ = (f ρ).bind fun d => (tru d).bind fun b => if b = true then g ρ else .ok d := rfl
@[simp] theorem a_cOr : cOr f g ρ = (f ρ).bind fun d => (tru d).bind fun b => if b = true then .ok d else g ρ := rfl
@[simp] theorem a_cNot : cNot f ρ = (f ρ).bind fun d => (tru d).bind fun b => .ok (.bool (!b)) := rfl
@[simp] theorem a_cIf : cIf p f g ρ = (p ρ).bind fun b => if b = true then f ρ else g ρ := rfl
@[simp] theorem a_cChain (F G : PD → PD → R PD) : cChain F G f g h ρ = (f ρ).bind fun x => (g ρ).bind fun y => (F x y).bind fun z => (asB z).bind fun k => if k = true then (h ρ).bind fun u => G y u else .ok (.bool false) := rfl
@[simp] theorem a_bChain (F G : PD → PD → R PD) : bChain F G f g h ρ = (cChain F G f g h ρ).bind asB := rfl
@[simp] theorem a_bT : bT f ρ = (f ρ).bind tru := rfl
@[simp] theorem a_bC (F : PD → PD → R PD) : bC F f g ρ = (c2 F f g ρ).bind asB := rfl
@[simp] theorem a_bAnd : bAnd p q ρ = (p ρ).bind fun b => if b = true then q ρ else .ok false := rfl
@[simp] theorem a_bOr : bOr p q ρ = (p ρ).bind fun b => if b = true then .ok true else q ρ := rfl
@[simp] theorem a_bNot : bNot p ρ = (p ρ).bind fun b => .ok (!b) := rfl
@[simp] theorem a_bYes : bYes ρ = .ok true := rfl
@[simp] theorem a_iSeq : iSeq f ρ = (f ρ).bind itD := rfl
@[simp] theorem a_iR1 : iR1 f ρ = (f ρ).bind rg1 := rfl
@[simp] theorem a_iR2 : iR2 f g ρ = (f ρ).bind fun d => (g ρ).bind fun e => rg2 d e := rfl
@[simp] theorem a_iEnm : iEnm f ρ = (f ρ).bind fun d => (itD d).bind fun ds => .ok (enumL 0 ds) := rfl
@[simp] theorem a_cLc (own : List Nat) (src : En → R (List PD)) (tgt : PD → En → R En) : cLc own src tgt p f ρ = (src ρ).bind fun items => chk (decide (items.length ≤ big)) (compL tgt p f (wipeE ρ own) items) := rfl
@[simp] theorem a_wipe0 : wipeE ρ [] = ρ := rfl
@[simp] theorem a_wipe1 (v : Nat) (vs : List Nat) : wipeE ρ (v :: vs) = (wipeE ρ vs).set v .un := rfl
@[simp] theorem a_gN : gN i d ρ = .ok (ρ.set i (.va d)) := rfl
@[simp] theorem a_gZ : gZ [] ρ = .ok ρ := rfl
@[simp] theorem a_sNx : sNx ρ = .nx ρ := rfl
@[simp] theorem a_sSeq (g h : En → Fl) : sSeq g h ρ = (match g ρ with | .nx ρ' => h ρ' | .rt d => .rt d | .bk ρ' => .bk ρ' | .ct ρ' => .ct ρ' | .ex c pl ρ' => .ex c pl ρ' | .bad => .bad) := rfl
@[simp] theorem a_toS_ok (a : α) (c : α → Fl) : toS ρ (.ok a) c = c a := rfl
@[simp] theorem a_toS_ex (x : Str) (pl : List (Str × PD)) (c : α → Fl) : toS ρ (.ex x pl) c = .ex x pl ρ := rfl
@[simp] theorem a_sSet : sSet i f ρ = toS ρ (f ρ) fun d => .nx (ρ.set i (.va d)) := rfl
@[simp] theorem a_sSetL : sSetL i fs ρ = toS ρ (fs ρ) fun ds => .nx (ρ.set i (.ol ds)) := rfl
@[simp] theorem a_sDrop : sDrop f ρ = toS ρ (f ρ) fun _ => .nx ρ := rfl
@[simp] theorem a_sRet : sRet f ρ = toS ρ (f ρ) fun d => .rt d := rfl
@[simp] theorem a_sIf (g h : En → Fl) : sIf p g h ρ = toS ρ (p ρ) fun b => if b = true then g ρ else h ρ := rfl
@[simp] theorem a_sFrz (g : En → Fl) : sFrz i g ρ = g (frz i ρ) := rfl
@[simp] theorem a_frz : frz i ρ = (match ρ[i]? with | some (.ol ds) => ρ.set i (.va (.list ds)) | _ => ρ) := rfl
@[simp] theorem a_sApp : sApp i f ρ = (match ρ[i]? with | some (.ol ds) => toS ρ (f ρ) fun d => if ds.length < big then .nx (ρ.set i (.ol (ds ++ [d]))) else .bad | _ => .bad) := rfl
@[simp] theorem a_sExt : sExt i f ρ = (match ρ[i]? with
  | some (.ol ds) => toS ρ (f ρ) fun d => match d with
    | .list es => if ds.length + es.length ≤ big then .nx (ρ.set i (.ol (ds ++ es))) else .bad
    | _ => .bad
  | _ => .bad) := rfl
@[simp] theorem a_sSetI : sSetI i f g ρ = (match ρ[i]? with
  | some (.ol ds) => toS ρ (f ρ) fun d => toS ρ (g ρ) fun j => match j with
    | .int k => match ixN ds.length k with
      | some n => .nx (ρ.set i (.ol (ds.set n d)))
      | none => .bad
    | _ => .bad
  | _ => .bad) := rfl
@[simp] theorem a_sAsg (g : PD → En → R En) : sAsg f g ρ = toS ρ (f ρ) fun d => (match g d ρ with | .ok ρ' => .nx ρ' | _ => .bad) := rfl
@[simp] theorem a_sPar : sPar i j f g ρ = toS ρ (f ρ) fun d => toS ρ (g ρ) fun d' => .nx ((ρ.set i (.va d)).set j (.va d')) := rfl
@[simp] theorem a_sFor (src : En → R (List PD)) (tgt : PD → En → R En) (body : En → Fl) : sFor src tgt body ρ = toS ρ (src ρ) fun items => forL tgt body items ρ := rfl
@[simp] theorem a_fin_rt : fin (.rt d) = .ok d := rfl
@[simp] theorem a_fin_nx : fin (.nx ρ) = .ok .none := rfl
@[simp] theorem a_fin_ex (x : Str) (pl : List (Str × PD)) : fin (.ex x pl ρ) = .ex x pl := rfl
@[simp] theorem a_gC (a : PD → En → R En) (b : List PD → En → R En) : gC a b (d :: ds) ρ = (match a d ρ with | .ok ρ' => b ds ρ' | _ => .bad) := rfl
@[simp] theorem a_gT (a : List PD → En → R En) : gT n a (.tuple ds) ρ = chk (ds.length == n) (a ds ρ) := rfl
@[simp] theorem a_mkT : mkT ds = chk (decide (ds.length ≤ big)) (.ok (.tuple ds)) := rfl
@[simp] theorem a_mkL : mkL ds = chk (decide (ds.length ≤ big)) (.ok ds) := rfl
@[simp] theorem a_itT : itD (.tuple ds) = .ok ds := rfl
@[simp] theorem a_itL : itD (.list ds) = .ok ds := rfl
@[simp] theorem a_asB (b : Bool) : asB (.bool b) = .ok b := rfl
@[simp] theorem a_truB (b : Bool) : tru (.bool b) = .ok b := rfl
@[simp] theorem a_truI (i : Int) : tru (.int i) = .ok (i != 0) := rfl
@[simp] theorem a_truN : tru .none = .ok false := rfl
@[simp] theorem a_truL : tru (.list ds) = .ok (!ds.isEmpty) := rfl
@[simp] theorem a_truT : tru (.tuple ds) = .ok (!ds.isEmpty) := rfl
@[simp] theorem a_addI (i j : Int) : addD (.int i) (.int j) = .ok (.int (i + j)) := rfl
@[simp] theorem a_addT (xs ys : List PD) : addD (.tuple xs) (.tuple ys) = chk (decide (xs.length + ys.length ≤ big)) (.ok (.tuple (xs ++ ys))) := rfl
@[simp] theorem a_addL (xs ys : List PD) : addD (.list xs) (.list ys) = chk (decide (xs.length + ys.length ≤ big)) (.ok (.list (xs ++ ys))) := rfl
@[simp] theorem a_subI (i j : Int) : subD (.int i) (.int j) = .ok (.int (i - j)) := rfl
@[simp] theorem a_modI (i j : Int) : modD (.int i) (.int j) = chk (decide (0 < j)) (.ok (.int (i % j))) := rfl
@[simp] theorem a_divI (i j : Int) : fdivD (.int i) (.int j) = chk (decide (0 < j ∧ j < 1073741824)) (.ok (.int (i / j))) := rfl
@[simp] theorem a_mulI (i j : Int) : mulD (.int i) (.int j) = chk (decide ((-18446744073709551616 < i ∧ i < 18446744073709551616) ∨ (-18446744073709551616 < j ∧ j < 18446744073709551616))) (.ok (.int (i * j))) := rfl
@[simp] theorem a_powI (i j : Int) : powD (.int i) (.int j) = chk (decide (0 ≤ j ∧ j ≤ 1000000 ∧ i.natAbs < 18446744073709551616)) (.ok (.int (i ^ j.toNat))) := rfl
@[simp] theorem a_negI (i : Int) : negD (.int i) = .ok (.int (-i)) := rfl
@[simp] theorem a_ltI (i j : Int) : ltD (.int i) (.int j) = .ok (.bool (decide (i < j))) := rfl
@[simp] theorem a_leI (i j : Int) : leD (.int i) (.int j) = .ok (.bool (decide (i ≤ j))) := rfl
@[simp] theorem a_gtI (i j : Int) : gtD (.int i) (.int j) = .ok (.bool (decide (j < i))) := rfl
@[simp] theorem a_geI (i j : Int) : geD (.int i) (.int j) = .ok (.bool (decide (j ≤ i))) := rfl
@[simp] theorem dp_int (i : Int) : PyData.depth (.int i) = 0 := rfl
@[simp] theorem dp_bool (i : Bool) : PyData.depth (.bool i) = 0 := rfl
@[simp] theorem dp_str (i : Str) : PyData.depth (.str i) = 0 := rfl
@[simp] theorem dp_none : PyData.depth .none = 0 := rfl
@[simp] theorem a_eqI (i j : Int) : eqD (.int i) (.int j) = .ok (.bool (decide (i = j))) := by
  unfold eqD dOk
  simp [PyData.eqv]
  by_cases h : i = j <;> simp [h]
@[simp] theorem a_neI (i j : Int) : neD (.int i) (.int j) = .ok (.bool (decide (i ≠ j))) := by
  unfold neD dOk
  simp [PyData.eqv]
  by_cases h : i = j <;> simp [h]
@[simp] theorem a_lenL : lenD [.list ds] = .ok (.int ds.length) := rfl
@[simp] theorem a_lenT : lenD [.tuple ds] = .ok (.int ds.length) := rfl
@[simp] theorem a_abs (i : Int) : absD [.int i] = .ok (.int (if i < 0 then -i else i)) := rfl
@[simp] theorem a_int (i : Int) : intD [.int i] = .ok (.int i) := rfl
@[simp] theorem a_tupT : tupD [.tuple ds] = .ok (.tuple ds) := rfl
@[simp] theorem a_tupL : tupD [.list ds] = .ok (.tuple ds) := rfl
@[simp] theorem a_itemsT : items1 [.tuple ds] = .ok ds := rfl
@[simp] theorem a_itemsL : items1 [.list ds] = .ok ds := rfl
@[simp] theorem a_max2 (i j : Int) : maxD1 [PyData.int i, .int j] = .ok (.int (max i j)) := by
  show R.ok (PyData.int (mx2 i j)) = _
  unfold mx2
  by_cases h : i < j
  · rw [if_pos h]; congr; omega
  · rw [if_neg h]; congr; omega
@[simp] theorem a_min2 (i j : Int) : minD1 [PyData.int i, .int j] = .ok (.int (min i j)) := by
  show R.ok (PyData.int (mn2 i j)) = _
  unfold mn2
  by_cases h : j < i
  · rw [if_pos h]; congr; omega
  · rw [if_neg h]; congr; omega
@[simp] theorem a_all : allD [.list ds] = chk (ds.all flat1) (.ok (.bool (ds.all PyData.truthy))) := rfl
@[simp] theorem a_any : anyD [.list ds] = chk (ds.all flat1) (.ok (.bool (ds.any PyData.truthy))) := rfl
@[simp] theorem a_rg1 (n : Int) : rg1 (.int n) = chk (decide (-1000000000000000 ≤ n ∧ n ≤ 1000000000000000)) (.ok (rangeL 0 n.toNat)) := rfl
@[simp] theorem a_rg2 (m n : Int) : rg2 (.int m) (.int n) = chk (decide (-1000000000000000 ≤ m ∧ m ≤ 1000000000000000 ∧ -1000000000000000 ≤ n ∧ n ≤ 1000000000000000)) (.ok (rangeL m (n - m).toNat)) := rfl
@[simp] theorem a_iZp : iZp f g ρ = (f ρ).bind fun d => (g ρ).bind fun e => zpD d e := rfl
@[simp] theorem a_zpL (xs ys : List PD) : zpD (.list xs) (.list ys) = .ok (zipL xs ys) := rfl
@[simp] theorem a_zpT (xs ys : List PD) : zpD (.tuple xs) (.tuple ys) = .ok (zipL xs ys) := rfl
@[simp] theorem a_xR1 : xR1 f ρ = (f ρ).bind rgI1 := rfl
@[simp] theorem a_xR2 : xR2 f g ρ = (f ρ).bind fun d => (g ρ).bind fun e => rgI2 d e := rfl
@[simp] theorem a_rgI1 (n : Int) : rgI1 (.int n) = .ok (0, n) := rfl
@[simp] theorem a_rgI2 (m n : Int) : rgI2 (.int m) (.int n) = .ok (m, n) := rfl
@[simp] theorem a_cRgL (h : En → R (Int × Int)) : cRgL h ρ = (h ρ).bind fun d => chk (rgOk d) (.ok (rangeL d.1 (d.2 - d.1).toNat)) := rfl
@[simp] theorem a_cRgT (h : En → R (Int × Int)) : cRgT h ρ = (h ρ).bind fun d => chk (rgOk d) (.ok (.tuple (rangeL d.1 (d.2 - d.1).toNat))) := rfl
@[simp] theorem a_sAug (F : PD → PD → R PD) : sAug i F f ρ = (match ρ[i]? with | some (.va d) => toS ρ (f ρ) fun e => toS ρ (F d e) fun z => .nx (ρ.set i (.va z)) | _ => .bad) := rfl
@[simp] theorem a_iaddI (i j : Int) : iaddD (.int i) (.int j) = .ok (.int (i + j)) := rfl
@[simp] theorem a_isubI (i j : Int) : isubD (.int i) (.int j) = .ok (.int (i - j)) := rfl
@[simp] theorem a_sPar3 (l : Nat) : sPar3 i j l f g h ρ = toS ρ (f ρ) fun d => toS ρ (g ρ) fun d' => toS ρ (h ρ) fun d'' => .nx (((ρ.set i (.va d)).set j (.va d')).set l (.va d'')) := rfl
@[simp] theorem a_ixL (i : Int) : ixD (.list ds) (.int i) = (match atI ds i with | some d => .ok d | none => .bad) := rfl
@[simp] theorem a_ixT (i : Int) : ixD (.tuple ds) (.int i) = (match atI ds i with | some d => .ok d | none => .bad) := rfl
end
theorem ixN_nn {n : Nat} {i : Nat} (h : i < n) : ixN n (i : Int) = some i := by
  unfold ixN
  rw [if_pos (by omega), if_pos (by omega), Int.toNat_natCast]
theorem ixN_last {n : Nat} (h : 0 < n) : ixN n (-1) = some (n - 1) := by
  unfold ixN
  rw [if_neg (by omega), if_pos (by omega)]
  congr 1; omega
theorem atI_nn {α : Type} {xs : List α} {i : Nat} : atI xs (i : Int) = xs[i]? := by
  unfold atI
  by_cases h : i < xs.length
  · rw [ixN_nn h]; rfl
  · have : ixN xs.length (i : Int) = none := by
      unfold ixN
      rw [if_pos (by omega), if_neg (by omega)]
    rw [this, List.getElem?_eq_none (by omega)]; rfl
@[simp] theorem atI_z {α : Type} (x : α) (xs : List α) : atI (x :: xs) 0 = some x := by
  have := atI_nn (xs := x :: xs) (i := 0)
  simpa using this
@[simp] theorem atI_o {α : Type} (x y : α) (xs : List α) : atI (x :: y :: xs) 1 = some y := by
  have := atI_nn (xs := x :: y :: xs) (i := 1)
  simpa using this
@[simp] theorem atI_2 {α : Type} (x y z : α) (xs : List α) : atI (x :: y :: z :: xs) 2 = some z := by
  have := atI_nn (xs := x :: y :: z :: xs) (i := 2)
  simpa using this
theorem atI_end {α : Type} (xs : List α) (x : α) : atI (xs ++ [x]) (-1) = some x := by
  unfold atI
  rw [ixN_last (by simp)]
  simp

/-! ### equal data -/
mutual
/-- no dict in it -/
def nod : PD → Bool
  | .list xs => nodAll xs
  | .tuple xs => nodAll xs
  | .dict _ => false
  | .none => true
  | .bool _ => true
  | .int _ => true
  | .str _ => true
def nodAll : List PD → Bool
  | [] => true
  | x :: xs => nod x && nodAll xs
end
mutual
theorem eqv_self : ∀ d : PD, nod d = true → PyData.eqv d d = true
  | .list xs, h => by rw [PyData.eqv]; exact eqvAll_self xs (by rw [nod] at h; exact h)
  | .tuple xs, h => by rw [PyData.eqv]; exact eqvAll_self xs (by rw [nod] at h; exact h)
  | .dict _, h => by rw [nod] at h; cases h
  | .none, _ => by rw [PyData.eqv]
  | .bool b, _ => by rw [PyData.eqv]; exact beq_self_eq_true b
  | .int b, _ => by rw [PyData.eqv]; exact beq_self_eq_true b
  | .str b, _ => by rw [PyData.eqv]; exact beq_self_eq_true b
theorem eqvAll_self : ∀ ds : List PD, nodAll ds = true → PyData.eqvAll ds ds = true
  | [], _ => by rw [PyData.eqvAll]
  | x :: xs, h => by
    rw [nodAll, Bool.and_eq_true] at h
    rw [PyData.eqvAll, eqv_self x h.1, eqvAll_self xs h.2]; rfl
end
theorem nodAll_of : ∀ ds : List PD, (∀ d ∈ ds, nod d = true) → nodAll ds = true
  | [], _ => by rw [nodAll]
  | x :: xs, h => by rw [nodAll, h x List.mem_cons_self, nodAll_of xs fun d hd => h d (List.mem_cons_of_mem _ hd)]; rfl
theorem depthAll_le : ∀ (ds : List PD) (n : Nat), (∀ d ∈ ds, d.depth ≤ n) → PyData.depthAll ds ≤ n
  | [], n, _ => by rw [PyData.depthAll]; exact Nat.zero_le _
  | x :: xs, n, h => by
    rw [PyData.depthAll]
    have := h x List.mem_cons_self
    have := depthAll_le xs n fun d hd => h d (List.mem_cons_of_mem _ hd)
    omega
/-- equal data -/
theorem eqD_self {d : PD} (h : nod d = true) (hd : d.depth ≤ 100) : eqD d d = .ok (.bool true) := by
  unfold eqD dOk
  rw [chk_of (by rw [decide_eq_true_eq]; omega), eqv_self d h]
theorem neD_self {d : PD} (h : nod d = true) (hd : d.depth ≤ 100) : neD d d = .ok (.bool false) := by
  unfold neD dOk
  rw [chk_of (by rw [decide_eq_true_eq]; omega), eqv_self d h]; rfl

/-! ### loops -/
section
variable {α β : Type} {tgt : PD → En → R En} {body : En → Fl}
theorem forL_go (P : Nat → β → En → Prop) (step : β → α → β) (enc : α → PD) : ∀ (ys : List α) (i : Nat) (s : β) (ρ : En),
    (∀ j y s ρ, ys[j]? = some y → P (i + j) s ρ → ∃ ρ1 ρ2, tgt (enc y) ρ = .ok ρ1 ∧ (body ρ1 = .nx ρ2 ∨ body ρ1 = .ct ρ2) ∧ P (i + j + 1) (step s y) ρ2) → P i s ρ →
    ∃ ρ', forL tgt body (ys.map enc) ρ = .nx ρ' ∧ P (i + ys.length) (ys.foldl step s) ρ'
  | [], i, s, ρ, _, h => ⟨ρ, rfl, h⟩
  | y :: ys, i, s, ρ, hs, h => by
    obtain ⟨ρ1, ρ2, e1, e2, h2⟩ := hs 0 y s ρ rfl h
    obtain ⟨ρ', e3, h3⟩ := forL_go P step enc ys (i + 1) (step s y) ρ2 (fun j y s ρ e p => by
      have := hs (j + 1) y s ρ (by simpa using e) (by rwa [show i + (j + 1) = i + 1 + j by omega])
      rwa [show i + (j + 1) = i + 1 + j by omega] at this) h2
    refine ⟨ρ', ?_, by rwa [show i + (y :: ys).length = i + 1 + ys.length by rw [List.length_cons]; omega]⟩
    rw [List.map_cons, forL, e1]
    rcases e2 with e2 | e2
    · simp only [e2]; exact e3
    · simp only [e2]; exact e3
/-- a loop whose body goes on: the state by a fold -/
theorem forL_fold (P : Nat → β → En → Prop) (step : β → α → β) (enc : α → PD) (ys : List α) {s : β} {ρ : En} (h0 : P 0 s ρ)
    (hs : ∀ j y s ρ, ys[j]? = some y → P j s ρ → ∃ ρ1 ρ2, tgt (enc y) ρ = .ok ρ1 ∧ (body ρ1 = .nx ρ2 ∨ body ρ1 = .ct ρ2) ∧ P (j + 1) (step s y) ρ2) :
    ∃ ρ', forL tgt body (ys.map enc) ρ = .nx ρ' ∧ P ys.length (ys.foldl step s) ρ' := by
  have := forL_go (i := 0) P step enc ys s ρ (fun j y s ρ e p => by rw [Nat.zero_add] at p ⊢; exact hs j y s ρ e p) h0
  rwa [Nat.zero_add] at this
/-- a loop by an invariant alone -/
theorem forL_inv (P : Nat → En → Prop) (enc : α → PD) (ys : List α) {ρ : En} (h0 : P 0 ρ)
    (hs : ∀ j y ρ, ys[j]? = some y → P j ρ → ∃ ρ1 ρ2, tgt (enc y) ρ = .ok ρ1 ∧ (body ρ1 = .nx ρ2 ∨ body ρ1 = .ct ρ2) ∧ P (j + 1) ρ2) :
    ∃ ρ', forL tgt body (ys.map enc) ρ = .nx ρ' ∧ P ys.length ρ' :=
  forL_fold (fun j (_ : Unit) ρ => P j ρ) (fun s _ => s) enc ys (s := ()) h0 fun j y _ ρ e p => hs j y ρ e p
theorem compL_map {γ : Type} (enc : α → PD) {p : En → R Bool} {f : En → R PD} {ρ : En} (b : α → Bool) (r : α → γ) (dec : γ → PD) : ∀ (ys : List α),
    (∀ y ∈ ys, ∃ ρ1, tgt (enc y) ρ = .ok ρ1 ∧ p ρ1 = .ok (b y) ∧ (b y = true → f ρ1 = .ok (dec (r y)))) → compL tgt p f ρ (ys.map enc) = .ok (((ys.filter b).map r).map dec)
  | [], _ => rfl
  | y :: ys, h => by
    obtain ⟨ρ1, e1, e2, e3⟩ := h y List.mem_cons_self
    have ih := compL_map enc b r dec ys (fun z hz => h z (List.mem_cons_of_mem _ hz))
    rw [List.map_cons, compL, e1, R.ok_nx, R.ok_bind, e2, R.ok_nx, R.ok_bind]
    cases hb : b y with
    | true =>
      rw [if_pos rfl, e3 hb, R.ok_nx, R.ok_bind, ih, R.ok_bind, List.filter_cons_of_pos hb]; rfl
    | false => rw [if_neg Bool.false_ne_true, ih, List.filter_cons_of_neg (by rw [hb]; exact Bool.false_ne_true)]
/-- without ifs -/
theorem compL_all {γ : Type} (enc : α → PD) {f : En → R PD} {ρ : En} (r : α → γ) (dec : γ → PD) (ys : List α)
    (h : ∀ y ∈ ys, ∃ ρ1, tgt (enc y) ρ = .ok ρ1 ∧ f ρ1 = .ok (dec (r y))) : compL tgt bYes f ρ (ys.map enc) = .ok ((ys.map r).map dec) := by
  rw [compL_map (p := bYes) enc (fun _ => true) r dec ys (fun y hy => let ⟨ρ1, a, b⟩ := h y hy; ⟨ρ1, a, rfl, fun _ => b⟩)]
  rw [List.filter_eq_self.mpr (fun _ _ => rfl)]
end
def intsP (ns : List Int) : List PD := ns.map PyData.int
def rng (lo : Int) (n : Nat) : List Int := (List.range n).map fun (i : Nat) => lo + (i : Int)
theorem rangeL_rng (lo : Int) (n : Nat) : rangeL lo n = (rng lo n).map PyData.int := by
  unfold rangeL rng
  rw [List.map_map]; rfl
theorem rng_len (lo : Int) (n : Nat) : (rng lo n).length = n := by simp [rng]
theorem mem_rng {lo : Int} {n : Nat} {i : Int} : i ∈ rng lo n ↔ lo ≤ i ∧ i < lo + n := by
  unfold rng
  rw [List.mem_map]
  constructor
  · rintro ⟨k, hk, rfl⟩
    have := List.mem_range.mp hk
    omega
  · rintro ⟨h1, h2⟩
    exact ⟨(i - lo).toNat, List.mem_range.mpr (by omega), by omega⟩
theorem rng_get {lo : Int} {n i : Nat} (h : i < n) : (rng lo n)[i]? = some (lo + (i : Int)) := by
  unfold rng
  rw [List.getElem?_map, List.getElem?_range h]; rfl
end DL
namespace DL
open PySem PySem.Spec L2
/-! ## readings with names in place of frames: what stands behind a statement is a function of the values -/
def sBrk : En → Fl := fun ρ => .bk ρ
def sCnt : En → Fl := fun ρ => .ct ρ
def sRtN : En → Fl := fun _ => .rt .none
def sExc (c : Str) : En → Fl := fun ρ => .ex c [] ρ

/-! ### targets -/
def tR {α : Type} (tgt : PD → En → R En) (z : α) (d : PD) (ρ : En) (F : En → α) : α := match tgt d ρ with
  | .ok ρ1 => F ρ1
  | _ => z
def un2 {α : Type} (z : α) (d : PD) (k : PD → PD → α) : α := match d with
  | .tuple [a, b] => k a b
  | .list [a, b] => k a b
  | _ => z
def un3 {α : Type} (z : α) (d : PD) (k : PD → PD → PD → α) : α := match d with
  | .tuple [a, b, c] => k a b c
  | .list [a, b, c] => k a b c
  | _ => z
def un4 {α : Type} (z : α) (d : PD) (k : PD → PD → PD → PD → α) : α := match d with
  | .tuple [a, b, c, e] => k a b c e
  | .list [a, b, c, e] => k a b c e
  | _ => z
section
variable {α : Type} {z : α} {a b c e : PD} {d : PD} {ρ : En} {F : En → α} {t1 t2 t3 t4 : PD → En → R En} {i : Nat}
@[simp] theorem un2_t (k : PD → PD → α) : un2 z (.tuple [a, b]) k = k a b := rfl
@[simp] theorem un3_t (k : PD → PD → PD → α) : un3 z (.tuple [a, b, c]) k = k a b c := rfl
@[simp] theorem un4_t (k : PD → PD → PD → PD → α) : un4 z (.tuple [a, b, c, e]) k = k a b c e := rfl
@[simp] theorem un2_l (k : PD → PD → α) : un2 z (.list [a, b]) k = k a b := rfl
@[simp] theorem un3_l (k : PD → PD → PD → α) : un3 z (.list [a, b, c]) k = k a b c := rfl
theorem tR_n : tR (gN i) z d ρ F = F (ρ.set i (.va d)) := rfl
theorem tR_2 : tR (gT 2 (gC t1 (gC t2 gZ))) z d ρ F = un2 z d fun a b => tR t1 z a ρ fun ρ1 => tR t2 z b ρ1 F := by
  simp only [tR, gT, gC, gZ, un2]
  rcases d with _|_|_|_|ds|ds|_ <;> try rfl
  all_goals
    rcases ds with _|⟨a, _|⟨b, _|⟨c, ds⟩⟩⟩ <;> try rfl
    · show (match (match t1 a ρ with | .ok ρ' => (match t2 b ρ' with | .ok ρ' => R.ok ρ' | _ => R.bad) | _ => R.bad) with | .ok ρ1 => F ρ1 | _ => z) = (match t1 a ρ with | .ok ρ1 => (match t2 b ρ1 with | .ok ρ2 => F ρ2 | _ => z) | _ => z)
      cases h1 : t1 a ρ with
      | ok ρ1 => cases h2 : t2 b ρ1 <;> simp [h2]
      | ex c pl => rfl
      | bad => rfl
theorem tR_3 : tR (gT 3 (gC t1 (gC t2 (gC t3 gZ)))) z d ρ F = un3 z d fun a b c => tR t1 z a ρ fun ρ1 => tR t2 z b ρ1 fun ρ2 => tR t3 z c ρ2 F := by
  simp only [tR, gT, gC, gZ, un3]
  rcases d with _|_|_|_|ds|ds|_ <;> try rfl
  all_goals
    rcases ds with _|⟨a, _|⟨b, _|⟨c, _|⟨e, ds⟩⟩⟩⟩ <;> try rfl
    · show (match (match t1 a ρ with | .ok ρ' => (match t2 b ρ' with | .ok ρ' => (match t3 c ρ' with | .ok ρ' => R.ok ρ' | _ => R.bad) | _ => R.bad) | _ => R.bad) with | .ok ρ1 => F ρ1 | _ => z) = (match t1 a ρ with | .ok ρ1 => (match t2 b ρ1 with | .ok ρ2 => (match t3 c ρ2 with | .ok ρ3 => F ρ3 | _ => z) | _ => z) | _ => z)
      cases h1 : t1 a ρ with
      | ok ρ1 =>
        cases h2 : t2 b ρ1 with
        | ok ρ2 => cases h3 : t3 c ρ2 <;> simp [h1, h2, h3]
        | ex c pl => simp [h1, h2]
        | bad => simp [h1, h2]
      | ex c pl => simp [h1]
      | bad => simp [h1]
theorem tR_4 : tR (gT 4 (gC t1 (gC t2 (gC t3 (gC t4 gZ))))) z d ρ F = un4 z d fun a b c e => tR t1 z a ρ fun ρ1 => tR t2 z b ρ1 fun ρ2 => tR t3 z c ρ2 fun ρ3 => tR t4 z e ρ3 F := by
  simp only [tR, gT, gC, gZ, un4]
  rcases d with _|_|_|_|ds|ds|_ <;> try rfl
  all_goals
    rcases ds with _|⟨a, _|⟨b, _|⟨c, _|⟨e, _|⟨e', ds⟩⟩⟩⟩⟩ <;> try rfl
    · show (match (match t1 a ρ with | .ok ρ' => (match t2 b ρ' with | .ok ρ' => (match t3 c ρ' with | .ok ρ' => (match t4 e ρ' with | .ok ρ' => R.ok ρ' | _ => R.bad) | _ => R.bad) | _ => R.bad) | _ => R.bad) with | .ok ρ1 => F ρ1 | _ => z) = (match t1 a ρ with | .ok ρ1 => (match t2 b ρ1 with | .ok ρ2 => (match t3 c ρ2 with | .ok ρ3 => (match t4 e ρ3 with | .ok ρ4 => F ρ4 | _ => z) | _ => z) | _ => z) | _ => z)
      cases h1 : t1 a ρ with
      | ok ρ1 =>
        cases h2 : t2 b ρ1 with
        | ok ρ2 =>
          cases h3 : t3 c ρ2 with
          | ok ρ3 => cases h4 : t4 e ρ3 <;> simp [h1, h2, h3, h4]
          | ex c pl => simp [h1, h2, h3]
          | bad => simp [h1, h2, h3]
        | ex c pl => simp [h1, h2]
        | bad => simp [h1, h2]
      | ex c pl => simp [h1]
      | bad => simp [h1]
end
/-- a target's shape, whatever stands behind -/
abbrev TgK := (β : Type) → β → PD → En → (En → β) → β
def TgEq (tgt : PD → En → R En) (k : TgK) : Prop := ∀ (β : Type) (z : β) (d : PD) (ρ : En) (F : En → β), tR tgt z d ρ F = k β z d ρ F
def kN (i : Nat) : TgK := fun _ _ d ρ F => F (ρ.set i (.va d))
def k2 (a b : TgK) : TgK := fun β z d ρ F => un2 z d fun x y => a β z x ρ fun ρ1 => b β z y ρ1 F
def k3 (a b c : TgK) : TgK := fun β z d ρ F => un3 z d fun x y u => a β z x ρ fun ρ1 => b β z y ρ1 fun ρ2 => c β z u ρ2 F
def k4 (a b c e : TgK) : TgK := fun β z d ρ F => un4 z d fun x y u v => a β z x ρ fun ρ1 => b β z y ρ1 fun ρ2 => c β z u ρ2 fun ρ3 => e β z v ρ3 F
theorem tge_n {i : Nat} : TgEq (gN i) (kN i) := fun _ _ _ _ _ => rfl
theorem tge_2 {a b : PD → En → R En} {x y : TgK} (h1 : TgEq a x) (h2 : TgEq b y) : TgEq (gT 2 (gC a (gC b gZ))) (k2 x y) := fun β z d ρ F => by
  rw [tR_2]
  show _ = un2 z d fun a b => x β z a ρ fun ρ1 => y β z b ρ1 F
  simp only [h1 β, h2 β]
theorem tge_3 {a b c : PD → En → R En} {x y u : TgK} (h1 : TgEq a x) (h2 : TgEq b y) (h3 : TgEq c u) : TgEq (gT 3 (gC a (gC b (gC c gZ)))) (k3 x y u) := fun β z d ρ F => by
  rw [tR_3]
  show _ = un3 z d fun a b c => x β z a ρ fun ρ1 => y β z b ρ1 fun ρ2 => u β z c ρ2 F
  simp only [h1 β, h2 β, h3 β]
theorem tge_4 {a b c e : PD → En → R En} {x y u v : TgK} (h1 : TgEq a x) (h2 : TgEq b y) (h3 : TgEq c u) (h4 : TgEq e v) : TgEq (gT 4 (gC a (gC b (gC c (gC e gZ))))) (k4 x y u v) := fun β z d ρ F => by
  rw [tR_4]
  show _ = un4 z d fun a b c e => x β z a ρ fun ρ1 => y β z b ρ1 fun ρ2 => u β z c ρ2 fun ρ3 => v β z e ρ3 F
  simp only [h1 β, h2 β, h3 β, h4 β]

/-! ### comprehensions -/
def compP (q : PD → R (Option PD)) : List PD → R (List PD)
  | [] => .ok []
  | x :: xs => (q x).bind fun o => match o with
    | some d => (compP q xs).bind fun r => .ok (d :: r)
    | none => compP q xs
def lcP (items : List PD) (q : PD → R (Option PD)) : R (List PD) := chk (decide (items.length ≤ big)) (compP q items)
def R.sm (r : R PD) : R (Option PD) := r.nx.bind fun x => .ok (some x)
def R.whn (r : R Bool) (k : R (Option PD)) : R (Option PD) := r.nx.bind fun b => if b = true then k else .ok none
@[simp] theorem R.ok_sm (d : PD) : (R.ok d).sm = .ok (some d) := rfl
@[simp] theorem R.t_whn (k : R (Option PD)) : (R.ok true).whn k = k := rfl
@[simp] theorem R.f_whn (k : R (Option PD)) : (R.ok false).whn k = .ok none := rfl
theorem R.ok_whn (b : Bool) (k : R (Option PD)) : (R.ok b).whn k = if b = true then k else .ok none := rfl
def cLcK (own : List Nat) (src : En → R (List PD)) (tgt : TgK) (p : En → R Bool) (f : En → R PD) : En → R (List PD) := fun ρ => (src ρ).bind fun items => lcP items fun d => tgt _ .bad d (wipeE ρ own) fun ρ1 => (p ρ1).whn (f ρ1).sm
theorem compL_P (tgt : PD → En → R En) (k : TgK) (h : TgEq tgt k) (p : En → R Bool) (f : En → R PD) (ρ : En) : ∀ items, compL tgt p f ρ items = compP (fun d => k _ .bad d ρ fun ρ1 => (p ρ1).whn (f ρ1).sm) items
  | [] => rfl
  | x :: xs => by
    rw [compL, compP, compL_P tgt k h p f ρ xs, ← h (R (Option PD)) .bad x ρ]
    unfold tR
    cases tgt x ρ with
    | ok ρ1 =>
      simp only [R.ok_nx, R.ok_bind, R.whn, R.sm]
      cases p ρ1 with
      | ok b =>
        cases b with
        | true => cases f ρ1 <;> simp
        | false => simp
      | ex c pl => rfl
      | bad => rfl
    | ex c pl => rfl
    | bad => rfl
theorem cLc_K {own : List Nat} {src : En → R (List PD)} {tgt : PD → En → R En} {k : TgK} {p : En → R Bool} {f : En → R PD} (h : TgEq tgt k) : cLc own src tgt p f = cLcK own src k p f := by
  funext ρ
  unfold cLc cLcK lcP
  simp only [compL_P tgt k h]
theorem df_K {X : Cx} {W : WX} {e : Expr} {f g : En → R (List PD)} (h : f = g) (a : DF X W e f) : DF X W e g := h ▸ a
theorem ds_K {X : Cx} {W : WX} {e : Stmt} {f g : En → Fl} (h : f = g) (a : DS X W e f) : DS X W e g := h ▸ a

/-! ### what becomes of a statement's end -/
structure Kt (α : Type) where
  k : Fl → R α
  ret : PD → R α
  hrt : ∀ d, k (.rt d) = ret d
  hex : ∀ c pl ρ, k (.ex c pl ρ) = .ex c pl
  hbad : k .bad = .bad
def Kt.top : Kt PD := ⟨fin, .ok, fun _ => rfl, fun _ _ _ => rfl, rfl⟩
def Kt.seq {α : Type} (K : Kt α) (h : En → Fl) : Kt α := ⟨fun o => match o with
  | .nx ρ => K.k (h ρ)
  | .rt d => K.ret d
  | .bk ρ => K.k (.bk ρ)
  | .ct ρ => K.k (.ct ρ)
  | .ex c pl _ => .ex c pl
  | .bad => .bad, K.ret, fun _ => rfl, fun _ _ _ => rfl, rfl⟩
def Kt.loop {α : Type} (K : Kt α) (go : En → Fl) : Kt α := ⟨fun o => match o with
  | .nx ρ => K.k (go ρ)
  | .ct ρ => K.k (go ρ)
  | .rt d => K.ret d
  | .bk ρ => K.k (.nx ρ)
  | .ex c pl _ => .ex c pl
  | .bad => .bad, K.ret, fun _ => rfl, fun _ _ _ => rfl, rfl⟩
theorem R.bind_ok {α : Type} (r : R α) : r.bind R.ok = r := by cases r <;> rfl
section
variable {α β : Type} {K : Kt α} {g h : En → Fl} {ρ : En} {P A B : R α} {i : Nat} {f : En → R PD} {fs : En → R (List PD)} {a : PD} {l : List PD} {e : R PD} {el : R (List PD)} {c : En → R Bool} {eb : R Bool}
theorem k_toS (r : R β) (k : β → Fl) : K.k (toS ρ r k) = r.bind fun a => K.k (k a) := by
  cases r with
  | ok a => rfl
  | ex c pl => exact K.hex c pl ρ
  | bad => exact K.hbad
theorem q_seq (e : (K.seq h).k (g ρ) = P) : K.k (sSeq g h ρ) = P := by
  rw [← e]
  unfold sSeq Kt.seq
  cases g ρ with
  | nx _ => rfl
  | rt d => exact K.hrt d
  | bk _ => rfl
  | ct _ => rfl
  | ex c pl ρ => exact K.hex c pl ρ
  | bad => exact K.hbad
theorem bind_congr {γ : Type} {r : R β} {p q : β → R γ} (h : ∀ a, p a = q a) : r.bind p = r.bind q := by rw [funext h]
theorem q_setB {p : PD → R α} (e1 : f ρ = e) (h : ∀ a, K.k (.nx (ρ.set i (.va a))) = p a) : K.k (sSet i f ρ) = e.bind p := by
  unfold sSet; rw [k_toS, e1]; exact bind_congr h
theorem q_set (a : PD) (e1 : f ρ = .ok a) (h : K.k (.nx (ρ.set i (.va a))) = P) : K.k (sSet i f ρ) = P := by
  unfold sSet; rw [k_toS, e1]; exact h
theorem q_setLB {p : List PD → R α} (e1 : fs ρ = el) (h : ∀ a, K.k (.nx (ρ.set i (.ol a))) = p a) : K.k (sSetL i fs ρ) = el.bind p := by
  unfold sSetL; rw [k_toS, e1]; exact bind_congr h
theorem q_setL (a : List PD) (e1 : fs ρ = .ok a) (h : K.k (.nx (ρ.set i (.ol a))) = P) : K.k (sSetL i fs ρ) = P := by
  unfold sSetL; rw [k_toS, e1]; exact h
theorem q_drop (e1 : f ρ = e) (h : K.k (.nx ρ) = P) : K.k (sDrop f ρ) = e.bind fun _ => P := by
  unfold sDrop; rw [k_toS, e1]; exact bind_congr fun _ => h
theorem q_ret (hr : K.ret = fun d => A) (e1 : f ρ = .ok a) : True := trivial
theorem q_retT {K : Kt PD} (hr : K.ret = .ok) (e1 : f ρ = e) : K.k (sRet f ρ) = e := by
  unfold sRet; rw [k_toS, e1]
  have : (fun a => K.k (.rt a)) = .ok := by funext a; rw [K.hrt, hr]
  rw [this, R.bind_ok]
theorem q_retS {K : Kt (Option PD)} (hr : K.ret = fun d => .ok (some d)) (e1 : f ρ = e) : K.k (sRet f ρ) = e.bind fun d => .ok (some d) := by
  unfold sRet; rw [k_toS, e1]
  refine bind_congr fun a => ?_
  rw [K.hrt, hr]
theorem q_rtnT {K : Kt PD} (hr : K.ret = .ok) : K.k (sRtN ρ) = .ok .none := by
  show K.k (.rt .none) = _
  rw [K.hrt, hr]
theorem q_exc (x : Str) : K.k (sExc x ρ) = .ex x [] := K.hex x [] ρ
theorem q_if (e1 : c ρ = eb) (h1 : K.k (g ρ) = A) (h2 : K.k (h ρ) = B) : K.k (sIf c g h ρ) = eb.bind fun b => if b = true then A else B := by
  unfold sIf; rw [k_toS, e1]
  refine bind_congr fun b => ?_
  cases b with
  | true => exact h1
  | false => exact h2
theorem q_frz (h : K.k (g (frz i ρ)) = P) : K.k (sFrz i g ρ) = P := h
def appK {α : Type} (l : List PD) (d : PD) (k : List PD → R α) : R α := if l.length < big then k (l ++ [d]) else .bad
def extK {α : Type} (l : List PD) (d : PD) (k : List PD → R α) : R α := match d with
  | .list es => if l.length + es.length ≤ big then k (l ++ es) else .bad
  | _ => .bad
def setK {α : Type} (l : List PD) (d j : PD) (k : List PD → R α) : R α := match j with
  | .int n => match ixN l.length n with
    | some m => k (l.set m d)
    | none => .bad
  | _ => .bad
theorem appK_lt {l : List PD} {d : PD} {k : List PD → R α} (h : l.length < big) : appK l d k = k (l ++ [d]) := if_pos h
theorem q_appB {p : PD → List PD → R α} (hl : ρ[i]? = some (.ol l)) (e1 : f ρ = e) (h : ∀ d l', K.k (.nx (ρ.set i (.ol l'))) = p d l') : K.k (sApp i f ρ) = e.bind fun d => appK l d (p d) := by
  unfold sApp; rw [hl]
  show K.k (toS ρ (f ρ) fun d => if l.length < big then .nx (ρ.set i (.ol (l ++ [d]))) else .bad) = _
  rw [k_toS, e1]
  refine bind_congr fun d => ?_
  unfold appK
  split
  · exact h d _
  · exact K.hbad
theorem q_app {p : List PD → R α} (hl : ρ[i]? = some (.ol l)) (e1 : f ρ = .ok a) (h : ∀ l', K.k (.nx (ρ.set i (.ol l'))) = p l') : K.k (sApp i f ρ) = appK l a p := by
  have := q_appB (K := K) (p := fun _ => p) hl e1 fun _ => h
  exact this
theorem q_ext {p : List PD → R α} (hl : ρ[i]? = some (.ol l)) (e1 : f ρ = e) (h : ∀ l', K.k (.nx (ρ.set i (.ol l'))) = p l') : K.k (sExt i f ρ) = e.bind fun d => extK l d p := by
  unfold sExt; rw [hl]
  show K.k (toS ρ (f ρ) _) = _
  rw [k_toS, e1]
  refine bind_congr fun d => ?_
  unfold extK
  cases d with
  | list es => show K.k (if _ then _ else _) = if _ then _ else _; split; exact h _; exact K.hbad
  | _ => exact K.hbad
theorem q_setI {p : List PD → R α} {f2 : En → R PD} {e2 : R PD} (hl : ρ[i]? = some (.ol l)) (h1 : f ρ = e) (h2 : f2 ρ = e2) (h : ∀ l', K.k (.nx (ρ.set i (.ol l'))) = p l') : K.k (sSetI i f f2 ρ) = e.bind fun d => e2.bind fun j => setK l d j p := by
  unfold sSetI; rw [hl]
  show K.k (toS ρ (f ρ) _) = _
  rw [k_toS, h1]
  refine bind_congr fun d => ?_
  show K.k (toS ρ (f2 ρ) _) = _
  rw [k_toS, h2]
  refine bind_congr fun j => ?_
  unfold setK
  cases j with
  | int n =>
    show K.k (match ixN l.length n with | some m => .nx (ρ.set i (.ol (l.set m d))) | none => .bad) = match ixN l.length n with | some m => p (l.set m d) | none => .bad
    cases ixN l.length n with
    | some m => exact h _
    | none => exact K.hbad
  | _ => exact K.hbad
theorem q_aug {F : PD → PD → R PD} {p : PD → R α} {d : PD} (hv : ρ[i]? = some (.va d)) (e1 : f ρ = e) (h : ∀ z, K.k (.nx (ρ.set i (.va z))) = p z) : K.k (sAug i F f ρ) = (e.bind fun x => F d x).bind p := by
  unfold sAug; rw [hv]
  show K.k (toS ρ (f ρ) _) = _
  rw [k_toS, e1, R.bind_assoc]
  refine bind_congr fun x => ?_
  show K.k (toS ρ (F d x) _) = _
  rw [k_toS]
  exact bind_congr h
theorem q_asg {tgt : PD → En → R En} {p : PD → R α} {k : TgK} (ht : TgEq tgt k) (e1 : f ρ = e) (h : ∀ d, k _ .bad d ρ (fun ρ1 => K.k (.nx ρ1)) = p d) : K.k (sAsg f tgt ρ) = e.bind p := by
  unfold sAsg; rw [k_toS, e1]
  refine bind_congr fun d => ?_
  rw [← h d, ← ht]
  unfold tR
  cases tgt d ρ with
  | ok ρ1 => rfl
  | ex c pl => exact K.hbad
  | bad => exact K.hbad
theorem q_par {f2 : En → R PD} {e2 : R PD} {j : Nat} {p : PD → PD → R α} (h1 : f ρ = e) (h2 : f2 ρ = e2) (h : ∀ a b, K.k (.nx ((ρ.set i (.va a)).set j (.va b))) = p a b) : K.k (sPar i j f f2 ρ) = e.bind fun a => e2.bind fun b => p a b := by
  unfold sPar; rw [k_toS, h1]
  refine bind_congr fun a => ?_
  show K.k (toS ρ (f2 ρ) _) = _
  rw [k_toS, h2]
  exact bind_congr (h a)
theorem q_par3 {f2 f3 : En → R PD} {e2 e3 : R PD} {j m : Nat} {p : PD → PD → PD → R α} (h1 : f ρ = e) (h2 : f2 ρ = e2) (h3 : f3 ρ = e3) (h : ∀ a b c, K.k (.nx (((ρ.set i (.va a)).set j (.va b)).set m (.va c))) = p a b c) : K.k (sPar3 i j m f f2 f3 ρ) = e.bind fun a => e2.bind fun b => e3.bind fun c => p a b c := by
  unfold sPar3; rw [k_toS, h1]
  refine bind_congr fun a => ?_
  show K.k (toS ρ (f2 ρ) _) = _
  rw [k_toS, h2]
  refine bind_congr fun b => ?_
  show K.k (toS ρ (f3 ρ) _) = _
  rw [k_toS, h3]
  exact bind_congr (h a b)

/-! ### loops -/
def forK {S α : Type} (body : PD → S → (S → R α) → (S → R α) → R α) : List PD → S → (S → R α) → R α
  | [], s, k => k s
  | d :: ds, s, k => body d s (fun s' => forK body ds s' k) k
def whK {S α : Type} (c : S → R Bool) (body : S → (S → R α) → (S → R α) → R α) : Nat → S → (S → R α) → R α
  | 0, _, _ => .bad
  | n + 1, s, k => (c s).bind fun b => if b = true then body s (fun s' => whK c body n s' k) k else k s
variable {S : Type} {ret : PD → R α}
theorem for_sim (Fr : S → En → Prop) {tgt : PD → En → R En} {tk : TgK} {body : En → Fl} {bodyP : PD → S → (S → R α) → (S → R α) → R α} (ht : TgEq tgt tk)
    (hb : ∀ (K' : Kt α), K'.ret = ret → ∀ (d : PD) (s : S) (ρ : En) (next brk : S → R α), Fr s ρ → (∀ s' ρ', Fr s' ρ' → K'.k (.nx ρ') = next s') → (∀ s' ρ', Fr s' ρ' → K'.k (.ct ρ') = next s') → (∀ s' ρ', Fr s' ρ' → K'.k (.bk ρ') = brk s') →
      tk _ .bad d ρ (fun ρ1 => K'.k (body ρ1)) = bodyP d s next brk)
    (hr : K.ret = ret) {k : S → R α} (hk : ∀ s ρ, Fr s ρ → K.k (.nx ρ) = k s) : ∀ (items : List PD) (s : S) (ρ : En), Fr s ρ → K.k (forL tgt body items ρ) = forK bodyP items s k
  | [], s, ρ, h => hk s ρ h
  | d :: ds, s, ρ, h => by
    have ih := for_sim Fr ht hb hr hk ds
    have := hb (K.loop (forL tgt body ds)) hr d s ρ (fun s' => forK bodyP ds s' k) k h (fun s' ρ' hf => ih s' ρ' hf) (fun s' ρ' hf => ih s' ρ' hf) (fun s' ρ' hf => hk s' ρ' hf)
    rw [forK, ← this, ← ht, forL]
    unfold tR
    cases tgt d ρ with
    | ok ρ1 =>
      show K.k (match body ρ1 with | .nx ρ2 => forL tgt body ds ρ2 | .ct ρ2 => forL tgt body ds ρ2 | .bk ρ2 => .nx ρ2 | .rt d => .rt d | .ex c pl ρ2 => .ex c pl ρ2 | .bad => .bad) = (K.loop (forL tgt body ds)).k (body ρ1)
      cases body ρ1 with
      | nx _ => rfl
      | ct _ => rfl
      | bk _ => rfl
      | rt d => exact K.hrt d
      | ex c pl ρ2 => exact K.hex c pl ρ2
      | bad => exact K.hbad
    | ex c pl => exact K.hbad
    | bad => exact K.hbad
theorem q_for {src : En → R (List PD)} {tgt : PD → En → R En} {body : En → Fl} {p : List PD → R α} (e1 : src ρ = el) (h : ∀ items, K.k (forL tgt body items ρ) = p items) : K.k (sFor src tgt body ρ) = el.bind p := by
  unfold sFor; rw [k_toS, e1]; exact bind_congr h
theorem wh_sim (Fr : S → En → Prop) {p : En → R Bool} {body : En → Fl} {c : S → R Bool} {bodyP : S → (S → R α) → (S → R α) → R α}
    (hc : ∀ s ρ, Fr s ρ → p ρ = c s)
    (hb : ∀ (K' : Kt α), K'.ret = ret → ∀ (s : S) (ρ : En) (next brk : S → R α), Fr s ρ → (∀ s' ρ', Fr s' ρ' → K'.k (.nx ρ') = next s') → (∀ s' ρ', Fr s' ρ' → K'.k (.ct ρ') = next s') → (∀ s' ρ', Fr s' ρ' → K'.k (.bk ρ') = brk s') →
      K'.k (body ρ) = bodyP s next brk)
    (hr : K.ret = ret) {k : S → R α} (hk : ∀ s ρ, Fr s ρ → K.k (.nx ρ) = k s) : ∀ (n : Nat) (s : S) (ρ : En), Fr s ρ → K.k (whL p body n ρ) = whK c bodyP n s k
  | 0, s, ρ, h => K.hbad
  | n + 1, s, ρ, h => by
    have ih := wh_sim Fr hc hb hr hk n
    have := hb (K.loop (whL p body n)) hr s ρ (fun s' => whK c bodyP n s' k) k h (fun s' ρ' hf => ih s' ρ' hf) (fun s' ρ' hf => ih s' ρ' hf) (fun s' ρ' hf => hk s' ρ' hf)
    rw [whK, ← this, whL, k_toS, hc s ρ h]
    refine bind_congr fun b => ?_
    cases b with
    | false => exact hk s ρ h
    | true =>
      rw [if_pos rfl, if_pos rfl]
      cases body ρ with
      | nx _ => rfl
      | ct _ => rfl
      | bk _ => rfl
      | rt d => exact K.hrt d
      | ex c pl ρ2 => exact K.hex c pl ρ2
      | bad => exact K.hbad

/-! ### try -/
def hdK {α : Type} : List (Str × R α) → Str → List (Str × PD) → R α
  | [], c, pl => .ex c pl
  | (n, r) :: l, c, pl => if (c == n) = true then r else hdK l c pl
def tryK {α : Type} (cs : List Str) (b : R (Option PD)) (hs : List (Str × R α)) (ret : PD → R α) (aft : R α) : R α := match b with
  | .ok none => aft
  | .ok (some d) => ret d
  | .ex c pl => if cs.contains c = true then hdK hs c pl else .bad
  | .bad => .bad
/-- the handlers, whatever the frame -/
inductive HdK (K : Kt α) : List (Str × (En → Fl)) → List (Str × R α) → Prop
  | nil : HdK K [] []
  | cons {x : Str} {g : En → Fl} {r : R α} {l : List (Str × (En → Fl))} {l' : List (Str × R α)} (h : ∀ ρ, K.k (noEx (g ρ)) = r) (t : HdK K l l') : HdK K ((x, g) :: l) ((x, r) :: l')
theorem hdk_ok {hs : List (Str × (En → Fl))} {hs' : List (Str × R α)} (h : HdK K hs hs') : ∀ (c : Str) (pl : List (Str × PD)) (ρ : En), K.k (hdl hs c pl ρ) = hdK hs' c pl := by
  induction h with
  | nil => intro c pl ρ; exact K.hex c pl ρ
  | cons h t ih =>
    rename_i x g r l l'
    intro c pl ρ
    rw [hdl, hdK]
    by_cases hx : (c == x) = true
    · rw [if_pos hx, if_pos hx]; exact h ρ
    · rw [if_neg hx, if_neg hx]
      exact ih c pl ρ
theorem q_try {cs : List Str} {body : En → Fl} {hs : List (Str × (En → Fl))} {hs' : List (Str × R α)} {b : R (Option PD)} (Fr : En → Prop)
    (hB : ∀ K' : Kt (Option PD), (K'.ret = fun d => .ok (some d)) → (∀ ρ', Fr ρ' → K'.k (.nx ρ') = .ok none) → K'.k (body ρ) = b)
    (hN : ∀ ρ', Fr ρ' → K.k (.nx ρ') = P) (hH : HdK K hs hs') (hr : K.ret = ret) :
    K.k (sTry cs body hs ρ) = tryK cs b hs' ret P := by
  classical
  let K1 : R (Option PD) → Kt (Option PD) := fun z => ⟨fun o => match o with
    | .nx ρ' => if Fr ρ' then .ok none else z
    | .rt d => .ok (some d)
    | .ex c pl _ => .ex c pl
    | .bk _ => z
    | .ct _ => z
    | .bad => .bad, fun d => .ok (some d), fun _ => rfl, fun _ _ _ => rfl, rfl⟩
  have h1 := hB (K1 .bad) rfl (fun ρ' h => if_pos h)
  have h2 := hB (K1 (.ok none)) rfl (fun ρ' h => if_pos h)
  unfold sTry
  cases hb : body ρ with
  | nx ρ' =>
    rw [hb] at h1 h2
    by_cases hf : Fr ρ'
    · have : b = .ok none := h1.symm.trans (if_pos hf)
      rw [this]
      exact hN ρ' hf
    · have e1 : b = .bad := h1.symm.trans (if_neg hf)
      have e2 : b = .ok none := h2.symm.trans (if_neg hf)
      rw [e1] at e2; cases e2
  | rt d =>
    rw [hb] at h1
    have : b = .ok (some d) := h1.symm
    rw [this, ← hr]
    exact K.hrt d
  | ex c pl ρ' =>
    rw [hb] at h1
    have : b = .ex c pl := h1.symm
    rw [this]
    show K.k (if cs.contains c = true then hdl hs c pl ρ' else .bad) = if cs.contains c = true then hdK hs' c pl else .bad
    split
    · exact hdk_ok hH c pl ρ'
    · exact K.hbad
  | bk ρ' =>
    rw [hb] at h1 h2
    have e1 : b = .bad := h1.symm
    have e2 : b = .ok none := h2.symm
    rw [e1] at e2; cases e2
  | ct ρ' =>
    rw [hb] at h1 h2
    have e1 : b = .bad := h1.symm
    have e2 : b = .ok none := h2.symm
    rw [e1] at e2; cases e2
  | bad =>
    rw [hb] at h1
    have : b = .bad := h1.symm
    rw [this]
    exact K.hbad
theorem q_retSo {K : Kt (Option PD)} (hr : K.ret = fun d => .ok (some d)) (e1 : f ρ = .ok a) : K.k (sRet f ρ) = .ok (some a) := q_retS hr e1
theorem q_nx (ρ' : En) (e : ρ = ρ') (p : K.k (h ρ') = P) : (K.seq h).k (.nx ρ) = P := by subst e; exact p
theorem q_at (ρ' : En) (e : ρ = ρ') (p : K.k (h ρ') = P) : K.k (h ρ) = P := by subst e; exact p
theorem q_ifo {b : Bool} (e1 : c ρ = .ok b) (h1 : K.k (g ρ) = A) (h2 : K.k (h ρ) = B) : K.k (sIf c g h ρ) = if b = true then A else B := q_if e1 h1 h2
theorem q_foro {src : En → R (List PD)} {tgt : PD → En → R En} {body : En → Fl} (items : List PD) (e1 : src ρ = .ok items) (h : K.k (forL tgt body items ρ) = P) : K.k (sFor src tgt body ρ) = P := by
  unfold sFor; rw [k_toS, e1]; exact h
theorem q_dropo (e1 : f ρ = .ok a) (h : K.k (.nx ρ) = P) : K.k (sDrop f ρ) = P := by
  unfold sDrop; rw [k_toS, e1]; exact h
theorem q_kN {γ : Type} {z : γ} {d : PD} {F : En → γ} {Q : γ} (h : F (ρ.set i (.va d)) = Q) : kN i γ z d ρ F = Q := h
theorem q_k2 {γ : Type} {z : γ} {d : PD} {F : En → γ} {x y : TgK} {p : PD → PD → γ} (h : ∀ a b, x γ z a ρ (fun ρ1 => y γ z b ρ1 F) = p a b) : k2 x y γ z d ρ F = un2 z d p := by
  have : (fun a b => x γ z a ρ (fun ρ1 => y γ z b ρ1 F)) = p := by funext a b; exact h a b
  rw [← this]; rfl
theorem q_k3 {γ : Type} {z : γ} {d : PD} {F : En → γ} {x y u : TgK} {p : PD → PD → PD → γ} (h : ∀ a b c, x γ z a ρ (fun ρ1 => y γ z b ρ1 fun ρ2 => u γ z c ρ2 F) = p a b c) : k3 x y u γ z d ρ F = un3 z d p := by
  have : (fun a b c => x γ z a ρ (fun ρ1 => y γ z b ρ1 fun ρ2 => u γ z c ρ2 F)) = p := by funext a b c; exact h a b c
  rw [← this]; rfl
theorem q_k4 {γ : Type} {z : γ} {d : PD} {F : En → γ} {x y u v : TgK} {p : PD → PD → PD → PD → γ} (h : ∀ a b c e, x γ z a ρ (fun ρ1 => y γ z b ρ1 fun ρ2 => u γ z c ρ2 fun ρ3 => v γ z e ρ3 F) = p a b c e) : k4 x y u v γ z d ρ F = un4 z d p := by
  have : (fun a b c e => x γ z a ρ (fun ρ1 => y γ z b ρ1 fun ρ2 => u γ z c ρ2 fun ρ3 => v γ z e ρ3 F)) = p := by funext a b c e; exact h a b c e
  rw [← this]; rfl
theorem q_asgo {tgt : PD → En → R En} {k : TgK} (d : PD) (ht : TgEq tgt k) (e1 : f ρ = .ok d) (h : k _ .bad d ρ (fun ρ1 => K.k (.nx ρ1)) = P) : K.k (sAsg f tgt ρ) = P := by
  have := q_asg (K := K) (p := fun _ => P) ht (e := .ok d) e1
  unfold sAsg; rw [k_toS, e1, ← h, ← ht]
  unfold tR
  show K.k (match tgt d ρ with | .ok ρ' => .nx ρ' | _ => .bad) = _
  cases tgt d ρ with
  | ok ρ1 => rfl
  | ex c pl => exact K.hbad
  | bad => exact K.hbad
theorem q_paro {f2 : En → R PD} {j : Nat} (a b : PD) (h1 : f ρ = .ok a) (h2 : f2 ρ = .ok b) (h : K.k (.nx ((ρ.set i (.va a)).set j (.va b))) = P) : K.k (sPar i j f f2 ρ) = P := by
  unfold sPar; rw [k_toS, h1]
  show K.k (toS ρ (f2 ρ) _) = _
  rw [k_toS, h2]; exact h
theorem q_augo {F : PD → PD → R PD} {p : PD → R α} {d : PD} (x : PD) (hv : ρ[i]? = some (.va d)) (e1 : f ρ = .ok x) (h : ∀ z, K.k (.nx (ρ.set i (.va z))) = p z) : K.k (sAug i F f ρ) = (F d x).bind p := q_aug hv e1 h
theorem q_bk (p : K.k (.bk ρ) = P) : (K.seq h).k (.bk ρ) = P := p
theorem q_ct (p : K.k (.ct ρ) = P) : (K.seq h).k (.ct ρ) = P := p
theorem K_rt {r : PD → R α} {d : PD} (hr : K.ret = r) : K.k (.rt d) = r d := by rw [K.hrt, hr]
/-- `oS`'s and the others' unnamed parts -/
def optI (d : PD) : R (Option Int) := match d with
  | .int i => .ok (some i)
  | _ => .bad
def mtL (F : List PD → List PD → R PD) (d : PD) (es : R (List PD)) : R PD := match d with
  | .list ds => es.bind fun es => F ds es
  | _ => .bad
def enmL (d : PD) : R (List PD) := (itD d).bind fun ds => .ok (enumL 0 ds)
def rgLst (d : Int × Int) : R (List PD) := chk (rgOk d) (.ok (rangeL d.1 (d.2 - d.1).toNat))
def rgTup (d : Int × Int) : R PD := chk (rgOk d) (.ok (.tuple (rangeL d.1 (d.2 - d.1).toNat)))
def repD (ds : List PD) (d : PD) : R (List PD) := match d with
  | .int k => chk (decide (-1000000 ≤ k ∧ k ≤ 1000000 ∧ ds.length * k.toNat ≤ big)) (.ok (repL k.toNat ds))
  | _ => .bad
@[simp] theorem optI_i (i : Int) : optI (.int i) = .ok (some i) := rfl
end
end DL
namespace DL
open PySem PySem.Spec L2
/-! ### a call without arguments -/
section
variable {X : Cx} {W : WX} {k : Nat} {f : Addr} {fd : FuncData} {ps : List Str} {F : List PD → R PD} {x : Str} {p pos : Pos}
theorem pe_callS0 {sp : Sp} {E : L2.St → XK} {CX : CXT} (F : FnOk X.prog X.w X.K X.mg X.base CX k f fd ps sp) (hr : Room k X.A) (hg : Gl X x) (hm : X.mg x = some (.ref f)) (hk : PySem.W.keepIn X.K (.ref f) = true) (hb : Binds X.K fd ps []) (hx : ∀ σ, PassesAt CX X σ (E σ))
    (hdb : (x == ("__debug__" : Str)) = false := by decide) : PE X (.Call (.Name x p) [] [] pos) (tCallS sp E tNil) := by
  refine ⟨fun pins s σ H Q I h => ?_⟩
  refine wpAny_Call_Name_kw (ld_glob I hg hm ?_ hdb)
  exact PySem.W.callWith_K0 I.kIn hk (run_fnS (us := []) F hr hb (hx σ) I .nil h)
theorem de_cl0 (G : FnD X.prog X.w X.K X.mg X.base k f fd ps F) (hr : Room k X.A) (hg : Gl X x) (hm : X.mg x = some (.ref f)) (hk : PySem.W.keepIn X.K (.ref f) = true) (hb : Binds X.K fd ps []) (tk : Takes X W)
    (hn : ps.length = 0 := by rfl) (hdb : (x == ("__debug__" : Str)) = false := by decide) : DE X W (.Call (.Name x p) [] [] pos) (cCall 0 F cNil) := by
  refine ⟨_, pe_callS0 (E := WE W) G hr hg hm hk hb (fun σ => passAt tk σ) hdb, fun H0 O0 O ρ σ H Q rl o => ?_⟩
  refine ⟨O, [], rl.al, hn.symm, .nil, ?_⟩
  have o : OutP X W O σ H (F []) _ := o
  cases q : F [] with
  | ok d => rw [q] at o; exact fun v H' e' hd => o H' e' v hd
  | ex c pl => rw [q] at o; exact fun cls dx H' e' i => o cls dx H' e' i
  | bad => rw [q] at o; exact o.elim
end

/-! ### a, b = [..], y -/
def sParL (i j : Nat) (f : En → R (List PD)) (g : En → R PD) : En → Fl := fun ρ => toS ρ (f ρ) fun ds => toS ρ (g ρ) fun d' => .nx ((ρ.set i (.ol ds)).set j (.va d'))
section
variable {K : PySem.W.Frag} {H0 H : Hp} {O0 O : Addr → Prop} {ρ : En} {σ : L2.St} {p : Addr} {o : HO}
/-- a new own thing that no slot holds yet -/
theorem Rel.addO (h : Rel K H0 O0 O H ρ σ) (n : H p = none) : Rel K H0 O0 (fun q => O q ∨ q = p) (upd H p o) ρ σ := by
  refine ⟨h.fr.trans (Same.updNew n), fun q z => .inl (h.sub q z), fun q z => ?_, fun q z => ?_, h.len, fun j s q => ?_, h.dj⟩
  · rcases z with z | rfl
    · exact h.nw q z
    · exact .inr (h.fr.free n)
  · by_cases hq : q = p
    · subst hq; rw [upd_same]; exact fun y => nomatch y
    · rw [upd_ne hq]; exact h.al q (z.resolve_right hq)
  · refine (h.sl j s q).move (wo_add n) fun r hr hO hn => .inl ⟨.inl hO, ?_⟩
    rw [upd_ne (fun z => hn (by rw [z]; exact n))]
/-- .. and now one does -/
theorem Rel.setOwn {ds : List PD} {vs : List V} (h : Rel K H0 O0 O H ρ σ) (i : Nat) (hO : O p) (n0 : ¬ O0 p) (hp : H p = some (.lst vs)) (hd : DqAll K (wo H O) vs ds) (hno : ∀ (j : Nat) (s : Sl), ρ[j]? = some s → Sl.own s = true → σ[j]? ≠ some (some (.ref p))) :
    Rel K H0 O0 O H (ρ.set i (.ol ds)) (σ.set i (some (.ref p))) := by
  refine ⟨h.fr, h.sub, h.nw, h.al, by simp [h.len], fun j s q => ?_, fun j l s s2 q hjl g g' ns ns' e e' => ?_⟩
  · rcases get_set q with ⟨rfl, rfl, hi⟩ | ⟨hj, q⟩
    · rw [List.getElem?_set_self (by rw [← h.len]; exact hi)]; exact ⟨p, vs, rfl, hO, n0, hp, hd⟩
    · rw [List.getElem?_set_ne (Ne.symm hj)]; exact h.sl j s q
  · rcases get_set g with ⟨rfl, rfl, hi⟩ | ⟨hj, k1⟩
    · rcases get_set g' with ⟨rfl, rfl, hl⟩ | ⟨hl, k2⟩
      · exact hjl rfl
      · rw [List.getElem?_set_self (by rw [← h.len]; exact hi)] at e
        rw [List.getElem?_set_ne (Ne.symm hl)] at e'
        cases e
        exact hno l s2 k2 ns' e'
    · rw [List.getElem?_set_ne (Ne.symm hj)] at e
      rcases get_set g' with ⟨rfl, rfl, hl⟩ | ⟨hl, k2⟩
      · rw [List.getElem?_set_self (by rw [← h.len]; exact hl)] at e'
        cases e'
        exact hno j s k1 ns e
      · rw [List.getElem?_set_ne (Ne.symm hl)] at e'
        exact h.dj j l s s2 q hjl k1 k2 ns ns' e e'
end
section
variable {X : Cx} {W : WX} {x y : Str} {i j : Nat} {a b : Expr} {fl : En → R (List PD)} {g : En → R PD} {px py pt pos : Pos} {kt k2 : Nat} {pt2 : Pos}
theorem ds_parL (hc : X.calm = true) (hN : X.N.Nodup) (hi : X.N[i]? = some x) (hj : X.N[j]? = some y) (hij : i ≠ j)
    (hx : X.env.scope.names.lookup x = some .local) (hy : X.env.scope.names.lookup y = some .local) (ha : DF X W a fl) (hb : DE X W b g)
    (hw : swappedStores [.Tuple [.Name x px, .Name y py] kt pt] (.Tuple [a, b] k2 pt2) X.env = pure (some [x, y]))
    (hs : swapsWithSole [.Tuple [.Name x px, .Name y py] kt pt] (.Tuple [a, b] k2 pt2) pos.line X.env = pure false := by rfl)
    (h1 : starEach [a, b] X.env = (false, eval a X.env) :: starEach [b] X.env := by rfl) (h2 : starEach [b] X.env = (false, eval b X.env) :: starEach [] X.env := by rfl) :
    DS X W (.Assign [.Tuple [.Name x px, .Name y py] kt pt] (.Tuple [a, b] k2 pt2) pos) (sParL i j fl g) := by
  obtain ⟨t, pt, qt⟩ := ha.ex
  obtain ⟨u, pu, qu⟩ := hb.ex
  refine ⟨_, ps_par hc hN hi hj hij hx hy (pa_cons pt (pa_cons pu pa_nil h2) h1) hw hs, fun H0 O0 O ρ σ H D rl o => ?_⟩
  refine qt H0 O0 O ρ σ H _ rl ((OutS.ofR rl o).imp fun ds H1 e1 o1 p vs H2 np hv e2 => ?_)
  subst e2
  have r1 := rl.grow e1
  have n0 : ¬ O0 p := fun z => r1.al p (r1.sub p z) np
  have nO : ¬ O p := r1.fresh np
  have r2 := r1.addO (o := .lst vs) np
  have hno : ∀ (j : Nat) (s : Sl), ρ[j]? = some s → Sl.own s = true → σ[j]? ≠ some (some (.ref p)) := fun j s q ns e => by
    obtain ⟨r, e1, _, _, e2⟩ := (r1.sl j s q).own_at ns
    rw [e] at e1; cases e1
    exact e2 np
  refine qu H0 O0 _ ρ σ _ _ r2 ((OutS.ofR r2 o1).imp fun d' H3 e3 o3 v' hv' => ?_)
  have r3 := r2.grow e3
  have hp : H3 p = some (.lst vs) := e3 _ _ upd_same
  have r4 := r3.setOwn i (.inr rfl) n0 hp ((hv.mono (wo_add np)).mono (same_wo e3)) hno
  exact ⟨_, v', rfl, o3 _ H3 _ (r4.setV hv' j)⟩
theorem q_parL {α : Type} {K : Kt α} {ρ : En} {f : En → R (List PD)} {f2 : En → R PD} {P : R α} (l : List PD) (b : PD) (h1 : f ρ = .ok l) (h2 : f2 ρ = .ok b) (h : K.k (.nx ((ρ.set i (.ol l)).set j (.va b))) = P) : K.k (sParL i j f f2 ρ) = P := by
  unfold sParL; rw [k_toS, h1]
  show K.k (toS ρ (f2 ρ) _) = _
  rw [k_toS, h2]; exact h
theorem q_parLB {α : Type} {K : Kt α} {ρ : En} {f : En → R (List PD)} {f2 : En → R PD} {e : R (List PD)} {e2 : R PD} {p : List PD → PD → R α} (h1 : f ρ = e) (h2 : f2 ρ = e2) (h : ∀ l b, K.k (.nx ((ρ.set i (.ol l)).set j (.va b))) = p l b) : K.k (sParL i j f f2 ρ) = e.bind fun l => e2.bind fun b => p l b := by
  unfold sParL; rw [k_toS, h1]
  refine bind_congr fun l => ?_
  show K.k (toS ρ (f2 ρ) _) = _
  rw [k_toS, h2]; exact bind_congr (h l)
end
end DL
namespace DL
open PySem PySem.Spec L2
/-! ### comprehensions and loops over things that are told as data -/
@[simp] theorem cp_nil (q : PD → R (Option PD)) : compP q [] = .ok [] := rfl
@[simp] theorem cp_cons (q : PD → R (Option PD)) (x : PD) (xs : List PD) : compP q (x :: xs) = (q x).bind fun o => match o with
    | some d => (compP q xs).bind fun r => .ok (d :: r)
    | none => compP q xs := rfl
theorem big_eq : big = 10000000 := rfl
section
variable {α γ : Type} {q : PD → R (Option PD)}
theorem compP_fm (enc : α → PD) (dec : γ → PD) (b : α → Bool) (g : α → γ) : ∀ (xs : List α), (∀ x ∈ xs, q (enc x) = .ok (if b x = true then some (dec (g x)) else none)) → compP q (xs.map enc) = .ok (((xs.filter b).map g).map dec)
  | [], _ => rfl
  | x :: xs, h => by
    have ih := compP_fm enc dec b g xs fun y hy => h y (List.mem_cons_of_mem _ hy)
    rw [List.map_cons, cp_cons, h x List.mem_cons_self, R.ok_bind]
    cases hb : b x with
    | true => simp [ih, hb]
    | false => simp [ih, hb]
theorem compP_all (enc : α → PD) (dec : γ → PD) (g : α → γ) (xs : List α) (h : ∀ x ∈ xs, q (enc x) = .ok (some (dec (g x)))) : compP q (xs.map enc) = .ok ((xs.map g).map dec) := by
  have := compP_fm (q := q) enc dec (fun _ => true) g xs fun x hx => h x hx
  rwa [List.filter_eq_self.mpr fun _ _ => rfl] at this
theorem lcP_fm (enc : α → PD) (dec : γ → PD) (b : α → Bool) (g : α → γ) (xs : List α) (hl : xs.length ≤ 10000000) (h : ∀ x ∈ xs, q (enc x) = .ok (if b x = true then some (dec (g x)) else none)) : lcP (xs.map enc) q = .ok (((xs.filter b).map g).map dec) := by
  unfold lcP
  rw [List.length_map, chk_of (decide_eq_true (show xs.length ≤ big from hl))]
  exact compP_fm enc dec b g xs h
theorem lcP_all (enc : α → PD) (dec : γ → PD) (g : α → γ) (xs : List α) (hl : xs.length ≤ 10000000) (h : ∀ x ∈ xs, q (enc x) = .ok (some (dec (g x)))) : lcP (xs.map enc) q = .ok ((xs.map g).map dec) := by
  unfold lcP
  rw [List.length_map, chk_of (decide_eq_true (show xs.length ≤ big from hl))]
  exact compP_all enc dec g xs h
/-- only the ones that are good -/
theorem lcP_fil (enc : α → PD) (b : α → Bool) (xs : List α) (hl : xs.length ≤ 10000000) (h : ∀ x ∈ xs, q (enc x) = .ok (if b x = true then some (enc x) else none)) : lcP (xs.map enc) q = .ok ((xs.filter b).map enc) := by
  have := lcP_fm enc enc b id xs hl h
  rwa [List.map_id] at this
end
section
variable {S α γ β : Type} {body : PD → S → (S → R γ) → (S → R γ) → R γ} {k : S → R γ}
theorem forK_skip (enc : α → PD) (s : S) : ∀ (xs : List α), (∀ x ∈ xs, ∀ next brk, body (enc x) s next brk = next s) → forK body (xs.map enc) s k = k s
  | [], _ => rfl
  | x :: xs, h => by
    rw [List.map_cons, forK, h x List.mem_cons_self]
    exact forK_skip enc s xs fun y hy => h y (List.mem_cons_of_mem _ hy)
theorem forK_fold (enc : α → PD) (E : β → S) (step : β → α → β) : ∀ (xs : List α) (b : β), (∀ x ∈ xs, ∀ b next brk, body (enc x) (E b) next brk = next (E (step b x))) → forK body (xs.map enc) (E b) k = k (E (xs.foldl step b))
  | [], _, _ => rfl
  | x :: xs, b, h => by
    rw [List.map_cons, forK, h x List.mem_cons_self]
    exact forK_fold enc E step xs _ fun y hy => h y (List.mem_cons_of_mem _ hy)
theorem forK_go (enc : α → PD) (P : Nat → S → Prop) : ∀ (xs : List α) (i : Nat) (s : S), (∀ j x s next brk, xs[j]? = some x → P (i + j) s → ∃ s', P (i + j + 1) s' ∧ body (enc x) s next brk = next s') → P i s → ∃ s', P (i + xs.length) s' ∧ forK body (xs.map enc) s k = k s'
  | [], i, s, _, h0 => ⟨s, h0, rfl⟩
  | x :: xs, i, s, h, h0 => by
    obtain ⟨s1, p1, e1⟩ := h 0 x s (fun s' => forK body (xs.map enc) s' k) k rfl h0
    obtain ⟨s2, p2, e2⟩ := forK_go enc P xs (i + 1) s1 (fun j y s next brk hj hp => by
      have := h (j + 1) y s next brk hj (by rwa [show i + (j + 1) = i + 1 + j by omega])
      rwa [show i + (j + 1) + 1 = i + 1 + j + 1 by omega] at this) p1
    refine ⟨s2, by rwa [show i + (x :: xs).length = i + 1 + xs.length by rw [List.length_cons]; omega], ?_⟩
    rw [List.map_cons, forK, e1, e2]
theorem forK_inv (enc : α → PD) (P : Nat → S → Prop) (xs : List α) {s : S} (h0 : P 0 s) (h : ∀ j x s next brk, xs[j]? = some x → P j s → ∃ s', P (j + 1) s' ∧ body (enc x) s next brk = next s') : ∃ s', P xs.length s' ∧ forK body (xs.map enc) s k = k s' := by
  have := forK_go (k := k) enc P xs 0 s (fun j x s next brk hj hp => by rw [Nat.zero_add] at hp ⊢; exact h j x s next brk hj hp) h0
  rwa [Nat.zero_add] at this
end
/-- list(range(..)) and the like -/
theorem rg1_rng {n : Nat} (h : n ≤ 10000000) : rg1 (.int (n : Nat)) = .ok ((rng 0 n).map PyData.int) := by
  rw [a_rg1, chk_of (decide_eq_true (by omega)), rangeL_rng, Int.toNat_natCast]
theorem ne_refl {d : PD} (h : nod d = true) (h2 : d.depth ≤ 100) : neD d d = .ok (.bool false) := by
  unfold neD dOk
  rw [eqv_self d h, Nat.min_self]
  simp [h2]
theorem eq_refl' {d : PD} (h : nod d = true) (h2 : d.depth ≤ 100) : eqD d d = .ok (.bool true) := by
  unfold eqD dOk
  rw [eqv_self d h, Nat.min_self]
  simp [h2]
theorem a_eqS (x y : Str) : eqD (.str x) (.str y) = .ok (.bool (x == y)) := by
  unfold eqD dOk
  simp [PyData.eqv]
theorem a_neS (x y : Str) : neD (.str x) (.str y) = .ok (.bool (!(x == y))) := by
  unfold neD dOk
  simp [PyData.eqv]
/-! ### numbers, truth values -/
theorem in_ints (v : Int) (ms : List Int) : inD (.int v) (.list (ms.map PyData.int)) = .ok (.bool (decide (v ∈ ms))) ∧ notinD (.int v) (.list (ms.map PyData.int)) = .ok (.bool (!decide (v ∈ ms))) := by
  have e : ((ms.map PyData.int).any fun y => PyData.eqv y (.int v)) = decide (v ∈ ms) := by
    induction ms with
    | nil => rfl
    | cons x xs ih =>
      rw [List.map_cons, List.any_cons, ih]
      by_cases h : x = v
      · simp [h, PyData.eqv]
      · simp [h, PyData.eqv, Ne.symm h]
  have ok : inOk (.int v) (ms.map PyData.int) = true := by
    unfold inOk
    rw [decide_eq_true_eq, dp_int]; omega
  constructor <;> simp [inD, notinD, ok, e]
theorem best_ints (x : Int) (xs : List Int) : (alikes ((x :: xs).map PyData.int) && decide (PyData.depthAll ((x :: xs).map PyData.int) ≤ 100)) = true := by
  rw [Bool.and_eq_true, decide_eq_true_eq]
  constructor
  · unfold alikes
    rw [List.all_eq_true]
    intro a ha
    obtain ⟨p, _, rfl⟩ := List.mem_map.mp ha
    rw [Bool.and_eq_true]
    refine ⟨?_, rfl⟩
    rw [List.all_eq_true]
    intro b hb
    obtain ⟨q, _, rfl⟩ := List.mem_map.mp hb
    simp [PySem.W.alike]
  · refine depthAll_le _ _ fun d hd => ?_
    obtain ⟨p, _, rfl⟩ := List.mem_map.mp hd
    simp
theorem min_ints (x : Int) (xs : List Int) : minD1 [.list (.int x :: xs.map PyData.int)] = .ok (.int (xs.foldl min x)) := by
  have e : minD1 [.list (.int x :: xs.map PyData.int)] = chk (alikes ((x :: xs).map PyData.int) && decide (PyData.depthAll ((x :: xs).map PyData.int) ≤ 100)) (.ok (PySem.W.minD (.int x) (xs.map PyData.int))) := rfl
  rw [e, chk_of (best_ints x xs), PySem.W.minD_ints]
theorem max_ints (x : Int) (xs : List Int) : maxD1 [.list (.int x :: xs.map PyData.int)] = .ok (.int (xs.foldl max x)) := by
  have e : maxD1 [.list (.int x :: xs.map PyData.int)] = chk (alikes ((x :: xs).map PyData.int) && decide (PyData.depthAll ((x :: xs).map PyData.int) ≤ 100)) (.ok (PySem.W.maxD (.int x) (xs.map PyData.int))) := rfl
  rw [e, chk_of (best_ints x xs), PySem.W.maxD_ints]
theorem foldl_max_mem : ∀ (xs : List Int) (x : Int), xs.foldl max x ∈ x :: xs ∧ ∀ y ∈ x :: xs, y ≤ xs.foldl max x
  | [], x => ⟨List.mem_cons_self, fun y hy => by rw [List.mem_singleton.mp hy]; exact Int.le_refl _⟩
  | z :: xs, x => by
    obtain ⟨h1, h2⟩ := foldl_max_mem xs (max x z)
    rw [List.foldl_cons]
    refine ⟨?_, fun y hy => ?_⟩
    · rcases List.mem_cons.mp h1 with h1 | h1
      · rw [h1]
        rcases Int.le_total x z with h | h
        · rw [Int.max_eq_right h]; exact List.mem_cons_of_mem _ List.mem_cons_self
        · rw [Int.max_eq_left h]; exact List.mem_cons_self
      · exact List.mem_cons_of_mem _ (List.mem_cons_of_mem _ h1)
    · have h3 := h2 (max x z) List.mem_cons_self
      rcases List.mem_cons.mp hy with rfl | hy
      · omega
      · rcases List.mem_cons.mp hy with rfl | hy
        · omega
        · exact h2 y (List.mem_cons_of_mem _ hy)
theorem foldl_min_mem : ∀ (xs : List Int) (x : Int), xs.foldl min x ∈ x :: xs ∧ ∀ y ∈ x :: xs, xs.foldl min x ≤ y
  | [], x => ⟨List.mem_cons_self, fun y hy => by rw [List.mem_singleton.mp hy]; exact Int.le_refl _⟩
  | z :: xs, x => by
    obtain ⟨h1, h2⟩ := foldl_min_mem xs (min x z)
    rw [List.foldl_cons]
    refine ⟨?_, fun y hy => ?_⟩
    · rcases List.mem_cons.mp h1 with h1 | h1
      · rw [h1]
        rcases Int.le_total x z with h | h
        · rw [Int.min_eq_left h]; exact List.mem_cons_self
        · rw [Int.min_eq_right h]; exact List.mem_cons_of_mem _ List.mem_cons_self
      · exact List.mem_cons_of_mem _ (List.mem_cons_of_mem _ h1)
    · have h3 := h2 (min x z) List.mem_cons_self
      rcases List.mem_cons.mp hy with rfl | hy
      · omega
      · rcases List.mem_cons.mp hy with rfl | hy
        · omega
        · exact h2 y (List.mem_cons_of_mem _ hy)
theorem max_is {xs : List Int} {c : Int} (hc : c ∈ xs) (hm : ∀ y ∈ xs, y ≤ c) : maxD1 [.list (xs.map PyData.int)] = .ok (.int c) := by
  cases xs with
  | nil => cases hc
  | cons x xs =>
    obtain ⟨h1, h2⟩ := foldl_max_mem xs x
    have : xs.foldl max x = c := Int.le_antisymm (hm _ h1) (h2 _ hc)
    rw [List.map_cons, max_ints, this]
theorem min_is {xs : List Int} {c : Int} (hc : c ∈ xs) (hm : ∀ y ∈ xs, c ≤ y) : minD1 [.list (xs.map PyData.int)] = .ok (.int c) := by
  cases xs with
  | nil => cases hc
  | cons x xs =>
    obtain ⟨h1, h2⟩ := foldl_min_mem xs x
    have : xs.foldl min x = c := Int.le_antisymm (h2 _ hc) (hm _ h1)
    rw [List.map_cons, min_ints, this]
theorem find_is (c : Int) : ∀ (xs : List Int) (j : Nat), xs[j]? = some c → (∀ m : Nat, m < j → xs[m]? ≠ some c) → findI (.int c) (xs.map PyData.int) = some j
  | [], j, h, _ => by simp at h
  | x :: xs, j, h, hn => by
    rw [List.map_cons, findI]
    cases j with
    | zero =>
      simp at h; subst h
      simp [PyData.eqv]
    | succ j =>
      have e : x ≠ c := by simpa using hn 0 (by omega)
      rw [if_neg (by simp [PyData.eqv, e]), find_is c xs j (by simpa using h) fun m hm => by simpa using hn (m + 1) (by omega)]; rfl
theorem all_bools (bs : List Bool) : allD [.list (bs.map PyData.bool)] = .ok (.bool (bs.all id)) := by
  rw [a_all, chk_of (by rw [List.all_eq_true]; intro d hd; obtain ⟨b, _, rfl⟩ := List.mem_map.mp hd; rfl), List.all_map]; rfl
theorem any_bools (bs : List Bool) : anyD [.list (bs.map PyData.bool)] = .ok (.bool (bs.any id)) := by
  rw [a_any, chk_of (by rw [List.all_eq_true]; intro d hd; obtain ⟨b, _, rfl⟩ := List.mem_map.mp hd; rfl), List.any_map]; rfl
section
variable {α : Type} (enc : α → PD)
theorem cutL_drop {β : Type} (xs : List β) (k : Nat) : cutL xs (some (k : Int)) none = xs.drop k := by
  unfold cutL
  rw [HT.sIx_none, HT.sIx_nat]
  by_cases h : k ≤ xs.length
  · rw [Nat.min_eq_left h, List.take_of_length_le (by rw [List.length_drop]; exact Nat.le_refl _)]
  · rw [Nat.min_eq_right (by omega), List.drop_of_length_le (Nat.le_refl _), List.drop_of_length_le (by omega)]; simp
theorem cutL_take {β : Type} (xs : List β) (k : Nat) : cutL xs none (some (k : Int)) = xs.take k := by
  unfold cutL
  rw [HT.sIx_none, HT.sIx_nat, List.drop_zero, Nat.sub_zero]
  by_cases h : k ≤ xs.length
  · rw [Nat.min_eq_left h]
  · rw [Nat.min_eq_right (by omega), List.take_of_length_le (Nat.le_refl _), List.take_of_length_le (by omega)]
theorem sl_dropL (xs : List α) (k : Nat) : slD (.list (xs.map enc)) (some (k : Int)) none = .ok (.list ((xs.drop k).map enc)) := by
  show R.ok (PyData.list (cutL _ _ _)) = _
  rw [cutL_drop, List.map_drop]
theorem sl_dropT (xs : List α) (k : Nat) : slD (.tuple (xs.map enc)) (some (k : Int)) none = .ok (.tuple ((xs.drop k).map enc)) := by
  show R.ok (PyData.tuple (cutL _ _ _)) = _
  rw [cutL_drop, List.map_drop]
theorem sl_takeL (xs : List α) (k : Nat) : slD (.list (xs.map enc)) none (some (k : Int)) = .ok (.list ((xs.take k).map enc)) := by
  show R.ok (PyData.list (cutL _ _ _)) = _
  rw [cutL_take, List.map_take]
theorem sl_takeT (xs : List α) (k : Nat) : slD (.tuple (xs.map enc)) none (some (k : Int)) = .ok (.tuple ((xs.take k).map enc)) := by
  show R.ok (PyData.tuple (cutL _ _ _)) = _
  rw [cutL_take, List.map_take]
theorem ix_L {xs : List α} {i : Nat} {x : α} (h : xs[i]? = some x) : ixD (.list (xs.map enc)) (.int (i : Nat)) = .ok (enc x) := by
  rw [a_ixL, atI_nn, List.getElem?_map, h]; rfl
theorem ix_T {xs : List α} {i : Nat} {x : α} (h : xs[i]? = some x) : ixD (.tuple (xs.map enc)) (.int (i : Nat)) = .ok (enc x) := by
  rw [a_ixT, atI_nn, List.getElem?_map, h]; rfl
theorem ix_lastL (xs : List α) (x : α) : ixD (.list ((xs ++ [x]).map enc)) (.int (-1)) = .ok (enc x) := by
  rw [a_ixL, List.map_append, List.map_cons, List.map_nil, atI_end]
theorem ix_lastT (xs : List α) (x : α) : ixD (.tuple ((xs ++ [x]).map enc)) (.int (-1)) = .ok (enc x) := by
  rw [a_ixT, List.map_append, List.map_cons, List.map_nil, atI_end]
end
theorem dr_ix {ds : List Int} {n : Nat} (hl : ds.length = n) (ho : ∀ d ∈ ds, 0 ≤ d ∧ d < 65521) (i : Int) (h : 0 ≤ i ∧ i < n) : ∃ v : Int, ixD (.list (ds.map PyData.int)) (.int i) = .ok (.int v) ∧ 0 ≤ v ∧ v < 65521 := by
  obtain ⟨k, rfl⟩ : ∃ k : Nat, i = (k : Int) := ⟨i.toNat, by omega⟩
  have hk : k < ds.length := by omega
  exact ⟨ds[k], ix_L _ (List.getElem?_eq_getElem hk), ho _ (List.getElem_mem hk)⟩
theorem forK_pre {S α γ : Type} {body : PD → S → (S → R γ) → (S → R γ) → R γ} {k : S → R γ} (enc : α → PD) (s : S) (ys : List PD) : ∀ (xs : List α), (∀ x ∈ xs, ∀ next brk, body (enc x) s next brk = next s) → forK body (xs.map enc ++ ys) s k = forK body ys s k
  | [], _ => rfl
  | x :: xs, h => by
    rw [List.map_cons, List.cons_append, forK, h x List.mem_cons_self]
    exact forK_pre enc s ys xs fun y hy => h y (List.mem_cons_of_mem _ hy)
theorem index_is {c : Int} {xs : List Int} {j : Nat} (h : xs[j]? = some c) (hn : ∀ m : Nat, m < j → xs[m]? ≠ some c) : indexD (xs.map PyData.int) [.int c] = .ok (.int (j : Nat)) := by
  have sh : SeqAt.shaped (.list (xs.map PyData.int)) = true := PySem.W.ke_shaped_ints _
  unfold indexD
  simp only [sh, find_is c xs j h hn, Bool.true_and]
  rfl
theorem neg1 : negD (.int 1) = .ok (.int (-1)) := rfl
theorem zipL_map {α β : Type} (f : α → PD) (g : β → PD) : ∀ (xs : List α) (ys : List β), zipL (xs.map f) (ys.map g) = (xs.zip ys).map fun p => .tuple [f p.1, g p.2]
  | [], ys => rfl
  | x :: xs, [] => rfl
  | x :: xs, y :: ys => by
    rw [List.map_cons, List.map_cons, zipL, zipL_map f g xs ys]; rfl
theorem rgI_ok {m n : Int} (h1 : -1000000 ≤ m) (h2 : n ≤ 1000000) (h3 : m ≤ n) : rgLst (m, n) = .ok ((rng m (n - m).toNat).map PyData.int) := by
  unfold rgLst
  rw [chk_of (by unfold rgOk; rw [decide_eq_true_eq]; simp only [big_eq]; omega), rangeL_rng]
theorem rg2_ok {m n : Int} (h1 : -1000000 ≤ m) (h2 : n ≤ 1000000) (h3 : m ≤ n) : rg2 (.int m) (.int n) = .ok ((rng m (n - m).toNat).map PyData.int) := by
  rw [a_rg2, chk_of (decide_eq_true (by omega)), rangeL_rng]
/-- a loop that only appends -/
theorem forK_acc {α γ : Type} {body : PD → List PD → (List PD → R γ) → (List PD → R γ) → R γ} {k : List PD → R γ} (enc dec : α → PD) : ∀ (xs : List α) (l : List PD), l.length + xs.length ≤ 1000000 → (∀ x ∈ xs, ∀ l next brk, l.length < big → body (enc x) l next brk = next (l ++ [dec x])) → forK body (xs.map enc) l k = k (l ++ xs.map dec)
  | [], l, _, _ => by rw [List.map_nil, List.map_nil, List.append_nil]; rfl
  | x :: xs, l, hl, h => by
    rw [List.length_cons] at hl
    rw [List.map_cons, forK, h x List.mem_cons_self _ _ _ (by rw [big_eq]; omega), forK_acc enc dec xs (l ++ [dec x]) (by rw [List.length_append]; simp; omega) fun y hy => h y (List.mem_cons_of_mem _ hy)]
    simp
/-- .. whatever follows -/
theorem forK_goA {S α γ : Type} {body : PD → S → (S → R γ) → (S → R γ) → R γ} (enc : α → PD) (P : Nat → S → Prop) : ∀ (xs : List α) (i : Nat) (s : S), (∀ j x s, xs[j]? = some x → P (i + j) s → ∃ s', P (i + j + 1) s' ∧ ∀ next brk, body (enc x) s next brk = next s') → P i s → ∃ s', P (i + xs.length) s' ∧ ∀ k, forK body (xs.map enc) s k = k s'
  | [], i, s, _, h0 => ⟨s, h0, fun _ => rfl⟩
  | x :: xs, i, s, h, h0 => by
    obtain ⟨s1, p1, e1⟩ := h 0 x s rfl h0
    obtain ⟨s2, p2, e2⟩ := forK_goA enc P xs (i + 1) s1 (fun j y s hj hp => by
      have := h (j + 1) y s hj (by rwa [show i + (j + 1) = i + 1 + j by omega])
      rwa [show i + (j + 1) + 1 = i + 1 + j + 1 by omega] at this) p1
    refine ⟨s2, by rwa [show i + (x :: xs).length = i + 1 + xs.length by rw [List.length_cons]; omega], fun k => ?_⟩
    rw [List.map_cons, forK, e1, e2]
theorem forK_invA {S α γ : Type} {body : PD → S → (S → R γ) → (S → R γ) → R γ} (enc : α → PD) (P : Nat → S → Prop) (xs : List α) {s : S} (h0 : P 0 s) (h : ∀ j x s, xs[j]? = some x → P j s → ∃ s', P (j + 1) s' ∧ ∀ next brk, body (enc x) s next brk = next s') : ∃ s', P xs.length s' ∧ ∀ k, forK body (xs.map enc) s k = k s' := by
  have := forK_goA (body := body) enc P xs 0 s (fun j x s hj hp => by rw [Nat.zero_add] at hp ⊢; exact h j x s hj hp) h0
  rwa [Nat.zero_add] at this
end DL
/-! The data layer where it is also known that no repr is under way: calls, the ends of a law, repr. My own. -/
namespace DL
open PySem PySem.Spec PyProof.Rows L2

structure RoomG (k : Nat) (A : Around) : Prop where
  room : Room k A
  gd : A.guards = some []
theorem RoomG.mono {j k : Nat} {A : Around} (r : RoomG k A) (h : j ≤ k) : RoomG j A := ⟨r.room.mono h, r.gd⟩
/-- what a def gives wherever no repr is under way -/
structure FnG (P : Program) (w : World) (K : PySem.W.Frag) (mg : Str → Option Value) (base : Heap) (k : Nat) (f : Addr) (fd : FuncData) (ps : List Str) (sp : Sp) : Prop where
  many : ∀ vs H Q E, sp vs H Q E → vs.length = ps.length
  does : ∀ (A : Around), RoomG k A → ∀ (fs : List PySem.Env) (s : Shared) (H : Hp), Env0 P w K mg base A fs s H → ∀ (as : Args) (us : List Value), BindsTo s fd as (ps.zip us) → ∀ (vs : List V), Vals vs us → ∀ (Q : VK) (E : XK), sp vs H Q E →
    codeAny (model P w) A (.call (.ref f) as) (CR (L2.CX P w) fs P w H s Q E) s
section
variable {P : Program} {w : World} {K : PySem.W.Frag} {mg : Str → Option Value} {base : Heap} {k : Nat} {f : Addr} {fd : FuncData} {ps : List Str} {sp : Sp}
theorem _root_.L2.FnOk.g (F : FnOk P w K mg base (L2.CX P w) k f fd ps sp) : FnG P w K mg base k f fd ps sp :=
  ⟨F.len, fun A r fs s H e as us b vs hv Q E h => F.run A fs s H as us vs Q E r.room e b hv h⟩
/-- a body walked under such a roof -/
theorem okG {x qual : Str} {st : Stmt} {N : List Str} (D : Fun K x qual st f fd) (S : FnScope N ps (defScope st)) (many : ∀ vs H Q E, sp vs H Q E → vs.length = ps.length)
    (walk : ∀ (cdv : Value) (A : Around) (fs : List PySem.Env) (s : Shared) (H : Hp) (E : XK), RoomG k (A.deeper (envOfC qual (defScope st) s.heap.objs.size f cdv)) → ∀ (vs : List V) (Q : VK), sp vs H Q E →
      ∃ t, PSs (cxOf (L2.CX P w) P w K mg base N qual (defScope st) f cdv A fs s H E) (defBody st) t ∧ t { nx := fun _ H' => Q .non H', rt := Q } (L2.start N vs) H) : FnG P w K mg base (k + 1) f fd ps sp := by
  obtain ⟨_, _, _, _, _, _, cdv, _, _, rfl, known, coded⟩ := D.ex
  refine { many := many, does := fun A room fs s H e as us binds vs hv Q E want => ?_ }
  have inn : K.In s.heap := e.mod.kin.keeps fun b o g => (e.bs b o g).1
  have free : s.heap.NoLimit := e.mod.nolimit.keeps fun b o g => (e.bs b o g).1
  have each : ∀ y ∈ ps.zip us, (defScope st).names.lookup y.1 = some .local ∨ ((defScope st).names.lookup y.1 = some .cell ∧ ((cellsFrom (s.heap.objs.size + 1) (defScope st).names []).lookup y.1).isSome = true) := by
    rintro ⟨n, v⟩ hy
    exact (S.par n (List.of_mem_zip hy).1).imp id fun q => ⟨q, PySem.W.cellsFrom_some _ _ _ (.inl q)⟩
  apply codeAny_call_function room.room.depth (inn _ _ known) rfl S.co S.gen rfl (PySem.W.codeRec_of inn coded)
  apply binds
  apply wpAny_newFunctionEnv_cells S.kind each
  rintro env rfl s1 came
  refine ⟨free.keeps came.toInCall.keep, codeAny_func ?_⟩
  obtain ⟨t, walked, asked⟩ := walk cdv A fs s H E ⟨room.room.deeper _, room.gd⟩ vs Q want
  have begun := inv_start S room.room.hd e (many vs H Q E want) hv came (E := E) (CX := L2.CX P w) (qual := qual) (f := f) (cd := cdv)
  refine wpAny_mono (walked.run [] s1 _ H _ begun asked) ?_ (fun _ _ z => z)
  intro fl s2 z
  match fl, z with
  | .ret u, ⟨v, _, H2, J, rv, q⟩ => exact ⟨v, H2, J.os, J.bare, J.base, J.hok, rv, q⟩
  | .next, ⟨_, H2, J, q⟩ => exact ⟨V.non, H2, J.os, J.bare, J.base, J.hok, rfl, q⟩
  | .brk, ⟨_, _, _, q⟩ => exact q.elim
  | .cont, ⟨_, _, _, q⟩ => exact q.elim
end

/-! ### calls -/
section
variable {X : Cx} {W : WX} {k n : Nat} {f : Addr} {fd : FuncData} {ps : List Str} {sp : Sp} {E : L2.St → XK} {x : Str} {p pos : Pos} {e : Expr} {es : List Expr} {t : TA} {F : List PD → R PD} {g : En → R (List PD)}
theorem does_here {pins : List (Addr × Obj)} {σ : L2.St} {H : Hp} {s : Shared} {Q : VK} {us : List Value} {vs : List V} (G : FnG X.prog X.w X.K X.mg X.base k f fd ps sp) (hr : RoomG k X.A) (hb : Binds X.K fd ps []) (tk : PassesAt (L2.CX X.prog X.w) X σ (E σ))
    (I : Inv X pins σ H s) (hv : Vals vs us) (want : sp vs H Q (E σ)) : wpAny (model X.prog X.w) X.A (call (.ref f) us) (EP X pins σ Q) X.xe s := by
  have len : (us ++ []).length = ps.length := by rw [List.append_nil, ← hv.length]; exact G.many _ _ _ _ want
  have bound := hb s us I.kIn len
  rw [List.append_nil] at bound
  apply wpAny_call
  refine codeAny_mono (G.does X.A hr X.stack s H I.env0 ⟨us, []⟩ us bound vs hv Q (E σ) want) ?_
  intro r s2 z
  match r, z with
  | .error ex, z => exact tk pins H s ex s2 I z
  | .ok (.ret u), z => exact I.after z
  | .ok .next, z => exact z.elim
  | .ok .brk, z => exact z.elim
  | .ok .cont, z => exact z.elim
theorem pe_callG (G : FnG X.prog X.w X.K X.mg X.base k f fd ps sp) (hr : RoomG k X.A) (hg : Gl X x) (hm : X.mg x = some (.ref f)) (hk : PySem.W.keepIn X.K (.ref f) = true) (hb : Binds X.K fd ps []) (tk : ∀ σ, PassesAt (L2.CX X.prog X.w) X σ (E σ)) (ha : PA X (e :: es) t)
    (hdb : (x == ("__debug__" : Str)) = false := by decide) (hs : starEach (e :: es) X.env = (false, eval e X.env) :: starEach es X.env := by rfl) (hp : (backTo pos (starEach es X.env)).any (·.1) = false := by rfl) : PE X (.Call (.Name x p) (e :: es) [] pos) (tCallS sp E t) :=
  ⟨fun pins s σ H Q I want => wpAny_Call_Name_kw (ld_glob I hg hm (PySem.W.callWith_K (h₀ := X.base) I.ok.mod.kin hk (thn (ha.run pos pins s σ H _ I want) fun us s1 ⟨_, _, I1, hv, q⟩ => ⟨I1.kIn, does_here G hr hb (tk σ) I1 hv q⟩) hs hp) hdb)⟩
theorem pe_callG0 (G : FnG X.prog X.w X.K X.mg X.base k f fd ps sp) (hr : RoomG k X.A) (hg : Gl X x) (hm : X.mg x = some (.ref f)) (hk : PySem.W.keepIn X.K (.ref f) = true) (hb : Binds X.K fd ps []) (tk : ∀ σ, PassesAt (L2.CX X.prog X.w) X σ (E σ))
    (hdb : (x == ("__debug__" : Str)) = false := by decide) : PE X (.Call (.Name x p) [] [] pos) (tCallS sp E tNil) :=
  ⟨fun pins s σ H Q I want => wpAny_Call_Name_kw (ld_glob I hg hm (PySem.W.callWith_K0 I.kIn hk (does_here (us := []) G hr hb (tk σ) I .nil want)) hdb)⟩
abbrev FnDG (P : Program) (w : World) (K : PySem.W.Frag) (mg : Str → Option Value) (base : Heap) (k : Nat) (f : Addr) (fd : FuncData) (ps : List Str) (F : List PD → R PD) : Prop :=
  FnG P w K mg base k f fd ps (spD K mg ps.length F)
theorem de_clG (G : FnDG X.prog X.w X.K X.mg X.base k f fd ps F) (hr : RoomG k X.A) (hg : Gl X x) (hm : X.mg x = some (.ref f)) (hk : PySem.W.keepIn X.K (.ref f) = true) (hb : Binds X.K fd ps []) (tk : Takes X W) (ha : DC X W (e :: es) g) (hn : ps.length = n := by rfl)
    (hdb : (x == ("__debug__" : Str)) = false := by decide) (he : starEach (e :: es) X.env = (false, eval e X.env) :: starEach es X.env := by rfl) (hpl : (backTo pos (starEach es X.env)).any (·.1) = false := by rfl) : DE X W (.Call (.Name x p) (e :: es) [] pos) (cCall n F g) := by
  subst hn
  obtain ⟨t, pt, qt⟩ := ha.ex
  refine ⟨_, pe_callG (E := WE W) G hr hg hm hk hb (fun σ => passAt tk σ) pt hdb he hpl, fun H0 O0 O ρ σ H Q rl o => ?_⟩
  refine qt H0 O0 O ρ σ H _ rl (o.bind.imp fun ds H1 e1 o1 vs hv => ?_)
  obtain ⟨c, o1⟩ := OutP.chk o1
  refine ⟨O, ds, (rl.grow e1).al, by rw [hv.length]; exact eq_of_beq c, hv, ?_⟩
  cases q : F ds with
  | ok d => rw [q] at o1; exact fun v H' e' hd => o1 H' e' v hd
  | ex c pl => rw [q] at o1; exact fun cls dx H' e' i => o1 cls dx H' e' i
  | bad => rw [q] at o1; exact o1.elim
theorem de_clG0 (G : FnDG X.prog X.w X.K X.mg X.base k f fd ps F) (hr : RoomG k X.A) (hg : Gl X x) (hm : X.mg x = some (.ref f)) (hk : PySem.W.keepIn X.K (.ref f) = true) (hb : Binds X.K fd ps []) (tk : Takes X W)
    (hn : ps.length = 0 := by rfl) (hdb : (x == ("__debug__" : Str)) = false := by decide) : DE X W (.Call (.Name x p) [] [] pos) (cCall 0 F cNil) := by
  refine ⟨_, pe_callG0 (E := WE W) G hr hg hm hk hb (fun σ => passAt tk σ) hdb, fun H0 O0 O ρ σ H Q rl o => ?_⟩
  refine ⟨O, [], rl.al, hn.symm, .nil, ?_⟩
  have o : OutP X W O σ H (F []) _ := o
  cases q : F [] with
  | ok d => rw [q] at o; exact fun v H' e' hd => o H' e' v hd
  | ex c pl => rw [q] at o; exact fun cls dx H' e' i => o cls dx H' e' i
  | bad => rw [q] at o; exact o.elim
end
/-! ### bodies -/
section
variable {P : Program} {w : World} {K : PySem.W.Frag} {mg : Str → Option Value} {base : Heap}
theorem fnDG_of {x qual : Str} {st : Stmt} {f : Addr} {fd : FuncData} {N ps : List Str} {k : Nat} {g : En → Fl} (F : Fun K x qual st f fd) (S : FnScope N ps (defScope st))
    (hbody : ∀ (cdv : Value) (A : Around) (outer : List PySem.Env) (s : Shared) (H : Hp) (E : XK), RoomG k (A.deeper (envOfC qual (defScope st) s.heap.objs.size f cdv)) →
      DSs (cxOf (L2.CX P w) P w K mg base N qual (defScope st) f cdv A outer s H E) (WofE E) (defBody st) g) : FnDG P w K mg base (k + 1) f fd ps (fun ds => fin (g (startE N.length ds))) := by
  refine okG F S (fun vs H Q E h => ?_) (fun cdv A outer s H E hr vs Q h => ?_)
  · obtain ⟨_, _, _, h, _⟩ := h; exact h
  · obtain ⟨O, ds, al, hn, hd, o⟩ := h
    obtain ⟨t, pt, qt⟩ := (hbody cdv A outer s H E hr).ex
    refine ⟨t, pt, qt H O O _ _ H _ (start_rel al hd) ?_⟩
    show OutS K mg (WofE E) H O _ (g (startE N.length ds))
    have o : (match fin (g (startE N.length ds)) with
      | .ok d => ∀ v H', Same H H' → Dq K (wo H' O) v d → Q v H'
      | .ex c pl => ∀ cls dx H', Same H H' → IsEx K mg c pl cls dx (wo H' O) → E cls dx H'
      | .bad => False) := o
    cases q : g (startE N.length ds) with
    | nx ρ => rw [q] at o; exact fun O' H' σ' r => o .non H' r.fr .non
    | rt d => rw [q] at o; exact fun v H' e hv => o v H' e hv
    | bk ρ => rw [q] at o; exact o.elim
    | ct ρ => rw [q] at o; exact o.elim
    | ex c pl ρ => rw [q] at o; exact fun O' H' σ' cls dx r i => o cls dx H' r.fr (i.mono (wo_sub r.sub))
    | bad => rw [q] at o; exact o.elim
theorem fnLawG_of {x qual : Str} {st : Stmt} {f : Addr} {fd : FuncData} {N ps : List Str} {k : Nat} {g : En → Fl} (F : Fun K x qual st f fd) (S : FnScope N ps (defScope st)) (hps : ps.length = 1)
    (hbody : ∀ (cdv : Value) (A : Around) (outer : List PySem.Env) (s : Shared) (H : Hp) (E : XK), RoomG k (A.deeper (envOfC qual (defScope st) s.heap.objs.size f cdv)) →
      DSs (cxOf (L2.CX P w) P w K mg base N qual (defScope st) f cdv A outer s H E) (WofE E) (defBody st) g) :
    FnG P w K mg base (k + 1) f fd ps (spLaw K fun ns => fin (g (.sc ns :: List.replicate (N.length - 1) .un))) := by
  refine okG F S (fun vs H Q E h => ?_) (fun cdv A outer s H E hr vs Q h => ?_)
  · obtain ⟨_, _, rfl, _⟩ := h; exact hps.symm
  · obtain ⟨a, ns, rfl, hS, o⟩ := h
    obtain ⟨t, pt, qt⟩ := (hbody cdv A outer s H E hr).ex
    have hS' : SqL K (wo H fun _ => False) a (ns.map V.int) := by rw [wo_noO]; exact hS
    refine ⟨t, pt, qt H _ _ _ _ H _ (scr_rel (vs := []) (ds := []) (fun p z => z.elim) hS' .nil) ?_⟩
    show OutS K mg (WofE E) H (fun _ => False) _ (g (.sc ns :: List.replicate (N.length - 1) .un))
    have o : (match fin (g (.sc ns :: List.replicate (N.length - 1) .un)) with
      | .ok d => ∀ v H', Same H H' → Dq K H' v d → Q v H'
      | _ => False) := o
    cases q : g (.sc ns :: List.replicate (N.length - 1) .un) with
    | nx ρ => rw [q] at o; exact fun O' H' σ' r => o .non H' r.fr .non
    | rt d => rw [q] at o; exact fun v H' e hv => o v H' e (by rwa [wo_noO] at hv)
    | bk ρ => rw [q] at o; exact o.elim
    | ct ρ => rw [q] at o; exact o.elim
    | ex c pl ρ => rw [q] at o; exact o.elim
    | bad => rw [q] at o; exact o.elim
end
/-! ### the law is run -/
/-- a heap of which the layer tracks the script alone -/
theorem begin_at {P : Program} {w : World} {K : PySem.W.Frag} {mg mb : Str → Option Value} {a : Addr} {s : Shared} {vs : List Value} {ns : List Int} (inn : K.In s.heap) (gl : s.heap.Ns mainGlobals mg) (bl : s.heap.Ns builtinsNs mb) (bb : ∀ x : Str, x ≠ "__name__" → mb x = bootBuiltins x)
    (free : s.heap.NoLimit) (gens : s.gens = #[]) (at_ : s.heap.get? a = some { cls := .type "list", data := .seq vs.toArray }) (numb : IntsAre vs ns) (few : ns.length ≤ sizeLine) :
    ∃ (H : Hp) (base : Heap), K.In base ∧ base.Ns mainGlobals mg ∧ Env0 P w K mg base callerA [] s H ∧ SqL K H a (ns.map V.int) ∧ ∀ (H2 : Hp) (h2 : Heap), Un [] [] H H2 s.heap h2 → HOk P w H2 h2 → OldK s.heap h2 := by
  have vals := vals_ints numb
  -- the tracked part is given by one object at most: the list at a
  have gen : ∀ H : Hp, (∀ b u, H b = some u → b = a ∧ u = .frz { cls := .type "list", data := .seq vs.toArray } (.lst (ns.map V.int)) ∧ K.lookup a = none) → SqL K H a (ns.map V.int) →
      ∃ (H : Hp) (base : Heap), K.In base ∧ base.Ns mainGlobals mg ∧ Env0 P w K mg base callerA [] s H ∧ SqL K H a (ns.map V.int) ∧ ∀ (H2 : Hp) (h2 : Heap), Un [] [] H H2 s.heap h2 → HOk P w H2 h2 → OldK s.heap h2 := by
    intro H one sq
    have ok : HOk P w H s.heap := by
      intro b u z
      obtain ⟨rfl, rfl, _⟩ := one b u z
      exact ⟨at_, by rw [List.length_map]; exact few, vs, _, vals, at_⟩
    have stay : ∀ {b o}, s.heap.get? b = some o → H b = none → (hidT s.heap H).get? b = some o := fun g n => hidT_get g n
    have dict : ∀ {b : Addr} {m : Str → Option Value}, s.heap.Ns b m → (hidT s.heap H).Ns b m := by
      rintro b m ⟨o, es, ep, g, d, r⟩
      refine ⟨o, es, ep, stay g ?_, d, r⟩
      cases q : H b with
      | none => rfl
      | some u =>
        obtain ⟨rfl, _, _⟩ := one b u q
        rw [at_] at g
        cases g
        cases (show Data.seq vs.toArray _ = Data.dict es ep from d)
    have kin : K.In (hidT s.heap H) := by
      intro b o g
      refine stay (inn b o g) ?_
      cases q : H b with
      | none => rfl
      | some u =>
        obtain ⟨rfl, _, n⟩ := one b u q
        rw [n] at g
        cases g
    obtain ⟨mc, c1, c2⟩ := free
    have md : Mod K mg (hidT s.heap H) := { kin := kin, glob := dict gl, blt := ⟨mb, dict bl, bb⟩, nolimit := ⟨mc, dict c1, c2⟩ }
    refine ⟨H, hidT s.heap H, kin, dict gl, { frames := rfl, mod := md, bs := fun b o g => of_hidT g, bsz := Nat.le_of_eq (hidT_size _ _), funs := trivial, frf := fun b z => (by cases z), hok := ok, bare := .of_eq gens }, sq, ?_⟩
    intro H2 h2 un ok2
    refine OldK.of_keep ?_
    intro b o g
    cases q : H b with
    | none => exact un.keep b o g q (fun z => by cases z) (fun z => by cases z)
    | some u =>
      obtain ⟨rfl, rfl, _⟩ := one b u q
      have k2 := (ok2 b _ (un.frzs b _ _ q)).1
      rw [at_] at g
      cases g
      exact k2
  cases known : K.lookup a with
  | some o =>
    have same := inn a o known
    rw [at_] at same
    cases same
    exact gen (fun _ => none) (fun b u z => by cases z) (.inr ⟨_, vs.toArray, _, known, rfl, rfl, rfl, by rw [List.size_toArray, numb.length]; exact few, by simpa using vals⟩)
  | none =>
    refine gen (fun b => if b = a then some (.frz { cls := .type "list", data := .seq vs.toArray } (.lst (ns.map V.int))) else none) ?_ (.inl (.inr ⟨_, if_pos rfl⟩))
    intro b u z
    change (if b = a then some (HO.frz { cls := .type "list", data := .seq vs.toArray } (.lst (ns.map V.int))) else none) = some u at z
    split at z
    · rename_i h
      cases z
      exact ⟨h, rfl, known⟩
    · cases z
theorem walk_lawG {l : PySem.W.OpenLaw} {k : Nat} {q : Program} {loose : List Str} {XP : (Str → Option Value) → Heap → Prop} {YP : World → Heap → Prop} {d : DefRec} {K : Params → PySem.W.Frag} {F : List Int → R PD} (hn : l.most = some 63) (hdf : d.params.defaults = []) (hr : RoomG k callerA)
    (hY : ∀ (w : World) (h : Heap), YP w h → (K w.params).In h) (hF : ∀ ns : List Int, ns.length ≤ 63 → F ns = .ok (.bool true))
    (Fk : ∀ (w : World) (mg : Str → Option Value) (fa : Addr) (h : Heap), (K w.params).In h → h.Ns mainGlobals mg → mg d.name = some (.ref fa) →
      ∃ fd : FuncData, (∀ (s : Shared) (u : Value), BindsTo s fd ⟨[u], []⟩ [("script", u)]) ∧ ∀ base : Heap, (K w.params).In base → base.Ns mainGlobals mg → FnG l.prog w (K w.params) mg base k fa fd ["script"] (spLaw (K w.params) F)) :
    PySem.W.WalkO q loose XP YP l.row.toRowW d [] (fun f vs => PySem.call f vs) := by
  apply Att.attach_call hn hdf
  intro w _ s mg mb fa _ _ _ _ a vs ns G Y _ _ _ named at_ numb few gens
  have inn := hY w _ Y
  obtain ⟨fd, bind, run⟩ := Fk w mg fa _ inn G.T.g named
  obtain ⟨H, base, kin, gl, e0, sq, old⟩ := begin_at (P := l.prog) (w := w) inn G.T.g G.T.b G.T.builtins G.T.nolimit gens at_ numb (Nat.le_trans few (by decide))
  have want : spLaw (K w.params) F [.ref a] H (fun v _ => v = .bl true) fun _ _ _ => False := ⟨a, ns, rfl, sq, by rw [hF ns few]; exact fun v H' e hv => hv.sc_bl⟩
  refine codeAny_mono ((run base kin gl).does callerA hr [] s H e0 ⟨[.ref a], []⟩ [.ref a] (bind s (.ref a)) [.ref a] (.cons rfl .nil) _ _ want) ?_
  intro r s2 z
  match r, z with
  | .error ex, z => obtain ⟨_, _, _, _, _, _, _, _, _, _, _, _, no⟩ := z; exact no.elim
  | .ok .next, z => exact z.elim
  | .ok .brk, z => exact z.elim
  | .ok .cont, z => exact z.elim
  | .ok (.ret u), ⟨v, H2, os, bare, un, ok2, rv, q⟩ =>
    have hv : v = .bl true := q
    subst hv
    have hu : u = Value.bool true := rv
    subst hu
    exact ⟨rfl, old H2 _ un ok2, os, bare⟩
/-! the draws -/
section
variable {X : Cx} {W : WX} {k : Nat} {f : Addr} {fd : FuncData} {ps : List Str} {F : List Int → Int → R PD} {x : Str} {p p2 pos : Pos} {a : Expr} {i j : Nat} {m : Int}
theorem de_drG (G : FnG X.prog X.w X.K X.mg X.base k f fd ps (spScr X.K F)) (hr : RoomG k X.A) (hg : Gl X x) (hm : X.mg x = some (.ref f)) (hk : PySem.W.keepIn X.K (.ref f) = true) (hb : Binds X.K fd ps []) (tk : Takes X W)
    (hx : PE X a (tVar i)) (hdb : (x == ("__debug__" : Str)) = false := by decide) (he : starEach [a, .Constant (.int m) j p2] X.env = (false, eval a X.env) :: starEach [.Constant (.int m) j p2] X.env := by rfl)
    (he2 : starEach [.Constant (.int m) j p2] X.env = (false, eval (.Constant (.int m) j p2) X.env) :: starEach [] X.env := by rfl) (hpl : (backTo pos (starEach [.Constant (.int m) j p2] X.env)).any (·.1) = false := by rfl) :
    DE X W (.Call (.Name x p) [a, .Constant (.int m) j p2] [] pos) (cDr F i m) := by
  refine ⟨_, pe_callG (E := WE W) G hr hg hm hk hb (fun σ => passAt tk σ) (pa_cons hx (pa_cons pe_int pa_nil he2) he) hdb he hpl, fun H0 O0 O ρ σ H Q rl o => ?_⟩
  unfold cDr at o
  cases q : ρ[i]? with
  | none => rw [q] at o; exact o.elim
  | some s =>
    rw [q] at o
    cases s with
    | sc ns =>
      obtain ⟨b, e1, e2⟩ := rl.sl i _ q
      refine ⟨_, e1, O, b, ns, m, rl.al, rfl, e2, ?_⟩
      cases r : F ns m with
      | ok d => simp only [r] at o; exact fun v H' e' hd => o H' e' v hd
      | ex c pl => simp only [r] at o; exact o.elim
      | bad => simp only [r] at o; exact o.elim
    | _ => exact o.elim
end
/-! ### repr -/
def dShow (d : PD) : Bool := d.showable && !d.hasDict && decide (d.depth ≤ 100 ∧ d.shown.length ≤ big)
def reprD : List PD → R PD
  | [d] => chk (dShow d) (.ok (.str d.shown))
  | _ => .bad
theorem cr_repr {X : Cx} (hu : Deep X) (hg : X.A.guards = some []) : CallR X (.builtin "repr") (fun xs H Q => ∃ v d, xs = [v] ∧ Dq X.K H v d ∧ dShow d = true ∧ Q (.str d.shown) H) := by
  intro pins s σ H xs us Q I r h
  obtain ⟨v, d, rfl, hd, c1, q⟩ := h
  obtain ⟨u, rfl, ru⟩ := vals1 r
  unfold dShow at c1
  rw [Bool.and_eq_true, Bool.and_eq_true, decide_eq_true_eq] at c1
  obtain ⟨⟨s1, s2⟩, s3, s4⟩ := c1
  rw [Bool.not_eq_true'] at s2
  have s5 : d.shown.length ≤ sizeLine := big_line s4
  obtain ⟨as, rd⟩ := Dp.reads I d v u hd.dp ru
  have viaRef : ∀ a, u = .ref a → wpAny (model X.prog X.w) X.A (call (.builtin "repr") [u]) (EP X pins σ Q) X.xe s := fun a e => by
    subst e
    exact repr_of_reads' rd s1 (fun z => by rw [s2] at z; cases z) hg (by unfold Deep at hu; omega) (fun _ _ e => e) (fun h' u tk hk => ⟨.str d.shown, H, I.kept hk, ⟨u, rfl⟩, q⟩) s5
  cases hd with
  | non =>
    obtain rfl : u = .none := ru
    exact PySem.P.repr_of_none ⟨.str _, H, I.tok _, ⟨_, rfl⟩, q⟩
  | bl b =>
    obtain rfl : u = .bool b := ru
    refine PySem.P.repr_of_bool ⟨.str _, H, I.tok _, ⟨_, rfl⟩, ?_⟩
    cases b <;> exact q
  | int i =>
    obtain ⟨t, rfl⟩ := ru
    exact PySem.P.repr_of_int (by simpa [PyData.showable] using s1) ⟨.str _, H, I.tok _, ⟨_, rfl⟩, by simpa only [PyData.shown] using q⟩
  | str x =>
    obtain ⟨t, rfl⟩ := ru
    exact PySem.P.repr_of_str ⟨.str _, H, I.tok _, ⟨_, rfl⟩, by simpa only [PyData.shown] using q⟩ (by simpa only [PyData.shown] using s5)
  | lst h1 h2 => exact viaRef _ ru
  | tup h1 h2 => exact viaRef _ ru
theorem cd_repr {X : Cx} {k : Nat} (hr : RoomG k X.A) : CallD X (.builtin "repr") reprD :=
  ⟨_, cr_repr (Deep.of hr.room) hr.gd, fun W O σ H vs xs Q nO hv o => by
    match xs, hv, o with
    | [d], .cons h1 .nil, o =>
      obtain ⟨c, o⟩ := OutP.chk o
      exact ⟨_, d, rfl, h1.dp, c, o H (Same.refl H) _ (.str _)⟩
    | [], _, o => exact o.elim
    | _ :: _ :: _, _, o => exact o.elim⟩
end DL
namespace DL
open PySem PySem.Spec PyProof.Rows L2
/-! ### methods of texts -/
def strsOf : List PD → Option (List Str)
  | [] => some []
  | .str x :: r => (strsOf r).map (x :: ·)
  | _ => none
theorem strsOf_map : ∀ ys : List Str, strsOf (ys.map .str) = some ys
  | [] => rfl
  | y :: ys => by
    show (strsOf (ys.map .str)).map (y :: ·) = _
    rw [strsOf_map ys]; rfl
theorem strsOf_vals {K : PySem.W.Frag} {H : Hp} : ∀ {ds : List PD} {ys : List Str} {vs : List V}, strsOf ds = some ys → DqAll K H vs ds → vs = ys.map V.str
  | [], ys, vs, e, h => by cases e; cases h; rfl
  | .str x :: r, ys, vs, e, h => by
    cases q : strsOf r with
    | none => simp [strsOf, q] at e
    | some m =>
      simp [strsOf, q] at e
      subst e
      cases h with
      | cons h1 h2 => cases h1; rw [strsOf_vals q h2]; rfl
theorem strs_all {K : PySem.W.Frag} {H : Hp} : ∀ ys : List Str, DqAll K H (ys.map V.str) (ys.map PyData.str)
  | [] => .nil
  | _ :: r => .cons (.str _) (strs_all r)
def joinD (d e : PD) : R PD := match d with
  | .str a => (items1 [e]).bind fun ds => match strsOf ds with
    | some ys => chk (decide ((ys.map (·.length)).sum + ys.length * a.length ≤ 16777216)) (.ok (.str (Txt.join a ys)))
    | none => .bad
  | _ => .bad
def splitD (d e : PD) : R (List PD) := match d, e with
  | .str a, .str b => chk (!(b.length == 0) && decide (a.length + 2 ≤ big)) (.ok ((Txt.split a b).map .str))
  | _, _ => .bad
def countD (d e : PD) : R PD := match d, e with
  | .str a, .str b => .ok (.int (Txt.count a b))
  | _, _ => .bad
def endsD (d e : PD) : R PD := match d, e with
  | .str a, .str b => .ok (.bool (Txt.endswith a b))
  | _, _ => .bad
def startsD (d e : PD) : R PD := match d, e with
  | .str a, .str b => .ok (.bool (Txt.startswith a b))
  | _, _ => .bad
/-- a method of a text, of one argument -/
def MtS (X : Cx) (id : String) (F : PD → PD → R PD) : Prop :=
  ∃ r, MtR X id r ∧ ∀ W O σ H a x e Q, (∀ p, H p = none → ¬ O p) → Dt X.K O H x e → OutP X W O σ H (F (.str a) e) (fun d H' => ∀ v, Dq X.K (wo H' O) v d → Q v H') → r (.str a) [x] H Q
def isS : PD → Bool
  | .str _ => true
  | _ => false
def onS (F : PD → PD → R PD) (d e : PD) : R PD := chk (isS d) (F d e)
section
variable {X : Cx} {W : WX} {o e : Expr} {f g : En → R PD} {F : PD → PD → R PD} {name : Str} {apos cpos : Pos} {id : String}
theorem de_sm (slot : Slot "str" name id) (ty : typeOf (.builtin id) = pure (.type "method_descriptor")) (hm : MtS X id F) (ho : DE X W o f) (he : DV X W e g)
    (hs : starEach [e] X.env = [(false, eval e X.env)] := by rfl) (hbase : attributeBase o name X.env (eval o X.env) = eval o X.env := by rfl) (hline : (apos.endLine == cpos.line) = true := by rfl) :
    DE X W (.Call (.Attribute o name apos) [e] [] cpos) (fun ρ => (f ρ).bind fun d => chk (isS d) ((g ρ).bind fun e => F d e)) := by
  obtain ⟨r, h1, h2⟩ := hm
  obtain ⟨t, pt, qt⟩ := ho.ex
  obtain ⟨u, pu, qu⟩ := he.ex
  refine ⟨_, pe_m1 slot ty h1 pt pu hs hbase hline, fun H0 O0 O ρ σ H Q rl o => ?_⟩
  refine qt H0 O0 O ρ σ H _ rl (o.bind.imp fun d H1 e1 o1 v hv => ?_)
  obtain ⟨c, o1⟩ := OutP.chk o1
  cases d with
  | str a =>
    cases hv.sc_str
    refine ⟨⟨a, rfl⟩, qu H0 O0 O ρ σ H1 _ (rl.grow e1) (o1.bind.imp fun d' H2 e2 o2 v' hv' => ?_)⟩
    exact h2 W O σ H2 a v' d' Q (fun p n z => ((rl.grow e1).grow e2).al p z n) hv' o2
  | _ => cases c
theorem ms_join : MtS X "str.join" joinD := ⟨_, mt_join, fun W O σ H a x e Q nO hx o => by
  unfold joinD at o
  have o := o.bind
  cases e with
  | list ds =>
    obtain ⟨p, vs, rfl, k1, k2⟩ := hx.list
    have o : OutP X W O σ H (match strsOf ds with | some ys => chk (decide ((ys.map (·.length)).sum + ys.length * a.length ≤ 16777216)) (.ok (.str (Txt.join a ys))) | none => .bad) (fun d H' => ∀ v, Dq X.K (wo H' O) v d → Q v H') := o H (Same.refl H)
    cases q : strsOf ds with
    | none => rw [q] at o; exact o.elim
    | some ys =>
      rw [q] at o
      obtain ⟨c, o⟩ := OutP.chk o
      have := strsOf_vals q k2
      subst this
      exact ⟨a, p, ys, rfl, rfl, .inl (.inl k1), of_decide_eq_true c, o H (Same.refl H) _ (.str _)⟩
  | tuple ds =>
    obtain ⟨p, vs, rfl, k1, k2⟩ := hx.tuple
    have o : OutP X W O σ H (match strsOf ds with | some ys => chk (decide ((ys.map (·.length)).sum + ys.length * a.length ≤ 16777216)) (.ok (.str (Txt.join a ys))) | none => .bad) (fun d H' => ∀ v, Dq X.K (wo H' O) v d → Q v H') := o H (Same.refl H)
    cases q : strsOf ds with
    | none => rw [q] at o; exact o.elim
    | some ys =>
      rw [q] at o
      obtain ⟨c, o⟩ := OutP.chk o
      have := strsOf_vals q k2
      subst this
      exact ⟨a, p, ys, rfl, rfl, .inr (Same.seqT wo_self k1), of_decide_eq_true c, o H (Same.refl H) _ (.str _)⟩
  | _ => exact o.elim⟩
theorem ms_count : MtS X "str.count" countD := ⟨_, mt_count, fun W O σ H a x e Q nO hx o => by
  cases e with
  | str b => cases hx.sc_str; exact ⟨a, b, rfl, rfl, o H (Same.refl H) _ (.int _)⟩
  | _ => exact o.elim⟩
theorem ms_ends : MtS X "str.endswith" endsD := ⟨_, mt_endswith, fun W O σ H a x e Q nO hx o => by
  cases e with
  | str b => cases hx.sc_str; exact ⟨a, b, rfl, rfl, o H (Same.refl H) _ (.bl _)⟩
  | _ => exact o.elim⟩
theorem ms_starts : MtS X "str.startswith" startsD := ⟨_, mt_startswith, fun W O σ H a x e Q nO hx o => by
  cases e with
  | str b => cases hx.sc_str; exact ⟨a, b, rfl, rfl, o H (Same.refl H) _ (.bl _)⟩
  | _ => exact o.elim⟩
end
/-- as readings: e.m(e2) -/
def cMs (F : PD → PD → R PD) (f g : En → R PD) : En → R PD := fun ρ => (f ρ).bind fun d => chk (isS d) ((g ρ).bind fun e => F d e)
def cSplit (f g : En → R PD) : En → R (List PD) := fun ρ => (f ρ).bind fun d => chk (isS d) ((g ρ).bind fun e => splitD d e)
section
variable {X : Cx} {W : WX} {o e : Expr} {f g : En → R PD} {apos cpos : Pos}
theorem df_split (ho : DE X W o f) (he : DE X W e g) (hs : starEach [e] X.env = [(false, eval e X.env)] := by rfl) (hbase : attributeBase o "split" X.env (eval o X.env) = eval o X.env := by rfl) (hline : (apos.endLine == cpos.line) = true := by rfl) :
    DF X W (.Call (.Attribute o "split" apos) [e] [] cpos) (cSplit f g) := by
  obtain ⟨t, pt, qt⟩ := ho.ex
  obtain ⟨u, pu, qu⟩ := he.ex
  refine ⟨_, pe_split pt pu hs hbase hline, fun H0 O0 O ρ σ H Q rl o => ?_⟩
  refine qt H0 O0 O ρ σ H _ rl (o.bind.imp fun d H1 e1 o1 v hv => ?_)
  obtain ⟨c, o1⟩ := OutP.chk o1
  cases d with
  | str a =>
    cases hv.sc_str
    refine ⟨⟨a, rfl⟩, qu H0 O0 O ρ σ H1 _ (rl.grow e1) (o1.bind.imp fun d' H2 e2 o2 v' hv' => ?_)⟩
    cases d' with
    | str b =>
      cases hv'.sc_str
      obtain ⟨c2, o2⟩ := OutP.chk o2
      rw [Bool.and_eq_true, decide_eq_true_eq] at c2
      exact ⟨a, b, rfl, rfl, by simpa using c2.1, big_line c2.2, fun p np => o2 H2 (Same.refl H2) p _ _ np (strs_all _) rfl⟩
    | _ => exact o2.elim
  | _ => cases c
end

/-! ### a text times an int; a sign in a text -/
def mulS (d e : PD) : R PD := match d, e with
  | .str x, .int n => chk (decide (0 ≤ n ∧ n ≤ 1000 ∧ x.length ≤ 1000)) (.ok (.str (Txt.mul x n)))
  | d, e => mulD d e
theorem opd_mulS {X : Cx} : OpD X (binaryOp .Mult) mulS := by
  obtain ⟨r, h1, h2⟩ := opd_mul (X := X)
  have hs : OpR X (binaryOp .Mult) (fun x y H Q => ∃ a n, x = .str a ∧ y = .int n ∧ 0 ≤ n ∧ n ≤ 1000 ∧ a.length ≤ 1000 ∧ Q (.str (Txt.mul a n)) H) := by
    intro pins s σ H x y v u Q I rx ry h
    obtain ⟨a, n, rfl, rfl, z1, z2, z3, q⟩ := h
    obtain ⟨t, rfl⟩ := rx
    obtain ⟨t', rfl⟩ := ry
    refine PySem.SB.mul ⟨?_, ?_, ?_⟩ fun t2 k => ⟨.str _, H, I.tok k, ⟨t2, rfl⟩, q⟩
    · rw [decide_eq_false (by omega), decide_eq_false (by omega)]; rfl
    · intro h1 h2 h3
      have : (9223372036854775807 : Int) / 1000 ≤ (2 ^ 63 - 1) / n := by
        rw [show (2 ^ 63 - 1 : Int) = 9223372036854775807 by decide]
        rw [Int.le_ediv_iff_mul_le (by omega)]
        have := Int.mul_le_mul_of_nonneg_left z2 (show (0 : Int) ≤ 9223372036854775807 / 1000 by decide)
        omega
      omega
    · intro h1 h2
      have hle : a.length * n.toNat ≤ 1000 * 1000 := Nat.mul_le_mul z3 (by omega)
      unfold Builtin.Str.tooLong
      rw [decide_eq_false]
      rw [sizeLine_eq]; omega
  refine ⟨_, hs.or h1, fun W O σ H x y d e Q nO hx hy o => ?_⟩
  unfold mulS at o
  cases d with
  | str a =>
    cases e with
    | int n =>
      obtain ⟨c, o⟩ := OutP.chk o
      have c' := of_decide_eq_true c
      cases hx.sc_str
      cases hy.sc_int
      exact .inl ⟨a, n, rfl, rfl, c'.1, c'.2.1, c'.2.2, o H (Same.refl H) _ (.str _)⟩
    | _ => exact .inr (h2 W O σ H x y _ _ Q nO hx hy o)
  | _ => exact .inr (h2 W O σ H x y _ _ Q nO hx hy o)
def inS (d e : PD) : R PD := match d, e with
  | .str x, .str z => .ok (.bool (!(Builtin.Str.occurrences z x 0 z.length 1).isEmpty))
  | d, e => inD d e
def notinS (d e : PD) : R PD := match d, e with
  | .str x, .str z => .ok (.bool (!!(Builtin.Str.occurrences z x 0 z.length 1).isEmpty))
  | d, e => notinD d e
theorem opd_inS {X : Cx} (hu : Deep X) : OpD X (compareOp .In) inS := by
  obtain ⟨r, h1, h2⟩ := opd_in hu
  refine ⟨_, op_in_str.or h1, fun W O σ H x y d e Q nO hx hy o => ?_⟩
  unfold inS at o
  cases d with
  | str a =>
    cases e with
    | str b =>
      cases hx.sc_str
      cases hy.sc_str
      exact .inl ⟨a, b, rfl, rfl, o H (Same.refl H) _ (.bl _)⟩
    | _ => exact .inr (h2 W O σ H x y _ _ Q nO hx hy o)
  | _ => exact .inr (h2 W O σ H x y _ _ Q nO hx hy o)
theorem opd_notinS {X : Cx} (hu : Deep X) : OpD X (compareOp .NotIn) notinS := by
  obtain ⟨r, h1, h2⟩ := opd_notin hu
  refine ⟨_, op_notIn_str.or h1, fun W O σ H x y d e Q nO hx hy o => ?_⟩
  unfold notinS at o
  cases d with
  | str a =>
    cases e with
    | str b =>
      cases hx.sc_str
      cases hy.sc_str
      exact .inl ⟨a, b, rfl, rfl, o H (Same.refl H) _ (.bl _)⟩
    | _ => exact .inr (h2 W O σ H x y _ _ Q nO hx hy o)
  | _ => exact .inr (h2 W O σ H x y _ _ Q nO hx hy o)

/-! ### xs[::-1] -/
def revD (d : PD) : R PD := match d with
  | .list ds => .ok (.list ds.reverse)
  | .tuple ds => .ok (.tuple ds.reverse)
  | .str z => chk (decide (z.length ≤ big)) (.ok (.str ⟨z.cps.toList.reverse.toArray⟩))
  | _ => .bad
/-- what [::-1] wants of a value -/
def BackR (X : Cx) (R : V → Hp → VK → Prop) : Prop := ∀ (pins : List (Addr × Obj)) (s : Shared) (σ : L2.St) (H : Hp) (x : V) (v : Value) (sl : Addr) (m : Value) (Q : VK), Inv X pins σ H s → RelV x v → s.heap.IsSliceOf sl .none .none m → IsPart m (some (-1)) → R x H Q →
  ∃ T id, typeLookup (.type T) "__getitem__" = pure (some (.builtin id)) ∧ s.TypeIs v T ∧ wpAny (model X.prog X.w) X.A (getItem v (.ref sl)) (EP X pins σ Q) X.xe s
theorem BackR.or {X : Cx} {R R' : V → Hp → VK → Prop} (a : BackR X R) (b : BackR X R') : BackR X fun x H Q => R x H Q ∨ R' x H Q := fun pins s σ H x v sl m Q I r h p q => q.elim (a pins s σ H x v sl m Q I r h p) (b pins s σ H x v sl m Q I r h p)
theorem pe_back {X : Cx} {R : V → Hp → VK → Prop} {e : Expr} {te : TE} {k : Nat} {p1 p2 p3 pos : Pos} (hR : BackR X R) (he : PE X e te) :
    PE X (.Subscript e (.Slice none none (some (.UnaryOp .USub (.Constant (.int 1) k p1) p2)) p3) pos) (fun σ H Q => te σ H fun x H1 => R x H1 Q) := by
  refine ⟨fun pins s σ H Q I want => ?_⟩
  refine Subscript_ (thn (he.run pins s σ H _ I want) ?_)
  rintro v s1 ⟨x, H1, I1, r1, q1⟩
  have minus : PO X (some (.UnaryOp .USub (.Constant (.int 1) k p1) p2)) (tPart (tUn (rU fun i => .int (-i)) (tC (.int 1)))) := po_some (pe_un un_neg pe_int)
  apply wpAny_Slice
  refine thn (po_none.run pins s1 σ H1 (fun o H2 => o = none ∧ H2 = H1) I1 ⟨rfl, rfl⟩) ?_
  rintro l s2 ⟨_, _, I2, pl, rfl, rfl⟩
  refine thn (po_none.run pins s2 σ _ (fun o H3 => o = none ∧ H3 = _) I2 ⟨rfl, rfl⟩) ?_
  rintro u s3 ⟨_, _, I3, pu, rfl, rfl⟩
  refine thn (minus.run pins s3 σ _ (fun o H4 => o = some (-1) ∧ H4 = _) I3 ⟨1, rfl, -1, rfl, rfl, rfl⟩) ?_
  rintro m s4 ⟨_, _, I4, pm, rfl, rfl⟩
  cases pl
  cases pu
  have I5 := I4.kept (t' := s4.toks) (h' := s4.heap.push { cls := .type "slice", data := .fields #[.none, .none, m] }) fun b ob q => Heap.get?_push_of_some _ q
  obtain ⟨T, id, look, ty, done⟩ := hR pins _ σ _ x v _ m Q I5 r1 (Heap.IsSliceOf.new _ .none .none m) pm q1
  exact tail_any (ops := [v, .ref s4.heap.objs.size]) ty look done (by with_unfolding_all rfl)
section
variable {X : Cx}
def rBackL (K : PySem.W.Frag) : V → Hp → VK → Prop := fun x H Q => ∃ a xs, x = .ref a ∧ (SqL K H a xs) ∧ ∀ p, H p = none → Q (.ref p) (upd H p (.lst xs.reverse))
theorem back_list : BackR X (rBackL X.K) := by
  rintro pins s σ H x v sl m Q I r h pm ⟨a, xs, rfl, sq, q⟩
  cases r
  obtain ⟨its, vs, at_, few⟩ := I.list sq
  have len := vs.length
  refine ⟨"list", _, slot_list_getitem.lookup, at_.isList.typeIs, ?_⟩
  refine wpAny_getItem_list_slice at_.isList h .none .none pm (by decide) ?_ (by rw [List.size_toArray]; omega)
  rw [PySem.W.krv_pick]
  exact ⟨.ref _, _, I.laid (t' := s.toks) (o := .lst xs.reverse) (fun b ob q => Heap.get?_push_of_some _ q) (Nat.le_refl _) ⟨by rw [List.length_reverse]; exact few, _, 0, vs.reverse, Heap.get?_push_size _ rfl⟩, rfl, q _ (I.hok.fresh (Nat.le_refl _))⟩
def rBackT (K : PySem.W.Frag) : V → Hp → VK → Prop := fun x H Q => ∃ a xs, x = .ref a ∧ (SqT K H a xs) ∧ ∀ p, H p = none → Q (.ref p) (upd H p (.tup xs.reverse))
theorem fm_congr {α β : Type} {f g : α → Option β} : ∀ (l : List α), (∀ x ∈ l, f x = g x) → l.filterMap f = l.filterMap g
  | [], _ => rfl
  | x :: l, h => by
    rw [List.filterMap_cons, List.filterMap_cons, h x List.mem_cons_self, fm_congr l fun y hy => h y (List.mem_cons_of_mem _ hy)]
theorem back_pick (xs : Array Value) : ((List.range xs.size).filterMap fun (k : Nat) => xs[(((xs.size : Nat) : Int) - 1 + (k : Int) * -1).toNat]?).toArray = xs.toList.reverse.toArray := by
  have e : ((List.range xs.size).map fun k => xs.size - 1 - k) = (List.range xs.size).reverse := PySem.W.krv_range _
  have e2 := PySem.W.krv_all xs
  rw [← e2, ← List.filterMap_reverse, ← e, List.filterMap_map]
  congr 1
  refine fm_congr _ fun k hk => ?_
  have := List.mem_range.mp hk
  show xs[(((xs.size : Nat) : Int) - 1 + (k : Int) * -1).toNat]? = xs[xs.size - 1 - k]?
  congr 1; omega
theorem back_tuple : BackR X (rBackT X.K) := by
  rintro pins s σ H x v sl m Q I r h pm ⟨a, xs, rfl, sq, q⟩
  cases r
  obtain ⟨its, vs, at_, few⟩ := I.tuple sq
  have len := vs.length
  refine ⟨"tuple", _, PyProof.Rows.slot_tuple_getitem.lookup, at_.typeIs, ?_⟩
  obtain ⟨so, sh, sc, sd⟩ := id h
  have ts : s.TypeIs (.ref sl) "slice" := ⟨so, sh, sc⟩
  have done : EP X pins σ Q (.ref s.heap.objs.size) { s with heap := s.heap.push { cls := .type "tuple", data := .seq its.reverse.toArray } } :=
    ⟨.ref _, _, I.laid (t' := s.toks) (o := .tup xs.reverse) (fun b ob q => Heap.get?_push_of_some _ q) (Nat.le_refl _) ⟨by rw [List.length_reverse]; exact few, _, vs.reverse, IsTup.new _ _⟩, rfl, q _ (I.hok.fresh (Nat.le_refl _))⟩
  have fits : sizeOk (.seq its.reverse.toArray) := by
    show its.reverse.toArray.size ≤ sizeLine
    rw [List.size_toArray, List.length_reverse]; omega
  unfold getItem
  try with_reducible refine wpAny_holding ?_
  first | refine wpAny_bind (wpAny_pure ?_) | skip
  refine wpAny_bind (wpAny_sequenceKey at_.typeIs (by decide) ?_)
  refine wpAny_bind (wpAny_callSpecial?_slot (name := Str.ofString "__getitem__") at_.typeIs PyProof.Rows.slot_tuple_getitem (wpAny_call_entry PyProof.Rows.slot_tuple_getitem at_.typeIs PyProof.Rows.entry_tuple_getitem ?_ (PyProof.Rows.args_tuple_getitem _ _)))
  show wpAny _ _ (Builtin.Tuple.tupleItemsOf (.ref a) >>= _) _ _ s
  refine wpAny_bind (PyProof.Rows.tupleItemsOf_ at_ (wpAny_bind (wpAny_typeOf ts ?_)))
  rw [if_pos (by decide)]
  have places : ∀ n : Nat, (Builtin.Slice.sliceAdjust none none (-1) (n : Int)).1 = (n : Int) - 1 ∧ Builtin.Slice.slicePlaces (Builtin.Slice.sliceAdjust none none (-1) (n : Int)).1 (Builtin.Slice.sliceAdjust none none (-1) (n : Int)).2 (-1) = n := by
    intro n
    refine ⟨rfl, ?_⟩
    show (if (-1 : Int) > 0 then _ else if (n : Int) - 1 > -1 then ((n : Int) - 1 - -1 - 1) / (- -1) + 1 else 0).toNat = n
    rw [if_neg (by decide)]
    split
    · rw [show (- -1 : Int) = 1 by decide, Int.ediv_one]; omega
    · omega
  refine wpAny_bind ?_
  unfold Builtin.Slice.sliceApplied Builtin.Slice.sliceFields
  refine wpAny_bind (wpAny_bind (wpAny_field sh sd (x := .none) rfl (wpAny_bind (wpAny_field sh sd (x := .none) rfl (wpAny_bind (wpAny_field sh sd (x := m) rfl (wpAny_pure ?_)))))))
  refine wpAny_bind (HT.slicePart_ pm ?_)
  show wpAny _ _ (if ((-1 : Int) == 0) = true then _ else _) _ _ s
  rw [if_neg (by decide)]
  refine wpAny_bind (HT.slicePart_ .none (wpAny_bind (HT.slicePart_ .none (wpAny_bind (wpAny_pure ?_)))))
  show wpAny _ _ (pure ((Builtin.Slice.sliceAdjust none none (-1) ((its.toArray.size : Nat) : Int)).1, (-1 : Int), Builtin.Slice.slicePlaces (Builtin.Slice.sliceAdjust none none (-1) ((its.toArray.size : Nat) : Int)).1 (Builtin.Slice.sliceAdjust none none (-1) ((its.toArray.size : Nat) : Int)).2 (-1))) _ _ s
  rw [(places its.toArray.size).2, (places its.toArray.size).1]
  refine wpAny_pure ?_
  show wpAny _ _ (if ((((its.toArray.size : Nat) : Int) - 1 == 0 && (-1 : Int) == 1) && its.toArray.size == its.toArray.size) = true then _ else _) _ _ s
  rw [if_neg (by rw [show ((-1 : Int) == 1) = false from rfl, Bool.and_false, Bool.false_and]; exact Bool.false_ne_true), back_pick]
  first
    | exact wpAny_bind (m := Builtin.Tuple.tupleExact _) (wpAny_newObj_type (wpAny_pure ⟨_, rfl, wpAny_pure done⟩) fits)
    | exact wpAny_bind (wpAny_bind (m := Builtin.Tuple.tupleExact _) (wpAny_newObj_type (wpAny_pure (wpAny_pure ⟨_, rfl, wpAny_pure done⟩)) fits))
    | exact wpAny_bind (wpAny_bind (m := Builtin.Tuple.tupleExact _) (wpAny_newObj_type (wpAny_pure ⟨_, rfl, wpAny_pure done⟩) fits))
def rBackS : V → Hp → VK → Prop := fun x H Q => ∃ z, x = .str z ∧ z.length ≤ sizeLine ∧ Q (.str ⟨z.cps.toList.reverse.toArray⟩) H
theorem back_str : BackR X rBackS := by
  rintro pins s σ H x v sl m Q I r h pm ⟨z, rfl, few, q⟩
  obtain ⟨t, rfl⟩ := r
  obtain ⟨so, sh, sc, sd⟩ := h
  obtain ⟨p, rfl, e⟩ := IsPart.raw pm
  refine ⟨"str", _, F.slot_str_getitem.lookup, typeIs_str _ _ _, ?_⟩
  have e1 : (p.map (·.1)).getD 1 = -1 := by rw [e]; rfl
  refine wpAny_getItem_str_slice (l := none) (u := none) (st := p) ⟨so, sh, sc, sd⟩ (by rw [e1]; rfl) ?_
  have pick : (slicePicked z none none p).filterMap (z.cps[·]?) = z.cps.toList.reverse := by
    unfold slicePicked
    rw [e1]
    show (sliceRange ((z.length : Nat) - 1 : Int) (-1) (-1)).filterMap (z.cps[·]?) = _
    rw [show ((z.length : Nat) : Int) = ((z.cps.size : Nat) : Int) from rfl, PySem.W.krv_sliceRange, PySem.W.krv_range, List.filterMap_reverse, PySem.W.krv_all]
  unfold sliceMade
  rw [e1, pick, if_neg (by rw [show ((-1 : Int) == 1) = false from rfl, Bool.false_and]; exact Bool.false_ne_true)]
  refine ⟨?_, .str _, H, I.tok _, ⟨_, rfl⟩, q⟩
  show z.cps.toList.reverse.toArray.size ≤ sizeLine
  rw [List.size_toArray, List.length_reverse]; exact few
end
section
variable {X : Cx} {W : WX} {e : Expr} {f : En → R PD} {k : Nat} {p1 p2 p3 pos : Pos}
theorem all_rev {K : PySem.W.Frag} {H : Hp} : ∀ {vs : List V} {ds : List PD}, DqAll K H vs ds → DqAll K H vs.reverse ds.reverse
  | _, _, .nil => .nil
  | _, _, .cons a b => by rw [List.reverse_cons, List.reverse_cons]; exact (all_rev b).append (.one a)
theorem de_rev (he : DV X W e f) : DE X W (.Subscript e (.Slice none none (some (.UnaryOp .USub (.Constant (.int 1) k p1) p2)) p3) pos) (c1 revD f) := by
  obtain ⟨t, pt, qt⟩ := he.ex
  refine ⟨_, pe_back ((back_list.or back_tuple).or back_str) pt, fun H0 O0 O ρ σ H Q rl o => ?_⟩
  refine qt H0 O0 O ρ σ H _ rl (o.bind.imp fun d H1 e1 o1 v hv => ?_)
  have nO := fun p (np : H1 p = none) => (rl.grow e1).fresh np
  cases d with
  | list ds =>
    obtain ⟨a, vs, rfl, k1, k2⟩ := hv.list
    exact .inl (.inl ⟨a, vs, rfl, .inl k1, fun p np => o1 _ (Same.updNew np) _ (.lst (.inl (wo_new (nO p np))) (all_grow np (all_rev k2)))⟩)
  | tuple ds =>
    obtain ⟨a, vs, rfl, k1, k2⟩ := hv.tuple
    exact .inl (.inr ⟨a, vs, rfl, Same.seqT wo_self k1, fun p np => o1 _ (Same.updNew np) _ (.tup (.inl (.inl (wo_new (nO p np)))) (all_grow np (all_rev k2)))⟩)
  | str z =>
    cases hv.sc_str
    obtain ⟨c, o1⟩ := OutP.chk o1
    exact .inr ⟨z, rfl, big_line (of_decide_eq_true c), o1 H1 (Same.refl H1) _ (.str _)⟩
  | _ => exact o1.elim
end
end DL
namespace DL
open PySem PySem.Spec L2
/-! ### texts by their signs -/
def chars (s : Str) : List Nat := s.cps.toList
theorem chars_ext {a b : Str} (h : chars a = chars b) : a = b := by
  obtain ⟨a⟩ := a
  obtain ⟨b⟩ := b
  congr 1
  exact Array.toList_inj.mp h
theorem chars_app (a b : Str) : chars (a ++ b) = chars a ++ chars b := by
  show (a.cps ++ b.cps).toList = _
  rw [Array.toList_append]; rfl
theorem chars_len (a : Str) : (chars a).length = a.length := Array.length_toList
/-- words with one sign between them -/
def J (c : Nat) : List (List Nat) → List Nat
  | [] => []
  | [w] => w
  | w :: v :: ws => w ++ c :: J c (v :: ws)
theorem chars_join (c : Nat) : ∀ ws : List Str, chars (Str.join ⟨#[c]⟩ ws) = J c (ws.map chars)
  | [] => rfl
  | [w] => rfl
  | w :: v :: ws => by
    show chars (w ++ ⟨#[c]⟩ ++ Str.join ⟨#[c]⟩ (v :: ws)) = _
    rw [chars_app, chars_app, chars_join c (v :: ws)]
    show chars w ++ [c] ++ _ = chars w ++ c :: J c (chars v :: ws.map chars)
    rw [List.append_assoc]; rfl
theorem tw_all {p : Nat → Bool} : ∀ w : List Nat, (∀ x ∈ w, p x = true) → w.takeWhile p = w ∧ w.dropWhile p = []
  | [], _ => ⟨rfl, rfl⟩
  | x :: w, h => by
    obtain ⟨a, b⟩ := tw_all w fun y hy => h y (List.mem_cons_of_mem _ hy)
    rw [List.takeWhile_cons_of_pos (h x List.mem_cons_self), List.dropWhile_cons_of_pos (h x List.mem_cons_self), a, b]
    exact ⟨rfl, rfl⟩
theorem J_cut (c : Nat) {w : List Nat} (h : c ∉ w) {ws : List (List Nat)} : (J c (w :: ws)).takeWhile (fun x => x != c) = w ∧ (ws ≠ [] → (J c (w :: ws)).dropWhile (fun x => x != c) = c :: J c ws) ∧ (ws = [] → (J c (w :: ws)).dropWhile (fun x => x != c) = []) := by
  have hall : ∀ x ∈ w, (x != c) = true := fun x hx => by
    simp only [bne_iff_ne, ne_eq]
    rintro rfl; exact h hx
  cases ws with
  | nil =>
    refine ⟨?_, fun z => absurd rfl z, fun _ => ?_⟩
    · show w.takeWhile _ = w
      exact (tw_all w hall).1
    · show w.dropWhile _ = []
      exact (tw_all w hall).2
  | cons v ws =>
    refine ⟨?_, fun _ => ?_, fun z => by cases z⟩
    · show (w ++ c :: J c (v :: ws)).takeWhile _ = w
      rw [List.takeWhile_append_of_pos hall, List.takeWhile_cons_of_neg (by simp), List.append_nil]
    · show (w ++ c :: J c (v :: ws)).dropWhile _ = _
      rw [List.dropWhile_append_of_pos hall, List.dropWhile_cons_of_neg (by simp)]
theorem J_inj (c : Nat) : ∀ (ws us : List (List Nat)), ws ≠ [] → us ≠ [] → (∀ w ∈ ws, c ∉ w) → (∀ w ∈ us, c ∉ w) → J c ws = J c us → ws = us
  | [], _, h, _, _, _, _ => absurd rfl h
  | _, [], _, h, _, _, _ => absurd rfl h
  | w :: ws, u :: us, _, _, h1, h2, e => by
    obtain ⟨a1, a2, a3⟩ := J_cut c (h1 w List.mem_cons_self) (ws := ws)
    obtain ⟨b1, b2, b3⟩ := J_cut c (h2 u List.mem_cons_self) (ws := us)
    rw [e] at a1 a2 a3
    have hw : w = u := a1.symm.trans b1
    subst hw
    congr 1
    by_cases hws : ws = []
    · by_cases hus : us = []
      · rw [hws, hus]
      · have := (a3 hws).symm.trans (b2 hus); cases this
    · by_cases hus : us = []
      · have := (a2 hws).symm.trans (b3 hus); cases this
      · have := (a2 hws).symm.trans (b2 hus)
        exact J_inj c ws us hws hus (fun x hx => h1 x (List.mem_cons_of_mem _ hx)) (fun x hx => h2 x (List.mem_cons_of_mem _ hx)) (List.cons.inj this).2
theorem split_join (c : Nat) (ws : List Str) (hne : ws ≠ []) (hf : ∀ w ∈ ws, c ∉ chars w) : Txt.split (Txt.join ⟨#[c]⟩ ws) ⟨#[c]⟩ = ws := by
  have e1 := StrLaws.join_split (Txt.join ⟨#[c]⟩ ws) ⟨#[c]⟩
  have e2 : Txt.join ⟨#[c]⟩ ws = Str.join ⟨#[c]⟩ ws := StrLaws.glued_eq_join _ _
  have hs := StrLaws.split_free (Txt.join ⟨#[c]⟩ ws) c
  generalize hsp : Txt.split (Txt.join ⟨#[c]⟩ ws) ⟨#[c]⟩ = us at *
  rw [e2] at e1
  have hu : us ≠ [] := by
    rintro rfl
    have := PyProof.Rows.split_pos (Txt.join ⟨#[c]⟩ ws) ⟨#[c]⟩
    rw [hsp] at this
    simp at this
  have h3 := congrArg chars e1
  rw [chars_join, chars_join] at h3
  have := J_inj c (us.map chars) (ws.map chars) (by simpa using hu) (by simpa using hne) (fun w hw => by obtain ⟨x, hx, rfl⟩ := List.mem_map.mp hw; exact hs x hx) (fun w hw => by obtain ⟨x, hx, rfl⟩ := List.mem_map.mp hw; exact hf x hx) h3
  have inj : ∀ (a b : List Str), a.map chars = b.map chars → a = b := fun a => by
    induction a with
    | nil => intro b h; cases b with
      | nil => rfl
      | cons => cases h
    | cons x xs ih => intro b h; cases b with
      | nil => cases h
      | cons y ys =>
        rw [List.map_cons, List.map_cons] at h
        rw [chars_ext (List.cons.inj h).1, ih ys (List.cons.inj h).2]
  exact inj _ _ this

/-! ### readings, applied -/
@[simp] theorem a_mulS (i j : Int) : mulS (.int i) (.int j) = mulD (.int i) (.int j) := rfl
theorem a_mulSs (x : Str) (n : Int) (h : 0 ≤ n ∧ n ≤ 1000) (hx : x.length ≤ 1000) : mulS (.str x) (.int n) = .ok (.str (Txt.mul x n)) := by
  unfold mulS
  show chk _ _ = _
  rw [chk_of (decide_eq_true ⟨h.1, h.2, hx⟩)]
@[simp] theorem a_isS (x : Str) : isS (.str x) = true := rfl
theorem in_strs (v : Str) (ms : List Str) : inS (.str v) (.list (ms.map PyData.str)) = .ok (.bool (decide (v ∈ ms))) := by
  have e : ((ms.map PyData.str).any fun y => PyData.eqv y (.str v)) = decide (v ∈ ms) := by
    induction ms with
    | nil => rfl
    | cons x xs ih =>
      rw [List.map_cons, List.any_cons, ih]
      by_cases h : x = v
      · simp [h, PyData.eqv]
      · simp [h, PyData.eqv, Ne.symm h]
  have ok : inOk (.str v) (ms.map PyData.str) = true := by
    unfold inOk
    rw [decide_eq_true_eq, dp_str]; omega
  show inD (.str v) (.list (ms.map PyData.str)) = _
  simp [inD, ok, e]
theorem split_ok {a : Str} (c : Nat) (h : a.length ≤ 1000000) : splitD (.str a) (.str ⟨#[c]⟩) = .ok ((Txt.split a ⟨#[c]⟩).map .str) := by
  unfold splitD
  show chk _ _ = _
  rw [chk_of (by simp [Str.length, big_eq] at h ⊢; omega)]
theorem join_ok {a : Str} {ys : List Str} (h : (ys.map (·.length)).sum + ys.length * a.length ≤ 16777216) : joinD (.str a) (.list (ys.map .str)) = .ok (.str (Txt.join a ys)) := by
  unfold joinD
  show (R.ok (ys.map PyData.str)).bind _ = _
  rw [R.ok_bind]
  simp only [strsOf_map]
  rw [chk_of (decide_eq_true h)]

/-! ### what can be shown -/
mutual
def plainOk : PD → Bool
  | .none => true
  | .bool _ => true
  | .int i => decide (i.natAbs.log2 < 1920)
  | .str x => x.cps.toList.all fun c => decide (c < 16 ^ 8)
  | .list xs => plainOkAll xs
  | .tuple xs => plainOkAll xs
  | .dict _ => false
def plainOkAll : List PD → Bool
  | [] => true
  | x :: xs => plainOk x && plainOkAll xs
end
mutual
def cost : PD → Nat
  | .none => 5
  | .bool _ => 5
  | .int _ => 1921
  | .str x => 10 * x.length + 2
  | .list xs => costAll xs + 2 * xs.length + 3
  | .tuple xs => costAll xs + 2 * xs.length + 3
  | .dict _ => 0
def costAll : List PD → Nat
  | [] => 0
  | x :: xs => cost x + costAll xs
end
mutual
theorem ok_shown : ∀ d : PD, plainOk d = true → d.showable = true ∧ d.hasDict = false ∧ d.shown.length ≤ cost d
  | .none, _ => ⟨rfl, rfl, by rw [PyData.shown_none]; decide⟩
  | .bool b, _ => ⟨rfl, rfl, by rw [PyData.shown_bool]; cases b <;> decide⟩
  | .int i, h => by
    rw [plainOk] at h
    refine ⟨h, rfl, ?_⟩
    rw [PyData.shown_int, cost]
    exact PyProof.Rows.int_text_len_1921 (of_decide_eq_true h)
  | .str x, h => by
    rw [plainOk, List.all_eq_true] at h
    refine ⟨rfl, rfl, ?_⟩
    rw [PyData.shown_str, cost]
    exact StrLaws.reprText_len x fun c hc => of_decide_eq_true (h c hc)
  | .list xs, h => by
    rw [plainOk] at h
    obtain ⟨h1, h2, h3⟩ := ok_shownAll xs h
    refine ⟨h1, h2, ?_⟩
    rw [cost]
    have := listText_len_le (PyData.shownAll xs)
    rw [PyData.shownAll_length] at this
    simp only [PyData.shown]
    omega
  | .tuple xs, h => by
    rw [plainOk] at h
    obtain ⟨h1, h2, h3⟩ := ok_shownAll xs h
    refine ⟨h1, h2, ?_⟩
    rw [cost]
    have := tupleText_len_le (PyData.shownAll xs)
    rw [PyData.shownAll_length] at this
    simp only [PyData.shown]
    omega
  | .dict _, h => by rw [plainOk] at h; cases h
theorem ok_shownAll : ∀ ds : List PD, plainOkAll ds = true → PyData.showableAll ds = true ∧ PyData.hasDictAll ds = false ∧ ((PyData.shownAll ds).map (·.length)).sum ≤ costAll ds
  | [], _ => ⟨rfl, rfl, by simp [PyData.shownAll, costAll]⟩
  | x :: xs, h => by
    rw [plainOkAll, Bool.and_eq_true] at h
    obtain ⟨a1, a2, a3⟩ := ok_shown x h.1
    obtain ⟨b1, b2, b3⟩ := ok_shownAll xs h.2
    refine ⟨by rw [PyData.showableAll, a1, b1]; rfl, by rw [PyData.hasDictAll, a2, b2]; rfl, ?_⟩
    rw [PyData.shownAll, costAll, List.map_cons, List.sum_cons]
    omega
end
theorem show_ok {d : PD} (h : plainOk d = true) (hd : d.depth ≤ 100) (hc : cost d ≤ 10000000) : dShow d = true := by
  obtain ⟨h1, h2, h3⟩ := ok_shown d h
  unfold dShow
  rw [h1, h2, decide_eq_true ⟨hd, by rw [big_eq]; omega⟩]; rfl
theorem repr_ok {d : PD} (h : plainOk d = true) (hd : d.depth ≤ 100) (hc : cost d ≤ 10000000) : reprD [d] = .ok (.str d.shown) := by
  show chk (dShow d) _ = _
  rw [chk_of (show_ok h hd hc)]
mutual
theorem plain_nod : ∀ d : PD, plainOk d = true → nod d = true
  | .none, _ => rfl
  | .bool _, _ => rfl
  | .int _, _ => rfl
  | .str _, _ => rfl
  | .list xs, h => by rw [plainOk] at h; rw [nod]; exact plain_nodAll xs h
  | .tuple xs, h => by rw [plainOk] at h; rw [nod]; exact plain_nodAll xs h
  | .dict _, h => by rw [plainOk] at h; cases h
theorem plain_nodAll : ∀ ds : List PD, plainOkAll ds = true → nodAll ds = true
  | [], _ => rfl
  | x :: xs, h => by
    rw [plainOkAll, Bool.and_eq_true] at h
    rw [nodAll, plain_nod x h.1, plain_nodAll xs h.2]; rfl
end
end DL
namespace DL
open PySem PySem.Spec PyProof.Rows L2
variable {X : Cx}
/-! ### max and min of three ints -/
def mx3 (a b c : Int) : Int := if b > a then (if c > b then c else b) else (if c > a then c else a)
def mn3 (a b c : Int) : Int := if b < a then (if c < b then c else b) else (if c < a then c else a)
def best3 (g : Int → Int → Int → Int) : List PD → R PD
  | [.int i, .int j, .int k] => .ok (.int (g i j k))
  | _ => .bad
def maxD3 := best3 mx3
def minD3 := best3 mn3
theorem vals3 {x y z : V} {us : List Value} (r : Vals [x, y, z] us) : ∃ u v w, us = [u, v, w] ∧ RelV x u ∧ RelV y v ∧ RelV z w := by
  cases r with
  | cons r1 r2 =>
    cases r2 with
    | cons r3 r4 =>
      cases r4 with
      | cons r5 r6 => cases r6; exact ⟨_, _, _, rfl, r1, r3, r5⟩
theorem call_max3 (hc : X.calm = true) : CallR X (.builtin "max") (fun xs H Q => ∃ i j k, xs = [.int i, .int j, .int k] ∧ Q (.int (mx3 i j k)) H) := by
  intro pins s σ H xs us Q I r h
  obtain ⟨i, j, k, rfl, q⟩ := h
  obtain ⟨u, v, w', rfl, ⟨t, rfl⟩, ⟨t', rfl⟩, ⟨t'', rfl⟩⟩ := vals3 r
  refine max_three_ints (I.ok.hd hc) fun h' tk kk => ⟨_, H, I.kept kk, ?_, q⟩
  unfold mx3
  split <;> split <;> exact ⟨_, rfl⟩
theorem call_min3 (hc : X.calm = true) : CallR X (.builtin "min") (fun xs H Q => ∃ i j k, xs = [.int i, .int j, .int k] ∧ Q (.int (mn3 i j k)) H) := by
  intro pins s σ H xs us Q I r h
  obtain ⟨i, j, k, rfl, q⟩ := h
  obtain ⟨u, v, w', rfl, ⟨t, rfl⟩, ⟨t', rfl⟩, ⟨t'', rfl⟩⟩ := vals3 r
  refine min_three_ints (I.ok.hd hc) fun h' tk kk => ⟨_, H, I.kept kk, ?_, q⟩
  unfold mn3
  split <;> split <;> exact ⟨_, rfl⟩
theorem best3_go {g : Int → Int → Int → Int} {id : String} (h : CallR X (.builtin id) (fun xs H Q => ∃ i j k, xs = [.int i, .int j, .int k] ∧ Q (.int (g i j k)) H)) : CallD X (.builtin id) (best3 g) := by
  refine ⟨_, h, fun W O σ H vs xs Q nO hv o => ?_⟩
  unfold best3 at o
  split at o
  · rename_i i j k
    match vs, hv with
    | _, .cons k1 (.cons k2 (.cons k3 .nil)) => cases k1.sc_int; cases k2.sc_int; cases k3.sc_int; exact ⟨i, j, k, rfl, o H (Same.refl H) _ (.int _)⟩
  · exact o.elim
theorem cd_max3 (hc : X.calm = true) : CallD X (.builtin "max") maxD3 := best3_go (call_max3 hc)
theorem cd_min3 (hc : X.calm = true) : CallD X (.builtin "min") minD3 := best3_go (call_min3 hc)
theorem a_max3 (a b c : Int) : maxD3 [.int a, .int b, .int c] = .ok (.int (max a (max b c))) := by
  show R.ok (PyData.int (mx3 a b c)) = _
  congr 2
  unfold mx3
  split <;> split <;> omega
theorem a_min3 (a b c : Int) : minD3 [.int a, .int b, .int c] = .ok (.int (min a (min b c))) := by
  show R.ok (PyData.int (mn3 a b c)) = _
  congr 2
  unfold mn3
  split <;> split <;> omega
/-! ### a comprehension whose values are only known to be there -/
theorem compP_ex {α γ : Type} {q : PD → R (Option PD)} (enc : α → PD) (dec : γ → PD) (P : γ → Prop) : ∀ (xs : List α), (∀ x ∈ xs, ∃ y, P y ∧ q (enc x) = .ok (some (dec y))) → ∃ ys : List γ, ys.length = xs.length ∧ (∀ y ∈ ys, P y) ∧ compP q (xs.map enc) = .ok (ys.map dec)
  | [], _ => ⟨[], rfl, by simp, rfl⟩
  | x :: xs, h => by
    obtain ⟨y, hy, e⟩ := h x List.mem_cons_self
    obtain ⟨ys, l, hp, e2⟩ := compP_ex enc dec P xs fun z hz => h z (List.mem_cons_of_mem _ hz)
    refine ⟨y :: ys, by rw [List.length_cons, l, List.length_cons], fun z hz => ?_, ?_⟩
    · rcases List.mem_cons.mp hz with rfl | hz
      · exact hy
      · exact hp z hz
    · rw [List.map_cons, cp_cons, e]
      show (compP q (xs.map enc)).bind (fun r => R.ok (dec y :: r)) = _
      rw [e2]; rfl
theorem lcP_ex {α γ : Type} {q : PD → R (Option PD)} (enc : α → PD) (dec : γ → PD) (P : γ → Prop) (xs : List α) (hl : xs.length ≤ 10000000) (h : ∀ x ∈ xs, ∃ y, P y ∧ q (enc x) = .ok (some (dec y))) : ∃ ys : List γ, ys.length = xs.length ∧ (∀ y ∈ ys, P y) ∧ lcP (xs.map enc) q = .ok (ys.map dec) := by
  obtain ⟨ys, l, hp, e⟩ := compP_ex enc dec P xs h
  refine ⟨ys, l, hp, ?_⟩
  unfold lcP
  rw [chk_of (decide_eq_true (by rw [List.length_map, big_eq]; exact hl)), e]
end DL
namespace DL
open PySem PySem.Spec PyProof.Rows L2
/-! ### whole numbers, each once, by their size -/
def insU (x : Int) : List Int → List Int
  | [] => [x]
  | y :: ys => if x < y then x :: y :: ys else if x = y then y :: ys else y :: insU x ys
def sortSet (ns : List Int) : List Int := ns.foldr insU []
theorem mem_insU {x k : Int} : ∀ {l : List Int}, k ∈ insU x l ↔ k = x ∨ k ∈ l
  | [] => by simp [insU]
  | y :: ys => by
    unfold insU
    by_cases h : x < y
    · rw [if_pos h]; simp
    · rw [if_neg h]
      by_cases h2 : x = y
      · rw [if_pos h2, h2]; simp
      · rw [if_neg h2, List.mem_cons, mem_insU, List.mem_cons]
        constructor
        · rintro (h | h | h)
          · exact .inr (.inl h)
          · exact .inl h
          · exact .inr (.inr h)
        · rintro (h | h | h)
          · exact .inr (.inl h)
          · exact .inl h
          · exact .inr (.inr h)
theorem insU_up {x : Int} : ∀ {l : List Int}, l.Pairwise (· < ·) → (insU x l).Pairwise (· < ·)
  | [], _ => by simp [insU]
  | y :: ys, h => by
    obtain ⟨h1, h2⟩ := List.pairwise_cons.mp h
    unfold insU
    by_cases c : x < y
    · rw [if_pos c]
      refine List.pairwise_cons.mpr ⟨fun z hz => ?_, h⟩
      rcases List.mem_cons.mp hz with rfl | hz
      · exact c
      · have := h1 z hz; omega
    · rw [if_neg c]
      by_cases c2 : x = y
      · rw [if_pos c2]; exact h
      · rw [if_neg c2]
        refine List.pairwise_cons.mpr ⟨fun z hz => ?_, insU_up h2⟩
        rcases mem_insU.mp hz with rfl | hz
        · omega
        · exact h1 z hz
theorem mem_sortSet {k : Int} : ∀ {ns : List Int}, k ∈ sortSet ns ↔ k ∈ ns
  | [] => by simp [sortSet]
  | n :: ns => by
    show k ∈ insU n (sortSet ns) ↔ _
    rw [mem_insU, mem_sortSet, List.mem_cons]
theorem sortSet_up : ∀ ns : List Int, (sortSet ns).Pairwise (· < ·)
  | [] => List.Pairwise.nil
  | n :: ns => insU_up (sortSet_up ns)
/-- two lists that go up and have the same members are the same -/
theorem up_same : ∀ {l m : List Int}, l.Pairwise (· < ·) → m.Pairwise (· < ·) → (∀ k, k ∈ l ↔ k ∈ m) → l = m
  | [], [], _, _, _ => rfl
  | [], y :: ys, _, _, h => absurd ((h y).mpr List.mem_cons_self) (by simp)
  | x :: xs, [], _, _, h => absurd ((h x).mp List.mem_cons_self) (by simp)
  | x :: xs, y :: ys, hl, hm, h => by
    obtain ⟨l1, l2⟩ := List.pairwise_cons.mp hl
    obtain ⟨m1, m2⟩ := List.pairwise_cons.mp hm
    have e : x = y := by
      rcases List.mem_cons.mp ((h x).mp List.mem_cons_self) with e | hx
      · exact e
      · rcases List.mem_cons.mp ((h y).mpr List.mem_cons_self) with e | hy
        · exact e.symm
        · have := m1 x hx; have := l1 y hy; omega
    subst e
    congr 1
    refine up_same l2 m2 fun k => ?_
    constructor
    · intro hk
      rcases List.mem_cons.mp ((h k).mp (List.mem_cons_of_mem _ hk)) with e | hk2
      · have := l1 k hk; omega
      · exact hk2
    · intro hk
      rcases List.mem_cons.mp ((h k).mpr (List.mem_cons_of_mem _ hk)) with e | hk2
      · have := m1 k hk; omega
      · exact hk2
theorem sortSet_is {ns out : List Int} (h : out.Pairwise (· < ·)) (hm : ∀ k, k ∈ out ↔ k ∈ ns) : sortSet ns = out := up_same (sortSet_up ns) h fun k => mem_sortSet.trans (hm k).symm
theorem sortSet_len (ns : List Int) : (sortSet ns).length ≤ ns.length := by
  induction ns with
  | nil => simp [sortSet]
  | cons n ns ih =>
    have : ∀ (x : Int) (l : List Int), (insU x l).length ≤ l.length + 1 := fun x l => by
      induction l with
      | nil => simp [insU]
      | cons y ys ih2 =>
        unfold insU
        split
        · simp
        · split
          · simp
          · simp; omega
    have h2 := this n (sortSet ns)
    show (insU n (sortSet ns)).length ≤ _
    rw [List.length_cons]; omega
/-! ### set of a list of ints: the set that it makes -/
section
variable {P : Program} {w : World} {A : Around} {E : Value → Shared → Prop} {s : Shared}
/-- the new empty set's object -/
def newSetO (w : World) : Obj := { cls := .type "set", dict := none, data := .set #[] 0 (.fresh 0 0 (!w.params.followText "set-order")) }
theorem set_of_ints {l : Addr} {items : Array Value} (ns : List Int) {Q : Value → Shared → Prop} (hh : A.handled = none) (hl : s.heap.IsList l items) (hit : IntsAre items.toList ns) (hb : ns.length + 1 < scanBound)
    (h : ∀ (h' : Heap) (tk c : Nat), SetR w h' s.heap.objs.size (fun j => decide (j ∈ ns)) c → c ≤ ns.length → (∀ b o, s.heap.get? b = some o → h'.get? b = some o) → Q (.ref s.heap.objs.size) { s with heap := h', toks := tk }) :
    wpAny (model P w) A (call (.type "set") [.ref l]) Q E s := by
  have hisz : items.size = ns.length := by
    have q := IntsAre.length hit
    rwa [Array.length_toList] at q
  have hval : ∀ (i : Nat) (v : Value), items[i]? = some v → ∃ k t, ns[i]? = some k ∧ v = .int k t := fun i v hv => by
    have hi : i < ns.length := by rw [← hisz]; exact (Array.getElem?_eq_some_iff.mp hv).1
    obtain ⟨t, e⟩ := IntsAre.int_at hit i v (by rw [Array.getElem?_toList]; exact hv)
    refine ⟨ns[i], t, List.getElem?_eq_getElem hi, ?_⟩
    rw [e, List.getD_eq_getElem?_getD, List.getElem?_eq_getElem hi] <;> rfl
  obtain ⟨c, tl, hmro⟩ := F.called_set.mro
  have hmade := F.called_set.made
  have hsub := F.called_set.sub
  have h1 := F.called_set.notType
  have h2 := F.called_set.canCreate
  have hct := F.typeCall_set_1 (.ref l)
  have hli := F.called_set.init.lookup
  have hbi := F.called_set.init.bind (.ref s.heap.objs.size)
  refine wpAny_call (codeAny_of_tree ?_)
  show wpAny _ _ (callAny (.type "set") _) _ _ _
  refine wpAny_pure ⟨Code.quiet_builtin _ (by decide +kernel), codeAny_builtin F.entry_type_call ?_⟩
  rw [Around.under_plain (weight_type_call_type "set" [.ref l] []) rfl]
  repeat (any_goals (first | assumption | wp_step))
  refine codeAny_mono (code_set_led1 (.ref l) (E := E) (Q₁ := fun obj s₁ => obj = .ref s.heap.objs.size ∧ s₁ = { s with heap := s.heap.push (newSetO w) }) ⟨rfl, rfl⟩) fun r s₁ hr => ?_
  match r, hr with
  | .error e, hr => exact hr
  | .ok (.ret obj), hr =>
    obtain ⟨rfl, rfl⟩ := hr
    have hS : (s.heap.push (newSetO w)).get? s.heap.objs.size = some (newSetO w) := Heap.get?_push_size _ rfl
    have hT : Shared.TypeIs { s with heap := s.heap.push (newSetO w) } (.ref s.heap.objs.size) "set" := ⟨_, hS, rfl⟩
    repeat (any_goals (first | assumption | wp_step))
    refine codeAny_mono (codeAny_call_builtin (R := wants (fun r s₂ => r = .none ∧ ∃ h' tk c, s₂ = { s with heap := h', toks := tk } ∧ SetR w h' s.heap.objs.size (fun j => decide (j ∈ ns)) c ∧ c ≤ ns.length ∧
        (∀ b o, s.heap.get? b = some o → h'.get? b = some o)) E) F.called_set.init.plain F.entry_set_init (check_set_init_1 hT ?_)) fun r₂ s₂ hr₂ => ?_
    · obtain ⟨⟨ocls, odict, odata, oslots⟩, hol, hcl, nl, hdl⟩ := hl
      simp only at hcl hdl
      subst hcl; subst hdl
      have hol' := Heap.get?_push_of_some (newSetO w) hol
      have hsls := F.sub_list_set
      have hslf := F.sub_list_frozenset
      have hne : (Value.type "list" == Value.type "dict") = false := by decide
      have hl1 : (s.heap.push (newSetO w)).IsList l items := ⟨_, hol', rfl, nl, rfl⟩
      have hlS : l < s.heap.objs.size := Heap.lt_size hol
      have hh3 : A.in1.in1.in1.handled = none := by simp [hh]
      have hsz : (s.heap.push (newSetO w)).objs.size = s.heap.objs.size + 1 := Heap.size_push ..
      unfold Builtin.«set.__init__» noKeywords Builtin.Frozenset.updateFrom
      generalize hPI : pyIter = PI
      wp_walk
      subst hPI
      refine wpAny_pyIter_list hl1 (wpAny_bind (wpAny_runValue ?_))
      refine set_update_ints ((Walks.list hh3 _ l (by rw [hsz]; exact Nat.ne_of_lt (Nat.lt_succ_of_lt hlS)) items).toS) s.heap.objs.size
        (by rw [hsz]; simp only [List.mem_cons, List.not_mem_nil, or_false, not_or]; exact ⟨Nat.ne_of_lt (Nat.lt_succ_self _), Nat.ne_of_gt hlS⟩) ns hisz hb hval (items.size - 0) 0 _ (by omega) (Nat.zero_le _)
        ⟨⟨_, Heap.get?_push_size _ rfl, rfl, rfl⟩, (hl1.push _)⟩ ⟨0, Nat.le_refl 0, setR_new_at (Heap.get?_push_of_some _ hS)⟩ fun s' c' hm hc' hS' => ?_
      obtain ⟨h', g2, d', tk', os'⟩ := s'
      have eg : g2 = s.gens := hm.gens
      have ed : d' = s.drawn := hm.drawn
      have eo : os' = s.os := hm.os
      subst eg; subst ed; subst eo
      show wpAny _ _ _ _ _ _
      refine wpAny_pure ?_
      show wpAny _ _ (ret Value.none) _ _ _
      rw [hisz] at hc'
      refine wpAny_pure ⟨rfl, h', tk', c', rfl, hS', hc', fun b o e => hm.heap b o ?_ (Heap.get?_push_of_some _ (Heap.get?_push_of_some _ e))⟩
      have hb0 : b < s.heap.objs.size := Heap.lt_size e
      rw [hsz]
      simp only [List.mem_cons, List.not_mem_nil, or_false, not_or]
      exact ⟨Nat.ne_of_lt hb0, Nat.ne_of_lt (Nat.lt_succ_of_lt hb0)⟩
    · match r₂, hr₂ with
      | .error e, hr₂ => exact hr₂
      | .ok (.ret r), hr₂ =>
        obtain ⟨rfl, h', tk, c', rfl, hS', hc', hk'⟩ := hr₂
        repeat (any_goals (first | assumption | wp_step))
        exact h _ _ _ hS' hc' hk'
end
/-! ### sorted(set(xs)) -/
section
variable {X : Cx} {W : WX} {a e : Expr} {f : En → R PD} {p p2 q pos : Pos}
def tSortSet (K : PySem.W.Frag) (ta : TE) : TE := fun σ H Q => ta σ H fun x H1 => ∃ (l : Addr) (ns : List Int), x = .ref l ∧ (Rd H1 l (.lst (ns.map V.int)) ∨ SqT K H1 l (ns.map V.int)) ∧ ns.length < 64 ∧ ∀ r, H1 r = none → Q (.ref r) (upd H1 r (.lst ((sortSet ns).map V.int)))
theorem pe_sortSet {ta : TE} (hc : X.calm = true) (hg : Gl X "sorted") (hm : X.mg "sorted" = none) (hg2 : Gl X "set") (hm2 : X.mg "set" = none) (ha : PE X a ta)
    (na : starEach [a] X.env = (false, eval a X.env) :: starEach [] X.env := by rfl) : PE X (.Call (.Name "sorted" p) [.Call (.Name "set" p2) [a] [] q] [] pos) (tSortSet X.K ta) := by
  refine ⟨fun pins s σ H Q I h => ?_⟩
  refine Call_ (ld_blt I hg hm boot_sorted ?_)
  refine callWith_builtin1 (args_cons ?_ rfl) rfl rfl
  refine Call_ (ld_blt I hg2 hm2 boot_set ?_)
  refine callWith_type1 (args_cons (thn (ha.run pins s σ H _ I h) fun v s1 ⟨x, H1, I1, r1, q1⟩ => args_nil ?_) na) na rfl
  obtain ⟨l, ns, rfl, hq, h64, q1⟩ := q1
  cases r1
  have fin : ∀ (h' : Heap) (tk c : Nat), SetR X.w h' s1.heap.objs.size (fun j => decide (j ∈ ns)) c → c ≤ ns.length → (∀ b o, s1.heap.get? b = some o → h'.get? b = some o) →
      wpAny (model X.prog X.w) X.A (call (.builtin "sorted") [.ref s1.heap.objs.size]) (EP X pins σ Q) X.xe { s1 with heap := h', toks := tk } := fun h' tk c R hcn k => by
    have I2 : Inv X pins σ H1 { s1 with heap := h', toks := tk } := I1.kept k
    refine sorted_set R (I2.ok.hd hc) (by omega) fun s' r out c2 ms k2 g o hp hgt hi hs hm hl => ?_
    have em : sortSet ns = ms := sortSet_is hs fun z => by rw [hm z, decide_eq_true_eq]
    have hn : H1 r = none := I2.hok.fresh hp
    have hlen : (ms.map V.int).length ≤ sizeLine := by rw [List.length_map, hl, sizeLine_eq]; omega
    have J : Inv X pins σ (upd H1 r (.lst (ms.map V.int))) { ({ s1 with heap := h', toks := tk } : Shared) with heap := s'.heap, gens := s'.gens, drawn := s'.drawn, toks := s'.toks } :=
      I2.call (ch := []) (Un.laid k2 hp hn) (I2.hok.laid k2 hp ⟨hlen, out.toList, c2, vals_of_ints hi, hgt⟩) (by rw [g]; exact I2.bare) (fun _ z => nomatch z)
    have e : s' = { s1 with heap := s'.heap, gens := s'.gens, drawn := s'.drawn, toks := s'.toks } := by
      cases s'
      cases s1
      cases o
      rfl
    rw [e]
    refine ⟨.ref r, _, J, rfl, ?_⟩
    rw [← em]
    exact q1 r hn
  rcases hq with hq | hq
  · obtain ⟨its, r, pl, hz⟩ := I1.list (.inl hq)
    exact set_of_ints ns (I1.ok.hd hc) (show s1.heap.IsList l its.toArray from pl.isList) (by simpa using ints_of_vals r) (by unfold scanBound; omega) fun h' tk c R hcn k => args_nil (fin h' tk c R hcn k)
  · obtain ⟨its, r, pl, hz⟩ := I1.tuple hq
    exact call_set_tupI ns (I1.ok.hd hc) (show s1.heap.IsTuple l its.toArray from pl) (by simpa using ints_of_vals r) (by unfold scanBound; omega) fun h' tk c R hcn k => args_nil (fin h' tk c R hcn k)
def sortSetD (d : PD) : R (List PD) := (items1 [d]).bind fun ds => match intsOf ds with
  | some ns => chk (decide (ns.length < 64)) (.ok ((sortSet ns).map PyData.int))
  | none => .bad
def cSortSet (f : En → R PD) : En → R (List PD) := fun ρ => (f ρ).bind sortSetD
theorem df_sortSet (hc : X.calm = true) (hg : Gl X "sorted") (hm : X.mg "sorted" = none) (hg2 : Gl X "set") (hm2 : X.mg "set" = none) (ha : DV X W a f)
    (na : starEach [a] X.env = (false, eval a X.env) :: starEach [] X.env := by rfl) : DF X W (.Call (.Name "sorted" p) [.Call (.Name "set" p2) [a] [] q] [] pos) (cSortSet f) := by
  obtain ⟨ta, pa, qa⟩ := ha.ex
  refine ⟨_, pe_sortSet hc hg hm hg2 hm2 pa na, fun H0 O0 O ρ σ H Q rl o => ?_⟩
  refine qa H0 O0 O ρ σ H _ rl (o.bind.imp fun d H1 e1 o1 x hx => ?_)
  unfold sortSetD at o1
  cases e : items1 [d] with
  | ok ds =>
    rw [e] at o1
    simp only [R.ok_bind] at o1
    cases e2 : intsOf ds with
    | none => simp only [e2] at o1; exact o1.elim
    | some ns =>
      simp only [e2] at o1
      obtain ⟨c, o2⟩ := OutP.chk o1
      obtain ⟨v, ev, _, hd⟩ := items1_of (.cons hx .nil) e
      cases ev
      have fin : ∀ r, H1 r = none → Q (.ref r) (upd H1 r (.lst ((sortSet ns).map V.int))) := fun r hr => o2 H1 (Same.refl H1) r _ _ hr (ints_all _) rfl
      rcases hd with hd | hd
      · obtain ⟨l, ws, rfl, k1, k2⟩ := hd.list
        have := intsOf_vals e2 k2
        subst this
        exact ⟨l, ns, rfl, .inl k1, of_decide_eq_true c, fin⟩
      · obtain ⟨l, ws, rfl, k1, k2⟩ := hd.tuple
        have := intsOf_vals e2 k2
        subst this
        exact ⟨l, ns, rfl, .inr (Same.seqT wo_self k1), of_decide_eq_true c, fin⟩
  | ex c pl => unfold items1 at e; split at e <;> cases e
  | bad => rw [e] at o1; exact o1.elim
end
/-! ### x op= e -/
section
variable {X : Cx} {W : WX} {e : Expr} {f : En → R PD} {i : Nat} {x : Str} {pos pos' : Pos}
/-- xs += e, xs a list of the frame's own -/
def rIadd : R2 := fun x y H Q => ∃ l b xs zs, x = .ref l ∧ y = .ref b ∧ H l = some (.lst xs) ∧ Rd H b (.lst zs) ∧ xs.length + zs.length ≤ sizeLine ∧ Q (.ref l) (upd H l (.lst (xs ++ zs)))
theorem iop_own : PIp X .Add rIadd := by
  intro pins s σ H x y v u Q I rx ry h
  obtain ⟨l, b, ys, zs, rfl, rfl, hH, hB, hz, q⟩ := h
  cases rx
  cases ry
  obtain ⟨_, its, n, r, e⟩ := I.hok l _ hH
  obtain ⟨_, its2, n2, r2, e2⟩ := hB.ok I.hok
  have z1 : its.toArray.size = ys.length := by rw [List.size_toArray, r.length]
  have z2 : its2.toArray.size = zs.length := by rw [List.size_toArray, r2.length]
  refine iadd_road ⟨_, e, rfl⟩ ⟨_, e2, rfl⟩ (call_meets PySem.F.slot_list_iadd ⟨_, e, rfl⟩ PySem.F.entry_list_iadd (PySem.F.args_list_iadd_2 _ _)
    (AutoSeq1.list___iadd___list_list_0 l its.toArray n b its2.toArray n2 (by rw [notLongL (by omega), Bool.and_false]; decide) (by omega) (by omega)) ⟨e, e2, ?_⟩)
  exact ⟨.ref l, _, I.lset (its' := its ++ its2) (t' := s.toks) hH e (by simp) (r.append r2) (by rw [List.length_append]; omega), rfl, q⟩
theorem ds_iadd (hN : X.N.Nodup) (hi : X.N[i]? = some x) (hx : Loc X.env.scope x) (he : DE X W e f) (hf : X.fn x = true ∨ X.env.scope.names.lookup x = some .local := by first | exact .inl rfl | exact .inr rfl | assumption) :
    DS X W (.AugAssign (.Name x pos') .Add e pos) (sExt i f) := by
  obtain ⟨t, pt, qt⟩ := he.ex
  refine ⟨_, ps_aug hN hi hx pt iop_own hf, fun H0 O0 O ρ σ H D rl o => ?_⟩
  unfold sExt at o
  cases q : ρ[i]? with
  | none => rw [q] at o; exact o.elim
  | some s =>
    rw [q] at o
    cases s with
    | ol ds =>
      obtain ⟨p, vs, e1, m1, m2, m3, m4⟩ := rl.sl i _ q
      refine ⟨_, e1, ?_⟩
      refine qt H0 O0 O ρ σ H _ rl ((OutS.ofR rl o).imp fun d H1 ex o1 v hv => ?_)
      cases hv with
      | lst k1 k2 =>
        rename_i b ws es
        simp only at o1
        by_cases hz : ds.length + es.length ≤ big
        · rw [if_pos hz] at o1
          have m5 := m4.mono (same_wo (O := O) ex)
          refine ⟨p, b, vs, ws, rfl, rfl, ex _ _ m3, rd_mono wo_self k1, by rw [m4.length, k2.length]; exact big_line hz, ?_⟩
          have hs : σ.set i (some (.ref p)) = σ := List.ext_getElem? fun j => by
            by_cases hj : i = j
            · subst hj
              rw [List.getElem?_set_self (List.getElem?_eq_some_iff.mp e1).1, e1]
            · rw [List.getElem?_set_ne hj]
          show D.nx (σ.set i (some (.ref p))) _
          rw [hs]
          refine o1 O _ σ ((rl.grow ex).updO q rfl rfl e1 ⟨p, vs ++ ws, rfl, m1, m2, upd_same, ?_⟩)
          rw [wo_upd m1]
          exact m5.append k2
        · rw [if_neg hz] at o1; exact o1.elim
      | _ => exact o1.elim
    | _ => exact o.elim
end
end DL
namespace DL
open PySem PySem.Spec L2
/-! ### sorted of ints -/
theorem sort_ints (ns : List Int) (hl : ns.length ≤ 10000000) : sortD [.list (ns.map PyData.int)] = .ok ((ns.mergeSort fun a b => decide (a ≤ b)).map PyData.int) := by
  have ok : sortOk (ns.map PyData.int) = true := by
    unfold sortOk
    rw [Bool.and_eq_true, Bool.and_eq_true]
    refine ⟨⟨?_, ?_⟩, ?_⟩
    · rw [List.all_eq_true]; intro x hx
      rw [List.all_eq_true]; intro y hy
      obtain ⟨p, _, rfl⟩ := List.mem_map.mp hx
      obtain ⟨q, _, rfl⟩ := List.mem_map.mp hy
      simp [PySem.W.alike]
    · rw [Bool.or_eq_true]
      refine .inr ?_
      rw [List.all_eq_true]; intro x hx
      obtain ⟨p, _, rfl⟩ := List.mem_map.mp hx
      rfl
    · rw [decide_eq_true_eq, List.length_map]
      refine ⟨by rw [big_eq]; exact hl, depthAll_le _ _ fun d hd => ?_⟩
      obtain ⟨p, _, rfl⟩ := List.mem_map.mp hd
      simp [PyData.depth]
  have so : sortL (ns.map PyData.int) = (ns.mergeSort fun a b => decide (a ≤ b)).map PyData.int := by
    unfold sortL
    refine (List.map_mergeSort (r := fun a b => decide (a ≤ b)) (f := PyData.int) fun a _ b _ => ?_).symm
    have := congrFun (congrFun (PySem.W.dataLe_int (fun p : Int => p)) a) b
    exact this.symm
  show chk (sortOk _) (.ok (sortL _)) = _
  rw [chk_of ok, so]
theorem sort_is {ns U : List Int} (hl : ns.length ≤ 10000000) (hn : ns.Nodup) (hU : U.Pairwise (· < ·)) (hm : ∀ k, k ∈ U ↔ k ∈ ns) : sortD [.list (ns.map PyData.int)] = .ok (U.map PyData.int) := by
  rw [sort_ints ns hl]
  congr 2
  have p := List.mergeSort_perm ns fun a b => decide (a ≤ b)
  have s := List.pairwise_mergeSort (le := fun a b : Int => decide (a ≤ b)) (fun a b c h1 h2 => by simp at *; omega) (fun a b => by simp; omega) ns
  have nd : (ns.mergeSort fun a b => decide (a ≤ b)).Nodup := p.nodup_iff.mpr hn
  have up : (ns.mergeSort fun a b => decide (a ≤ b)).Pairwise (· < ·) := by
    refine (s.and nd).imp fun {a b} h => ?_
    have h1 := of_decide_eq_true h.1
    have h2 := h.2
    omega
  exact up_same up hU fun k => p.mem_iff.trans (hm k).symm
/-! ### a def that calls itself: nothing is asked of it at the end of its fuel -/
theorem fnDG_bad {P : Program} {w : World} {K : PySem.W.Frag} {mg : Str → Option Value} {base : Heap} {k : Nat} {f : Addr} {fd : FuncData} {ps : List Str} : FnDG P w K mg base k f fd ps fun _ => .bad where
  many := fun vs H Q E h => by
    obtain ⟨_, _, _, _, _, h⟩ := h
    exact h.elim
  does := fun A r fs s H e as us b vs hv Q E h => by
    obtain ⟨_, _, _, _, _, h⟩ := h
    exact h.elim
end DL
namespace DL
open PySem PySem.Spec L2
/-! ### tuples of ints: ==, in -/
theorem eqvAll_ints : ∀ p q : List Int, PyData.eqvAll (p.map PyData.int) (q.map PyData.int) = decide (p = q)
  | [], [] => by simp [PyData.eqvAll]
  | [], q :: qs => by simp [PyData.eqvAll]
  | p :: ps, [] => by simp [PyData.eqvAll]
  | p :: ps, q :: qs => by
    rw [List.map_cons, List.map_cons, PyData.eqvAll, eqvAll_ints ps qs]
    by_cases h : p = q
    · simp [h, PyData.eqv]
    · simp [h, PyData.eqv]
def tupI (p : List Int) : PD := .tuple (p.map PyData.int)
theorem eqv_tupI (p q : List Int) : PyData.eqv (tupI p) (tupI q) = decide (p = q) := by
  unfold tupI
  rw [PyData.eqv, eqvAll_ints]
theorem depth_tupI (p : List Int) : (tupI p).depth ≤ 1 := by
  unfold tupI
  have : PyData.depthAll (p.map PyData.int) ≤ 0 := depthAll_le _ 0 fun d hd => by
    obtain ⟨_, _, rfl⟩ := List.mem_map.mp hd
    exact Nat.le_refl _
  simp only [PyData.depth]; omega
theorem eq_tupI (p q : List Int) : eqD (tupI p) (tupI q) = .ok (.bool (decide (p = q))) := by
  have h1 := depth_tupI p
  have h2 := depth_tupI q
  unfold eqD dOk
  rw [eqv_tupI, chk_of (decide_eq_true (by omega))]
theorem any_tupI (p : List Int) : ∀ ps : List (List Int), ((ps.map tupI).any fun y => PyData.eqv y (tupI p)) = decide (p ∈ ps)
  | [] => rfl
  | q :: qs => by
    rw [List.map_cons, List.any_cons, any_tupI p qs, eqv_tupI]
    by_cases h : q = p
    · simp [h]
    · simp [h, Ne.symm h]
theorem in_tupI (p : List Int) (ps : List (List Int)) : inS (tupI p) (.list (ps.map tupI)) = .ok (.bool (decide (p ∈ ps))) ∧ notinS (tupI p) (.list (ps.map tupI)) = .ok (.bool (!decide (p ∈ ps))) := by
  have ok : inOk (tupI p) (ps.map tupI) = true := by
    have := depth_tupI p
    unfold inOk
    rw [decide_eq_true_eq]; omega
  constructor
  · show inD (tupI p) (.list (ps.map tupI)) = _
    show chk (inOk _ _) _ = _
    rw [chk_of ok, any_tupI]
  · show notinD (tupI p) (.list (ps.map tupI)) = _
    show chk (inOk _ _) _ = _
    rw [chk_of ok, any_tupI]
end DL
namespace DL
open PySem PySem.Spec L2
/-! ### the laws' draws -/
def gDraws_l1 : En → Fl := (sIf (bC gtD (cV 5) (cK (.int 0)))
  (sSeq (sApp 2 (c2 modD (cCl intD (cCons (cV 5) cNil)) (cK (.int 1009))))
  (sSet 5 (c2 fdivD (cV 5) (cK (.int 1009)))))
  sNx)
def gDraws_l2 : En → Fl := (sSeq (sSet 5 (cCl absD (cCons (cV 4) cNil)))
  (sSeq (sSet 3 (c2 modD (cCl intD (cCons (c2 addD (c2 addD (c2 mulD (cV 3) (cK (.int 48271))) (cV 5)) (cK (.int 11))) cNil)) (cK (.int 2147483647))))
  (sIf (bC geD (cV 5) (c2 powD (cK (.int 10)) (cK (.int 18))))
  (sFor (iR1 (cK (.int 60))) (gN 6) gDraws_l1)
  (sApp 2 (c2 modD (c2 fdivD (cCl intD (cCons (c2 addD (c2 mulD (cV 3) (cK (.int 16807))) (cK (.int 5))) cNil)) (cK (.int 3))) (cK (.int 65521)))))))
def gDraws_l3 : En → Fl := (sIf (bC ltD (cCl lenD (cCons (cW 2) cNil)) (cV 1))
  (sSeq (sSet 3 (c2 modD (cCl intD (cCons (c2 addD (c2 addD (c2 mulD (cV 3) (cK (.int 69621))) (cV 6)) (cK (.int 1))) cNil)) (cK (.int 2147483647))))
  (sApp 2 (c2 modD (c2 fdivD (cCl intD (cCons (cV 3) cNil)) (cK (.int 7))) (cK (.int 65521)))))
  sNx)
def gDraws : En → Fl := (sSeq (sSetL 2 (cLst cNil))
  (sSeq (sSet 3 (cK (.int 7)))
  (sSeq (sFor (iSeq (cL (cScr 0 63))) (gN 4) gDraws_l2)
  (sSeq (sFor (iR1 (cV 1)) (gN 6) gDraws_l3)
  (sRet (cSl (cW 2) oN (oS (cV 1))))))))

def DrawOk (ds : List Int) : Prop := ∀ d ∈ ds, 0 ≤ d ∧ d < 65521
theorem DrawOk.app {ds : List Int} {d : Int} (h : DrawOk ds) (h2 : 0 ≤ d ∧ d < 65521) : DrawOk (ds ++ [d]) := fun x hx => by
  rcases List.mem_append.mp hx with hx | hx
  · exact h x hx
  · rw [List.mem_singleton.mp hx]; exact h2
def ab (y : Int) : Int := if y < 0 then -y else y
def sd (seed y : Int) : Int := (seed * 48271 + ab y + 11) % 2147483647
abbrev dr (ns : List Int) (m : Nat) (ds : List Int) (seed : Int) (a b c : Sl) : En := [.sc ns, .va (.int m), .ol (ds.map PyData.int), .va (.int seed), a, b, c]
section
variable {ns : List Int} {m : Nat}
theorem draws1 {ds : List Int} {seed n : Int} {a c : Sl} (hl : ds.length < big) (hd : DrawOk ds) :
    ∃ ds' n', gDraws_l1 (dr ns m ds seed a (.va (.int n)) c) = .nx (dr ns m ds' seed a (.va (.int n')) c) ∧ ds'.length ≤ ds.length + 1 ∧ DrawOk ds' := by
  by_cases h : 0 < n
  · exact ⟨ds ++ [n % 1009], n / 1009, by simp [gDraws_l1, h, hl], by simp, hd.app (by omega)⟩
  · exact ⟨ds, n, by simp [gDraws_l1, h], by omega, hd⟩
theorem draws2 {ds : List Int} {seed y : Int} {b c : Sl} (hl : ds.length + 60 < big) (hd : DrawOk ds) :
    ∃ ds' b' c', gDraws_l2 (dr ns m ds seed (.va (.int y)) b c) = .nx (dr ns m ds' (sd seed y) (.va (.int y)) b' c') ∧ ds'.length ≤ ds.length + 60 ∧ DrawOk ds' := by
  by_cases hn : (1000000000000000000 : Int) ≤ ab y
  · obtain ⟨ρ', e, ds', n', c', rfl, hl', hd'⟩ := forL_inv (tgt := gN 6) (body := gDraws_l1) (fun i ρ => ∃ ds' n c, ρ = dr ns m ds' (sd seed y) (.va (.int y)) (.va (.int n)) c ∧ ds'.length ≤ ds.length + i ∧ DrawOk ds') PyData.int (rng 0 60)
      (ρ := dr ns m ds (sd seed y) (.va (.int y)) (.va (.int (ab y))) c) ⟨ds, _, _, rfl, Nat.le_refl _, hd⟩ (by
        rintro j y2 ρ hj ⟨ds', n, c, rfl, hl', hd'⟩
        have hj2 := (List.getElem?_eq_some_iff.mp hj).1
        rw [rng_len] at hj2
        obtain ⟨ds2, n2, e2, l2, d2⟩ := draws1 (ns := ns) (m := m) (seed := sd seed y) (n := n) (a := .va (.int y)) (c := .va (.int y2)) (show ds'.length < big by omega) hd'
        exact ⟨_, _, rfl, .inl e2, ds2, n2, _, rfl, by omega, d2⟩)
    rw [rng_len] at hl'
    refine ⟨ds', .va (.int n'), c', ?_, hl', hd'⟩
    have hs : sd seed y = (seed * 48271 + (if y < 0 then -y else y) + 11) % 2147483647 := rfl
    have hn' : (1000000000000000000 : Int) ≤ (if y < 0 then -y else y) := hn
    simp only [ab, hs] at e
    simp [gDraws_l2, rangeL_rng, hn']
    exact e
  · have hn' : ¬ (1000000000000000000 : Int) ≤ (if y < 0 then -y else y) := hn
    refine ⟨ds ++ [(sd seed y * 16807 + 5) / 3 % 65521], .va (.int (ab y)), c, ?_, by simp, hd.app (by omega)⟩
    simp [gDraws_l2, hn', show ds.length < big by omega, sd, ab]
theorem draws3 {ds : List Int} {seed y : Int} {a b : Sl} (hl : ds.length < big) (hd : DrawOk ds) :
    ∃ ds' seed', gDraws_l3 (dr ns m ds seed a b (.va (.int y))) = .nx (dr ns m ds' seed' a b (.va (.int y))) ∧ ds'.length ≤ ds.length + 1 ∧ DrawOk ds' ∧ ds.length ≤ ds'.length ∧ (ds.length < m → ds'.length = ds.length + 1) := by
  by_cases h : ds.length < m
  · have h' : (ds.length : Int) < (m : Int) := by omega
    exact ⟨ds ++ [(seed * 69621 + y + 1) % 2147483647 / 7 % 65521], (seed * 69621 + y + 1) % 2147483647, by simp [gDraws_l3, h', hl], by simp, hd.app (by omega), by simp, fun _ => by simp⟩
  · have h' : ¬ (ds.length : Int) < (m : Int) := by omega
    exact ⟨ds, seed, by simp [gDraws_l3, h'], by omega, hd, Nat.le_refl _, fun z => absurd z h⟩
theorem draws_ok (ns : List Int) (m : Nat) (hm : m ≤ 100000) :
    ∃ ds : List Int, fin (gDraws (.sc ns :: .va (.int m) :: List.replicate 5 .un)) = .ok (.list (ds.map PyData.int)) ∧ ds.length = m ∧ DrawOk ds := by
  have hcut : (cutL ns none (some 63)).length ≤ 63 := by
    unfold cutL
    rw [List.length_take]
    refine Nat.le_trans (Nat.min_le_left _ _) ?_
    rw [HT.sIx_none, Nat.sub_zero]
    have h3 : HT.sIx ns.length ns.length (some 63) = min 63 ns.length := HT.sIx_nat _ _ 63
    omega
  obtain ⟨ρ1, e1, ds1, s1, a1, b1, c1, rfl, hl1, hd1⟩ := forL_inv (tgt := gN 4) (body := gDraws_l2) (fun i ρ => ∃ ds s a b c, ρ = dr ns m ds s a b c ∧ ds.length ≤ 60 * i ∧ DrawOk ds) PyData.int (cutL ns none (some 63))
    (ρ := dr ns m [] 7 .un .un .un) ⟨[], 7, .un, .un, .un, rfl, by simp, fun d hd => by cases hd⟩ (by
      rintro j y ρ hj ⟨ds, s, a, b, c, rfl, hl, hd⟩
      have hj2 := (List.getElem?_eq_some_iff.mp hj).1
      obtain ⟨ds2, b2, c2, e2, l2, d2⟩ := draws2 (ns := ns) (m := m) (seed := s) (y := y) (b := b) (c := c) (show ds.length + 60 < big by unfold big; omega) hd
      exact ⟨_, _, rfl, .inl e2, ds2, _, _, b2, c2, rfl, by omega, d2⟩)
  obtain ⟨ρ2, e2, ds2, s2, c2, rfl, hl2, hd2, hg2⟩ := forL_inv (tgt := gN 6) (body := gDraws_l3) (fun i ρ => ∃ ds s c, ρ = dr ns m ds s a1 b1 c ∧ ds.length ≤ 3780 + i ∧ DrawOk ds ∧ (i ≤ ds.length ∨ m ≤ ds.length)) PyData.int (rng 0 m)
    (ρ := dr ns m ds1 s1 a1 b1 c1) ⟨ds1, s1, c1, rfl, by omega, hd1, .inl (Nat.zero_le _)⟩ (by
      rintro j y ρ hj ⟨ds, s, c, rfl, hl, hd, hg⟩
      have hj2 := (List.getElem?_eq_some_iff.mp hj).1
      rw [rng_len] at hj2
      obtain ⟨ds', s', e', l', d', g1, g2⟩ := draws3 (ns := ns) (m := m) (seed := s) (y := y) (a := a1) (b := b1) (show ds.length < big by unfold big; omega) hd
      exact ⟨_, _, rfl, .inl e', ds', s', _, rfl, by omega, d', by omega⟩)
  rw [rng_len] at hl2 hg2
  refine ⟨ds2.take m, ?_, by rw [List.length_take]; omega, fun d hd => hd2 d (List.mem_of_mem_take hd)⟩
  have h60 : cutL (ns.map PyData.int) none (some 63) = (cutL ns none (some 63)).map PyData.int := cut_map _ _ _ _
  have hc2 : cutL (ds2.map PyData.int) none (some (m : Int)) = (ds2.take m).map PyData.int := by
    rw [cut_map]
    unfold cutL
    rw [HT.sIx_none, HT.sIx_nat, List.drop_zero, Nat.sub_zero, Nat.min_eq_left (by omega)]
  simp only [dr, List.map_nil] at e1 e2
  simp only [gDraws, a_sSeq, a_sSetL, a_sSet, a_sFor, a_sRet, a_cLst, a_cNil, R.ok_bind, a_mkL, a_toS_ok, a_cK, a_iSeq, a_cL, a_iR1, cScr, cSl, oN, oS]
  simp [h60, e1, rangeL_rng, e2, slD, hc2, show (m : Int) ≤ 1000000000000000 by omega, show (-1000000000000000 : Int) ≤ m by omega]
end
end DL
namespace K52
open PySem PySem.Spec L2 DL
noncomputable section
def excs : List Str := ["BadGroup", "BadPath", "TooMany", "Within"]
def g_is_whole : En → Fl := (sRet (cAnd (isaD PyData.isInt (cV 0)) (cAnd (cNot (isaD PyData.isBool (cV 0))) (cChain leD leD (cV 1) (cV 0) (cV 2)))))
def F_is_whole (ds : List PD) : R PD := fin (g_is_whole (startE 3 ds))
def g__is_high : En → Fl := (sRet (cOr (c2 eqD (cV 0) (cK (.str "-"))) (cAnd (cChain leD leD (cK (.int 1)) (cCl lenD (cCons (cV 0) cNil)) (cK (.int 9))) (c2 eqD (cV 0) (c2 mulS (cK (.str "s")) (cCl lenD (cCons (cV 0) cNil)))))))
def F__is_high (ds : List PD) : R PD := fin (g__is_high (startE 1 ds))
def g__are_units : En → Fl := (sRet (cOr (c2 eqD (cV 0) (cK (.str "-"))) (cOr (c2 eqD (cV 0) (cK (.str "e"))) (cAnd (cChain leD leD (cK (.int 2)) (cCl lenD (cCons (cV 0) cNil)) (cK (.int 9))) (c2 eqD (cV 0) (c2 mulS (cK (.str "l")) (cCl lenD (cCons (cV 0) cNil))))))))
def F__are_units (ds : List PD) : R PD := fin (g__are_units (startE 1 ds))
def g_figures_on : En → Fl := (sRet (cL (cLcK [1] (iSeq (cL (cSplit (cV 0) (cK (.str "/"))))) (kN 1) bYes (cIf (bC eqD (cV 1) (cK (.str "-"))) (cK (.int 0)) (cCl lenD (cCons (cV 1) cNil))))))
def F_figures_on (ds : List PD) : R PD := fin (g_figures_on (startE 2 ds))
def g_cord_with : En → Fl := (sSeq (sSetL 1 (cLcK [3] (iSeq (cSl (cV 0) oN (oS (c1 negD (cK (.int 1)))))) (kN 3) bYes (cIf (bC eqD (cV 3) (cK (.int 0))) (cK (.str "-")) (c2 mulS (cK (.str "s")) (cV 3)))))
  (sSeq (sSet 2 (c2 ixD (cV 0) (c1 negD (cK (.int 1)))))
  (sSeq (sApp 1 (cIf (bC eqD (cV 2) (cK (.int 0))) (cK (.str "-")) (cIf (bC eqD (cV 2) (cK (.int 1))) (cK (.str "e")) (c2 mulS (cK (.str "l")) (cV 2)))))
  (sRet (cMs joinD (cK (.str "/")) (cW 1))))))
def F_cord_with (ds : List PD) : R PD := fin (g_cord_with (startE 4 ds))
def g_number_by_l1 : En → Fl := (sSet 1 (c2 addD (c2 mulS (cK (.int 10)) (cV 1)) (cV 2)))
def g_number_by : En → Fl := (sSeq (sSet 1 (cK (.int 0)))
  (sSeq (sFor (iSeq (cV 0)) (gN 2) g_number_by_l1)
  (sRet (cV 1))))
def F_number_by (ds : List PD) : R PD := fin (g_number_by (startE 3 ds))
def g_figures_for_l1 : En → Fl := (sSeq (sApp 2 (c2 modD (cV 0) (cK (.int 10))))
  (sSet 0 (c2 fdivD (cV 0) (cK (.int 10)))))
def g_figures_for : En → Fl := (sSeq (sSetL 2 (cLst cNil))
  (sSeq (sFor (iR1 (cV 1)) (gN 3) g_figures_for_l1)
  (sRet (c1 revD (cW 2)))))
def F_figures_for (ds : List PD) : R PD := fin (g_figures_for (startE 4 ds))
def g_part_at_l1 : En → Fl := (sSet 0 (c2 ixD (c2 ixD (cV 0) (cK (.int 1))) (cV 2)))
def g_part_at : En → Fl := (sSeq (sFor (iSeq (cV 1)) (gN 2) g_part_at_l1)
  (sRet (cV 0)))
def F_part_at (ds : List PD) : R PD := fin (g_part_at (startE 3 ds))
def g__law_draws_l1 : En → Fl := (sIf (bC gtD (cV 5) (cK (.int 0)))
  (sSeq (sApp 2 (c2 modD (cCl intD (cCons (cV 5) cNil)) (cK (.int 1009))))
  (sSet 5 (c2 fdivD (cV 5) (cK (.int 1009)))))
  sNx)
def g__law_draws_l2 : En → Fl := (sSeq (sSet 5 (cCl absD (cCons (cV 4) cNil)))
  (sSeq (sSet 3 (c2 modD (cCl intD (cCons (c2 addD (c2 addD (c2 mulD (cV 3) (cK (.int 48271))) (cV 5)) (cK (.int 11))) cNil)) (cK (.int 2147483647))))
  (sIf (bC geD (cV 5) (c2 powD (cK (.int 10)) (cK (.int 18))))
  (sFor (iR1 (cK (.int 60))) (gN 6) g__law_draws_l1)
  (sApp 2 (c2 modD (c2 fdivD (cCl intD (cCons (c2 addD (c2 mulD (cV 3) (cK (.int 16807))) (cK (.int 5))) cNil)) (cK (.int 3))) (cK (.int 65521)))))))
def g__law_draws_l3 : En → Fl := (sIf (bC ltD (cCl lenD (cCons (cW 2) cNil)) (cV 1))
  (sSeq (sSet 3 (c2 modD (cCl intD (cCons (c2 addD (c2 addD (c2 mulD (cV 3) (cK (.int 69621))) (cV 6)) (cK (.int 1))) cNil)) (cK (.int 2147483647))))
  (sApp 2 (c2 modD (c2 fdivD (cCl intD (cCons (cV 3) cNil)) (cK (.int 7))) (cK (.int 65521)))))
  sNx)
def g__law_draws : En → Fl := (sSeq (sSetL 2 (cLst cNil))
  (sSeq (sSet 3 (cK (.int 7)))
  (sSeq (sFor (iSeq (cL (cScr 0 63))) (gN 4) g__law_draws_l2)
  (sSeq (sFor (iR1 (cV 1)) (gN 6) g__law_draws_l3)
  (sRet (cSl (cW 2) oN (oS (cV 1))))))))
def F__law_draws (ns : List Int) (m : Int) : R PD := fin (g__law_draws (.sc ns :: .va (.int m) :: List.replicate 5 .un))
def g__law_cord : En → Fl := (sSeq (sSet 1 (cL (cLcK [3] (iSeq (cSl (cV 0) oN (oS (c1 negD (cK (.int 1)))))) (kN 3) bYes (cIf (bC gtD (cV 3) (cK (.int 0))) (c2 mulS (cK (.str "s")) (cV 3)) (cK (.str "-"))))))
  (sSeq (sSet 2 (c2 ixD (cV 0) (c1 negD (cK (.int 1)))))
  (sRet (cMs joinD (cK (.str "/")) (c2 addD (cV 1) (cL (cLst (cCons (cIf (bC eqD (cV 2) (cK (.int 0))) (cK (.str "-")) (cIf (bC eqD (cV 2) (cK (.int 1))) (cK (.str "e")) (c2 mulS (cK (.str "l")) (cV 2)))) cNil))))))))
def F__law_cord (ds : List PD) : R PD := fin (g__law_cord (startE 4 ds))
def g__law_number_l1 : En → Fl := (sSet 1 (c2 addD (c2 mulS (cK (.int 10)) (cV 1)) (cV 2)))
def g__law_number : En → Fl := (sSeq (sSet 1 (cK (.int 0)))
  (sSeq (sFor (iSeq (cV 0)) (gN 2) g__law_number_l1)
  (sRet (cV 1))))
def F__law_number (ds : List PD) : R PD := fin (g__law_number (startE 3 ds))
def g__law_parent : En → Fl := (sRet (cCl maxD1 (cCons (cL (cLcK [2] (iR1 (cV 1)) (kN 2) (bC ltD (c2 ixD (c2 ixD (cV 0) (cV 2)) (cK (.int 0))) (c2 ixD (c2 ixD (cV 0) (cV 1)) (cK (.int 0)))) (cV 2))) cNil)))
def F__law_parent (ds : List PD) : R PD := fin (g__law_parent (startE 3 ds))
def g__law_rows_l1 : En → Fl := (sSeq (sSet 5 (c2 addD (cK (.int 1)) (c2 modD (cCl intD (cCons (c2 ixD (cV 0) (c2 addD (cK (.int 1)) (cV 4))) cNil)) (cCl minD1 (cCons (cK (.int 4)) (cCons (c2 addD (c2 ixD (c2 ixD (cV 3) (c1 negD (cK (.int 1)))) (cK (.int 0))) (cK (.int 1))) cNil))))))
  (sSeq (sSet 6 (cL (cLcK [8] (iR2 (cK (.int 1)) (cCl lenD (cCons (cV 3) cNil))) (kN 8) (bAnd (bC eqD (c2 ixD (c2 ixD (cV 3) (cV 8)) (cK (.int 0))) (cV 5)) (bT (cCl allD (cCons (cL (cLcK [9] (iSeq (cSl (cV 3) (oS (cV 8)) oN)) (kN 9) bYes (c2 geD (c2 ixD (cV 9) (cK (.int 0))) (cV 5)))) cNil)))) (cV 8))))
  (sSeq (sSet 5 (cIf (bC ltD (cCl lenD (cCons (cV 6) cNil)) (cK (.int 5))) (cV 5) (cCl minD1 (cCons (cK (.int 4)) (cCons (c2 addD (c2 ixD (c2 ixD (cV 3) (c1 negD (cK (.int 1)))) (cK (.int 0))) (cK (.int 1))) cNil)))))
  (sSeq (sSet 6 (cL (cLcK [8] (iR2 (cK (.int 1)) (cCl lenD (cCons (cV 3) cNil))) (kN 8) (bAnd (bC eqD (c2 ixD (c2 ixD (cV 3) (cV 8)) (cK (.int 0))) (cV 5)) (bT (cCl allD (cCons (cL (cLcK [9] (iSeq (cSl (cV 3) (oS (cV 8)) oN)) (kN 9) bYes (c2 geD (c2 ixD (cV 9) (cK (.int 0))) (cV 5)))) cNil)))) (cV 8))))
  (sSeq (sSet 7 (cL (cLcK [8] (iR1 (c2 addD (cK (.int 1)) (c2 modD (cCl intD (cCons (c2 ixD (cV 0) (c2 addD (cK (.int 10)) (cV 4))) cNil)) (cV 1)))) (kN 8) bYes (cIf (bC gtD (c2 modD (cCl intD (cCons (c2 ixD (cV 0) (c2 addD (c2 addD (cK (.int 9)) (c2 mulS (cK (.int 3)) (cV 4))) (cV 8))) cNil)) (cK (.int 5))) (cK (.int 1))) (c2 modD (c2 fdivD (cCl intD (cCons (c2 ixD (cV 0) (c2 addD (c2 addD (cK (.int 9)) (c2 mulS (cK (.int 3)) (cV 4))) (cV 8))) cNil)) (cK (.int 5))) (cK (.int 10))) (cK (.int 0))))))
  (sSet 3 (c2 addD (cV 3) (cIf (bC ltD (cCl lenD (cCons (cV 6) cNil)) (cK (.int 5))) (cL (cLst (cCons (cTup (cCons (cV 5) (cCons (cV 7) cNil))) cNil))) (cL (cLst cNil))))))))))
def g__law_rows : En → Fl := (sSeq (sSet 3 (cL (cLst (cCons (cTup (cCons (cK (.int 0)) (cCons (cL (cLcK [8] (iR1 (c2 addD (cK (.int 1)) (c2 modD (cCl intD (cCons (c2 ixD (cV 0) (cK (.int 38))) cNil)) (cK (.int 4))))) (kN 8) bYes (c2 modD (cCl intD (cCons (c2 ixD (cV 0) (c2 addD (cK (.int 39)) (cV 8))) cNil)) (cK (.int 10))))) cNil))) cNil))))
  (sSeq (sFor (iR1 (c2 addD (cK (.int 1)) (c2 modD (cCl intD (cCons (c2 ixD (cV 0) (cK (.int 0))) cNil)) (cV 2)))) (gN 4) g__law_rows_l1)
  (sRet (cV 3))))
def F__law_rows (ds : List PD) : R PD := fin (g__law_rows (startE 10 ds))
def g__law_wrong_groups_l1 : En → Fl := (sSet 1 (cTup (cCons (cK (.str "e")) (cCons (cTup (cCons (cV 1) cNil)) cNil))))
def g__law_wrong_groups : En → Fl := (sSeq (sSet 0 (cTup (cCons (cK (.str "e")) (cCons (cTup cNil) cNil))))
  (sSeq (sSet 1 (cV 0))
  (sSeq (sFor (iR1 (cK (.int 4))) (gN 2) g__law_wrong_groups_l1)
  (sSeq (sSet 3 (cTup (cCons (cK (.str "e")) (cCons (c2 mulS (cTup (cCons (cV 0) cNil)) (cK (.int 5))) cNil))))
  (sSeq (sSet 4 (cL (cLst (cCons (cK .none) (cCons (cTup cNil) (cCons (cK (.str "e")) (cCons (cTup (cCons (cK (.str "e")) cNil)) (cCons (cTup (cCons (cK (.str "e")) (cCons (cTup cNil) cNil))) (cCons (cL (cLst (cCons (cK (.str "e")) (cCons (cTup (cCons (cV 0) cNil)) cNil)))) (cCons (cTup (cCons (cK (.str "e")) (cCons (cL (cLst (cCons (cV 0) cNil))) cNil))) (cCons (cTup (cCons (cK (.str "x")) (cCons (cTup (cCons (cV 0) cNil)) cNil))) (cCons (cTup (cCons (cK (.str "e")) (cCons (cTup (cCons (cTup (cCons (cK (.str "x")) (cCons (cTup cNil) cNil))) cNil)) cNil))) (cCons (cTup (cCons (cK (.str "e")) (cCons (cTup (cCons (cTup (cCons (cK (.str "e")) cNil)) cNil)) cNil))) cNil)))))))))))))
  (sRet (c2 addD (cV 4) (cL (cLst (cCons (cTup (cCons (cK (.str "e")) (cCons (c2 mulS (cTup (cCons (cV 0) cNil)) (cK (.int 6))) cNil))) (cCons (cTup (cCons (cK (.str "e")) (cCons (cTup (cCons (cV 1) cNil)) cNil))) (cCons (cTup (cCons (cK (.str "e")) (cCons (cTup (cCons (cV 3) (cCons (cV 3) (cCons (cV 0) cNil)))) cNil))) (cCons (cTup (cCons (cK (.str "e")) (cCons (cTup (cCons (cK (.str "e")) cNil)) cNil))) (cCons (cTup (cCons (cK (.str "e")) (cCons (cV 0) cNil))) cNil))))))))))))))
def F__law_wrong_groups (ds : List PD) : R PD := fin (g__law_wrong_groups (startE 5 ds))
def g__law_same : En → Fl := (sRet (cAnd (c2 eqD (cV 0) (cV 1)) (c2 eqD (cCl reprD (cCons (cV 0) cNil)) (cCl reprD (cCons (cV 1) cNil)))))
def F__law_same (ds : List PD) : R PD := fin (g__law_same (startE 2 ds))
def g_is_cord : En → Fl := (sSeq (sIf (bNot (bT (isaD PyData.isStr (cV 0))))
  (sRet (cK (.bool false)))
  sNx)
  (sSeq (sSet 1 (cL (cSplit (cV 0) (cK (.str "/")))))
  (sSeq (sIf (bC gtD (cCl lenD (cCons (cV 1) cNil)) (cK (.int 5)))
  (sRet (cK (.bool false)))
  sNx)
  (sRet (cAnd (cCl allD (cCons (cL (cLcK [2] (iSeq (cSl (cV 1) oN (oS (c1 negD (cK (.int 1)))))) (kN 2) bYes (cCall 1 F__is_high (cCons (cV 2) cNil)))) cNil)) (cCall 1 F__are_units (cCons (c2 ixD (cV 1) (c1 negD (cK (.int 1)))) cNil)))))))
def F_is_cord (ds : List PD) : R PD := fin (g_is_cord (startE 3 ds))
def g__law_path_l1 : En → Fl := (sIf (bC gtD (cV 1) (cK (.int 0)))
  (sSeq (sSet 4 (cCall 2 F__law_parent (cCons (cV 0) (cCons (cV 1) cNil))))
  (sSeq (sSet 2 (c2 addD (cL (cLst (cCons (cCl lenD (cCons (cL (cLcK [5] (iR2 (cK (.int 1)) (cV 1)) (kN 5) (bC eqD (cCall 2 F__law_parent (cCons (cV 0) (cCons (cV 5) cNil))) (cV 4)) (cV 5))) cNil)) cNil))) (cV 2)))
  (sSet 1 (cV 4))))
  sNx)
def g__law_path : En → Fl := (sSeq (sSet 2 (cL (cLst cNil)))
  (sSeq (sFor (iR1 (cK (.int 5))) (gN 3) g__law_path_l1)
  (sRet (cCl tupD (cCons (cV 2) cNil)))))
def F__law_path (ds : List PD) : R PD := fin (g__law_path (startE 6 ds))
def g__paths_l1 (S : List PD → R PD) : En → Fl := (sExt 2 (c2 addD (cL (cLst (cCons (c2 addD (cV 1) (cTup (cCons (cV 3) cNil))) cNil))) (cCall 2 S (cCons (c2 ixD (cV 4) (cK (.int 1))) (cCons (c2 addD (cV 1) (cTup (cCons (cV 3) cNil))) cNil)))))
def g__paths (S : List PD → R PD) : En → Fl := (sSeq (sSetL 2 (cLst cNil))
  (sSeq (sFor (iEnm (cV 0)) (gT 2 (gC (gN 3) (gC (gN 4) gZ))) (g__paths_l1 S))
  (sFrz 2 (sRet (cV 2)))))
def F__paths_n : Nat → List PD → R PD
  | 0 => fun _ => .bad
  | n + 1 => fun ds => fin (g__paths (F__paths_n n) (startE 5 ds))
def F__paths : List PD → R PD := F__paths_n 12
def g__with_part (S : List PD → R PD) : En → Fl := (sSeq (sIf (bC eqD (cCl lenD (cCons (cV 1) cNil)) (cK (.int 0)))
  (sRet (cV 2))
  sNx)
  (sSeq (sPar 3 4 (c2 ixD (cV 1) (cK (.int 0))) (c2 ixD (cV 0) (cK (.int 1))))
  (sRet (cTup (cCons (c2 ixD (cV 0) (cK (.int 0))) (cCons (c2 addD (c2 addD (cSl (cV 4) oN (oS (cV 3))) (cTup (cCons (cCall 3 S (cCons (c2 ixD (cV 4) (cV 3)) (cCons (cSl (cV 1) (oS (cK (.int 1))) oN) (cCons (cV 2) cNil)))) cNil))) (cSl (cV 4) (oS (c2 addD (cV 3) (cK (.int 1)))) oN)) cNil))))))
def F__with_part_n : Nat → List PD → R PD
  | 0 => fun _ => .bad
  | n + 1 => fun ds => fin (g__with_part (F__with_part_n n) (startE 5 ds))
def F__with_part : List PD → R PD := F__with_part_n 12
def g_all_paths : En → Fl := (sRet (c2 addD (cL (cLst (cCons (cTup cNil) cNil))) (cCall 2 F__paths (cCons (c2 ixD (cV 0) (cK (.int 1))) (cCons (cTup cNil) cNil)))))
def F_all_paths (ds : List PD) : R PD := fin (g_all_paths (startE 1 ds))
def g__total (S : List PD → R PD) : En → Fl := (sRet (c2 addD (cCall 1 F_number_by (cCons (cCall 1 F_figures_on (cCons (c2 ixD (cV 0) (cK (.int 0))) cNil)) cNil)) (cCl sumD (cCons (cL (cLcK [1] (iSeq (c2 ixD (cV 0) (cK (.int 1)))) (kN 1) bYes (cCall 1 S (cCons (cV 1) cNil)))) cNil))))
def F__total_n : Nat → List PD → R PD
  | 0 => fun _ => .bad
  | n + 1 => fun ds => fin (g__total (F__total_n n) (startE 2 ds))
def F__total : List PD → R PD := F__total_n 12
def g__law_tree (S : List PD → R PD) : En → Fl := (sRet (cCl tupD (cCons (cL (cLcK [2] (iR2 (c2 addD (cV 1) (cK (.int 1))) (cCl lenD (cCons (cV 0) cNil))) (kN 2) (bC eqD (cCall 2 F__law_parent (cCons (cV 0) (cCons (cV 2) cNil))) (cV 1)) (cTup (cCons (cCall 1 F__law_cord (cCons (c2 ixD (c2 ixD (cV 0) (cV 2)) (cK (.int 1))) cNil)) (cCons (cCall 2 S (cCons (cV 0) (cCons (cV 2) cNil))) cNil))))) cNil)))
def F__law_tree_n : Nat → List PD → R PD
  | 0 => fun _ => .bad
  | n + 1 => fun ds => fin (g__law_tree (F__law_tree_n n) (startE 3 ds))
def F__law_tree : List PD → R PD := F__law_tree_n 12
def g__are_hung_l1 (S : List PD → R PD) : En → Fl := (sIf (bOr (bNot (bT (isaD PyData.isTuple (cV 2)))) (bOr (bC neD (cCl lenD (cCons (cV 2) cNil)) (cK (.int 2))) (bOr (bNot (bT (cCall 1 F_is_cord (cCons (c2 ixD (cV 2) (cK (.int 0))) cNil)))) (bNot (bT (cCall 2 S (cCons (c2 ixD (cV 2) (cK (.int 1))) (cCons (c2 subD (cV 1) (cK (.int 1))) cNil))))))))
  (sRet (cK (.bool false)))
  sNx)
def g__are_hung (S : List PD → R PD) : En → Fl := (sSeq (sIf (bOr (bNot (bT (isaD PyData.isTuple (cV 0)))) (bOr (bC gtD (cCl lenD (cCons (cV 0) cNil)) (cK (.int 5))) (bAnd (bC gtD (cCl lenD (cCons (cV 0) cNil)) (cK (.int 0))) (bC eqD (cV 1) (cK (.int 0))))))
  (sRet (cK (.bool false)))
  sNx)
  (sSeq (sFor (iSeq (cV 0)) (gN 2) (g__are_hung_l1 S))
  (sRet (cK (.bool true)))))
def F__are_hung_n : Nat → List PD → R PD
  | 0 => fun _ => .bad
  | n + 1 => fun ds => fin (g__are_hung (F__are_hung_n n) (startE 3 ds))
def F__are_hung : List PD → R PD := F__are_hung_n 12
def g_check_path : En → Fl := (sSeq (sIf (bOr (bNot (bT (isaD PyData.isTuple (cV 1)))) (bC gtD (cCl lenD (cCons (cV 1) cNil)) (cK (.int 4))))
  (sExc "BadPath")
  sNx)
  (sIf (bOr (bNot (bT (cCl allD (cCons (cL (cLcK [2] (iSeq (cV 1)) (kN 2) bYes (cCall 3 F_is_whole (cCons (cV 2) (cCons (cK (.int 0)) (cCons (cK (.int 5)) cNil)))))) cNil)))) (bC notinS (cV 1) (cCall 1 F_all_paths (cCons (cV 0) cNil))))
  (sExc "BadPath")
  sNx))
def F_check_path (ds : List PD) : R PD := fin (g_check_path (startE 3 ds))
def g_gap_in : En → Fl := (sRet (c2 subD (cCall 1 F_number_by (cCons (cCall 1 F_figures_on (cCons (c2 ixD (cV 0) (cK (.int 0))) cNil)) cNil)) (cCl sumD (cCons (cL (cLcK [1] (iSeq (c2 ixD (cV 0) (cK (.int 1)))) (kN 1) bYes (cCall 1 F__total (cCons (cV 1) cNil)))) cNil))))
def F_gap_in (ds : List PD) : R PD := fin (g_gap_in (startE 2 ds))
def g__law_made : En → Fl := (sRet (cTup (cCons (cCall 1 F__law_cord (cCons (c2 ixD (c2 ixD (cV 0) (cK (.int 0))) (cK (.int 1))) cNil)) (cCons (cCall 2 F__law_tree (cCons (cV 0) (cCons (cK (.int 0)) cNil))) cNil))))
def F__law_made (ds : List PD) : R PD := fin (g__law_made (startE 1 ds))
def g_is_group : En → Fl := (sSeq (sIf (bOr (bNot (bT (isaD PyData.isTuple (cV 0)))) (bOr (bC neD (cCl lenD (cCons (cV 0) cNil)) (cK (.int 2))) (bNot (bT (cCall 1 F_is_cord (cCons (c2 ixD (cV 0) (cK (.int 0))) cNil))))))
  (sRet (cK (.bool false)))
  sNx)
  (sSeq (sIf (bOr (bNot (bT (cCall 2 F__are_hung (cCons (c2 ixD (cV 0) (cK (.int 1))) (cCons (cK (.int 4)) cNil))))) (bC eqD (cCl lenD (cCons (c2 ixD (cV 0) (cK (.int 1))) cNil)) (cK (.int 0))))
  (sRet (cK (.bool false)))
  sNx)
  (sRet (c2 leD (cCl lenD (cCons (cCall 2 F__paths (cCons (c2 ixD (cV 0) (cK (.int 1))) (cCons (cTup cNil) cNil))) cNil)) (cK (.int 12))))))
def F_is_group (ds : List PD) : R PD := fin (g_is_group (startE 1 ds))
def g__law_due : En → Fl := (sSeq (sSet 3 (c2 addD (c2 addD (cV 1) (cK (.int 1))) (cCl lenD (cCons (cL (cLcK [9] (iR2 (c2 addD (cV 1) (cK (.int 1))) (cCl lenD (cCons (cV 0) cNil))) (kN 9) (bT (cCl allD (cCons (cL (cLcK [10] (iSeq (cSl (cV 0) (oS (c2 addD (cV 1) (cK (.int 1)))) (oS (c2 addD (cV 9) (cK (.int 1)))))) (kN 10) bYes (c2 gtD (c2 ixD (cV 10) (cK (.int 0))) (c2 ixD (c2 ixD (cV 0) (cV 1)) (cK (.int 0)))))) cNil))) (cV 9))) cNil))))
  (sSeq (sIf (bChain leD ltD (cV 1) (cV 2) (cV 3))
  (sRet (cTup (cCons (cK (.str "within")) cNil)))
  sNx)
  (sSeq (sSet 4 (cL (cLcK [10] (iSeq (cSl (cV 0) (oS (cV 1)) (oS (cV 3)))) (kN 10) bYes (cTup (cCons (c2 addD (c2 addD (c2 subD (c2 ixD (cV 10) (cK (.int 0))) (c2 ixD (c2 ixD (cV 0) (cV 1)) (cK (.int 0)))) (c2 ixD (c2 ixD (cV 0) (cV 2)) (cK (.int 0)))) (cK (.int 1))) (cCons (c2 ixD (cV 10) (cK (.int 1))) cNil))))))
  (sSeq (sSet 5 (c2 addD (c2 addD (cV 2) (cK (.int 1))) (cCl lenD (cCons (cL (cLcK [9] (iR2 (c2 addD (cV 2) (cK (.int 1))) (cCl lenD (cCons (cV 0) cNil))) (kN 9) (bT (cCl allD (cCons (cL (cLcK [10] (iSeq (cSl (cV 0) (oS (c2 addD (cV 2) (cK (.int 1)))) (oS (c2 addD (cV 9) (cK (.int 1)))))) (kN 10) bYes (c2 gtD (c2 ixD (cV 10) (cK (.int 0))) (c2 ixD (c2 ixD (cV 0) (cV 2)) (cK (.int 0)))))) cNil))) (cV 9))) cNil))))
  (sSeq (sSet 6 (cL (cLcK [9] (iR1 (cV 5)) (kN 9) (bOr (bC ltD (cV 9) (cV 1)) (bC geD (cV 9) (cV 3))) (c2 ixD (cV 0) (cV 9)))))
  (sSeq (sSet 7 (c2 addD (c2 addD (cV 6) (cV 4)) (cL (cLcK [9] (iR2 (cV 5) (cCl lenD (cCons (cV 0) cNil))) (kN 9) (bOr (bC ltD (cV 9) (cV 1)) (bC geD (cV 9) (cV 3))) (c2 ixD (cV 0) (cV 9))))))
  (sSeq (sSet 8 (cL (cLcK [9] (iR2 (cK (.int 1)) (cCl lenD (cCons (cV 7) cNil))) (kN 9) (bC eqD (cCall 2 F__law_parent (cCons (cV 7) (cCons (cV 9) cNil))) (cIf (bC ltD (cV 2) (cV 1)) (cV 2) (c2 subD (cV 2) (c2 subD (cV 3) (cV 1))))) (cV 9))))
  (sRet (cIf (bAnd (bC ltD (cCl maxD1 (cCons (cL (cLcK [10] (iSeq (cV 7)) (kN 10) bYes (c2 ixD (cV 10) (cK (.int 0))))) cNil)) (cK (.int 5))) (bC ltD (cCl lenD (cCons (cV 8) cNil)) (cK (.int 6)))) (cTup (cCons (cK (.str "told")) (cCons (cCall 1 F__law_made (cCons (cV 7) cNil)) cNil))) (cTup (cCons (cK (.str "group")) cNil)))))))))))
def F__law_due (ds : List PD) : R PD := fin (g__law_due (startE 11 ds))
def g_check_group : En → Fl := (sIf (bNot (bT (cCall 1 F_is_group (cCons (cV 0) cNil))))
  (sExc "BadGroup")
  sNx)
def F_check_group (ds : List PD) : R PD := fin (g_check_group (startE 1 ds))
def g_gap_of : En → Fl := (sSeq (sDrop (cCall 1 F_check_group (cCons (cV 0) cNil)))
  (sRet (cCall 1 F_gap_in (cCons (cV 0) cNil))))
def F_gap_of (ds : List PD) : R PD := fin (g_gap_of (startE 1 ds))
def g_with_head : En → Fl := (sSeq (sDrop (cCall 1 F_check_group (cCons (cV 0) cNil)))
  (sSeq (sSet 1 (cCl sumD (cCons (cL (cLcK [3] (iSeq (c2 ixD (cV 0) (cK (.int 1)))) (kN 3) bYes (cCall 1 F__total (cCons (cV 3) cNil)))) cNil)))
  (sSeq (sSet 2 (cCl maxD1 (cCons (cCl lenD (cCons (cCall 1 F_figures_on (cCons (c2 ixD (cV 0) (cK (.int 0))) cNil)) cNil)) (cCons (cCl lenD (cCons (cCl strD (cCons (cV 1) cNil)) cNil)) cNil))))
  (sSeq (sIf (bC gtD (cV 2) (cK (.int 5)))
  (sExc "TooMany")
  sNx)
  (sRet (cTup (cCons (cCall 1 F_cord_with (cCons (cCall 2 F_figures_for (cCons (cV 1) (cCons (cV 2) cNil))) cNil)) (cCons (c2 ixD (cV 0) (cK (.int 1))) cNil))))))))
def F_with_head (ds : List PD) : R PD := fin (g_with_head (startE 4 ds))
def g_moved_cord : En → Fl := (sSeq (sDrop (cCall 1 F_check_group (cCons (cV 0) cNil)))
  (sSeq (sDrop (cCall 2 F_check_path (cCons (cV 0) (cCons (cV 1) cNil))))
  (sSeq (sDrop (cCall 2 F_check_path (cCons (cV 0) (cCons (cV 2) cNil))))
  (sSeq (sIf (bC eqD (cCl lenD (cCons (cV 1) cNil)) (cK (.int 0)))
  (sExc "BadPath")
  sNx)
  (sSeq (sIf (bC eqD (cSl (cV 2) oN (oS (cCl lenD (cCons (cV 1) cNil)))) (cV 1))
  (sExc "Within")
  sNx)
  (sSeq (sAsg (cCall 2 F_part_at (cCons (cV 0) (cCons (cV 2) cNil))) (gT 2 (gC (gN 3) (gC (gN 4) gZ))))
  (sSeq (sSet 5 (cCall 3 F__with_part (cCons (cV 0) (cCons (cV 2) (cCons (cTup (cCons (cV 3) (cCons (c2 addD (cV 4) (cTup (cCons (cCall 2 F_part_at (cCons (cV 0) (cCons (cV 1) cNil))) cNil))) cNil))) cNil)))))
  (sSeq (sAsg (cCall 2 F_part_at (cCons (cV 5) (cCons (cSl (cV 1) oN (oS (c1 negD (cK (.int 1))))) cNil))) (gT 2 (gC (gN 3) (gC (gN 4) gZ))))
  (sSeq (sSet 5 (cCall 3 F__with_part (cCons (cV 5) (cCons (cSl (cV 1) oN (oS (c1 negD (cK (.int 1))))) (cCons (cTup (cCons (cV 3) (cCons (c2 addD (cSl (cV 4) oN (oS (c2 ixD (cV 1) (c1 negD (cK (.int 1)))))) (cSl (cV 4) (oS (c2 addD (c2 ixD (cV 1) (c1 negD (cK (.int 1)))) (cK (.int 1)))) oN)) cNil))) cNil)))))
  (sSeq (sDrop (cCall 1 F_check_group (cCons (cV 5) cNil)))
  (sRet (cV 5))))))))))))
def F_moved_cord (ds : List PD) : R PD := fin (g_moved_cord (startE 6 ds))
def g__law_told : En → Fl := (sTry excs
  (sRet (cTup (cCons (cK (.str "told")) (cCons (cIf (bC eqD (cV 0) (cK (.int 0))) (cCall 1 F_with_head (cCons (cV 1) cNil)) (cCall 3 F_moved_cord (cCons (cV 1) (cCons (cV 2) (cCons (cV 3) cNil))))) cNil))))
  [("BadGroup", (sRet (cTup (cCons (cK (.str "group")) cNil)))), ("BadPath", (sRet (cTup (cCons (cK (.str "path")) cNil)))), ("Within", (sRet (cTup (cCons (cK (.str "within")) cNil)))), ("TooMany", (sRet (cTup (cCons (cK (.str "many")) cNil))))])
def F__law_told (ds : List PD) : R PD := fin (g__law_told (startE 4 ds))
def g__law_refuses_l1 : En → Fl := (sIf (bC neD (cL (cLcK [3] (iSeq (cTup (cCons (cK (.int 0)) (cCons (cK (.int 1)) cNil)))) (kN 3) bYes (cCall 4 F__law_told (cCons (cV 3) (cCons (cV 1) (cCons (cK .none) (cCons (cK .none) cNil))))))) (cL (cRepL (cLst (cCons (cTup (cCons (cK (.str "group")) cNil)) cNil)) (cK (.int 2)))))
  (sRet (cK (.bool false)))
  sNx)
def g__law_refuses_l2 : En → Fl := (sIf (bOr (bC neD (cCall 4 F__law_told (cCons (cK (.int 1)) (cCons (cV 0) (cCons (cV 1) (cCons (cK .none) cNil))))) (cTup (cCons (cK (.str "path")) cNil))) (bC neD (cCall 4 F__law_told (cCons (cK (.int 1)) (cCons (cV 0) (cCons (cTup (cCons (cK (.int 0)) cNil)) (cCons (cV 1) cNil))))) (cTup (cCons (cK (.str "path")) cNil))))
  (sRet (cK (.bool false)))
  sNx)
def g__law_refuses : En → Fl := (sSeq (sFor (iSeq (cCall 0 F__law_wrong_groups cNil)) (gN 1) g__law_refuses_l1)
  (sSeq (sFor (iSeq (cTup (cCons (cK .none) (cCons (cL (cLst cNil)) (cCons (cL (cLst (cCons (cK (.int 0)) cNil))) (cCons (cTup (cCons (c1 negD (cK (.int 1))) cNil)) (cCons (cTup (cCons (cK (.bool true)) cNil)) (cCons (cTup (cCons (cK (.int 9)) cNil)) (cCons (cTup (cCons (cK (.int 0)) (cCons (cK (.int 0)) (cCons (cK (.int 0)) (cCons (cK (.int 0)) (cCons (cK (.int 0)) cNil)))))) (cCons (cK (.int 0)) (cCons (cK (.str "a")) cNil))))))))))) (gN 1) g__law_refuses_l2)
  (sSeq (sIf (bOr (bC neD (cCall 4 F__law_told (cCons (cK (.int 1)) (cCons (cV 0) (cCons (cTup cNil) (cCons (cTup cNil) cNil))))) (cTup (cCons (cK (.str "path")) cNil))) (bOr (bC neD (cCall 4 F__law_told (cCons (cK (.int 1)) (cCons (cV 0) (cCons (cTup cNil) (cCons (cTup (cCons (cK (.int 0)) cNil)) cNil))))) (cTup (cCons (cK (.str "path")) cNil))) (bC neD (cCall 4 F__law_told (cCons (cK (.int 1)) (cCons (cV 0) (cCons (cTup (cCons (cK (.int 0)) cNil)) (cCons (cTup (cCons (cK (.int 0)) cNil)) cNil))))) (cTup (cCons (cK (.str "within")) cNil)))))
  (sRet (cK (.bool false)))
  sNx)
  (sSeq (sSet 2 (cMs joinD (cK (.str "/")) (c2 addD (cL (cRepL (cLst (cCons (c2 mulS (cK (.str "s")) (cK (.int 9))) cNil)) (cK (.int 4)))) (cL (cLst (cCons (c2 mulS (cK (.str "l")) (cK (.int 9))) cNil))))))
  (sSeq (sIf (bC neD (cCall 4 F__law_told (cCons (cK (.int 0)) (cCons (cTup (cCons (cK (.str "e")) (cCons (cTup (cCons (cTup (cCons (cV 2) (cCons (cTup cNil) cNil))) (cCons (cTup (cCons (cK (.str "e")) (cCons (cTup cNil) cNil))) cNil))) cNil))) (cCons (cK .none) (cCons (cK .none) cNil))))) (cTup (cCons (cK (.str "many")) cNil)))
  (sRet (cK (.bool false)))
  sNx)
  (sSeq (sIf (bNot (bT (cCall 2 F__law_same (cCons (cCall 4 F__law_told (cCons (cK (.int 0)) (cCons (cTup (cCons (cK (.str "-/-")) (cCons (cTup (cCons (cTup (cCons (cK (.str "s/-/-")) (cCons (cTup cNil) cNil))) (cCons (cTup (cCons (cK (.str "e")) (cCons (cTup cNil) cNil))) cNil))) cNil))) (cCons (cK .none) (cCons (cK .none) cNil))))) (cCons (cTup (cCons (cK (.str "told")) (cCons (cTup (cCons (cK (.str "s/-/e")) (cCons (cTup (cCons (cTup (cCons (cK (.str "s/-/-")) (cCons (cTup cNil) cNil))) (cCons (cTup (cCons (cK (.str "e")) (cCons (cTup cNil) cNil))) cNil))) cNil))) cNil))) cNil)))))
  (sRet (cK (.bool false)))
  sNx)
  (sRet (cCall 2 F__law_same (cCons (cCall 4 F__law_told (cCons (cK (.int 0)) (cCons (cTup (cCons (cK (.str "-/-/-")) (cCons (cTup (cCons (cTup (cCons (cK (.str "e")) (cCons (cTup cNil) cNil))) cNil)) cNil))) (cCons (cK .none) (cCons (cK .none) cNil))))) (cCons (cTup (cCons (cK (.str "told")) (cCons (cTup (cCons (cK (.str "-/-/e")) (cCons (cTup (cCons (cTup (cCons (cK (.str "e")) (cCons (cTup cNil) cNil))) cNil)) cNil))) cNil))) cNil))))))))))
def F__law_refuses (ds : List PD) : R PD := fin (g__law_refuses (startE 4 ds))
def g_law_l1 : En → Fl := (sSeq (sSet 10 (cCall 4 F__law_told (cCons (cK (.int 1)) (cCons (cV 3) (cCons (c2 ixD (cV 7) (cV 8)) (cCons (c2 ixD (cV 7) (cV 9)) cNil))))))
  (sSeq (sIf (bNot (bT (cCall 2 F__law_same (cCons (cV 10) (cCons (cCall 3 F__law_due (cCons (cV 2) (cCons (cV 8) (cCons (cV 9) cNil)))) cNil)))))
  (sRet (cK (.bool false)))
  sNx)
  (sIf (bAnd (bC eqD (c2 ixD (cV 10) (cK (.int 0))) (cK (.str "told"))) (bOr (bC isnD (cCall 1 F_is_group (cCons (c2 ixD (cV 10) (cK (.int 1))) cNil)) (cK (.bool true))) (bNot (bT (cCall 2 F__law_same (cCons (cCall 1 F_gap_of (cCons (c2 ixD (cV 10) (cK (.int 1))) cNil)) (cCons (cCall 1 F_gap_of (cCons (cV 3) cNil)) cNil)))))))
  (sRet (cK (.bool false)))
  sNx)))
def g_law_l2 : En → Fl := (sFor (iR1 (cCl lenD (cCons (cV 2) cNil))) (gN 9) g_law_l1)
def g_law : En → Fl := (sSeq (sSet 1 (cDr F__law_draws 0 60))
  (sSeq (sSet 2 (cCall 3 F__law_rows (cCons (cSl (cV 1) oN (oS (cK (.int 45)))) (cCons (cK (.int 4)) (cCons (c2 ixD (cL (cLst (cCons (cK (.int 8)) (cCons (cK (.int 4)) cNil)))) (c2 modD (cCl intD (cCons (c2 ixD (cV 1) (cK (.int 45))) cNil)) (cK (.int 2)))) cNil)))))
  (sSeq (sSet 3 (cCall 1 F__law_made (cCons (cV 2) cNil)))
  (sSeq (sSet 4 (cCl sumD (cCons (cL (cLcK [11] (iSeq (cSl (cV 2) (oS (cK (.int 1))) oN)) (kN 11) bYes (cCall 1 F__law_number (cCons (c2 ixD (cV 11) (cK (.int 1))) cNil)))) cNil)))
  (sSeq (sSet 5 (cCl maxD1 (cCons (cCl lenD (cCons (c2 ixD (c2 ixD (cV 2) (cK (.int 0))) (cK (.int 1))) cNil)) (cCons (cCl lenD (cCons (cCl strD (cCons (cV 4) cNil)) cNil)) cNil))))
  (sSeq (sSet 6 (cIf (bC ltD (cV 5) (cK (.int 6))) (cL (cLcK [12] (iR1 (cV 5)) (kN 12) bYes (c2 modD (c2 fdivD (cV 4) (c2 ixD (cL (cLst (cCons (cK (.int 1)) (cCons (cK (.int 10)) (cCons (cK (.int 100)) (cCons (cK (.int 1000)) (cCons (cK (.int 10000)) cNil))))))) (c2 subD (c2 subD (cV 5) (cK (.int 1))) (cV 12)))) (cK (.int 10))))) (cL (cLst cNil))))
  (sSeq (sIf (bNot (bT (cCall 2 F__law_same (cCons (cCall 4 F__law_told (cCons (cK (.int 0)) (cCons (cV 3) (cCons (cK .none) (cCons (cK .none) cNil))))) (cCons (cIf (bC ltD (cV 5) (cK (.int 6))) (cTup (cCons (cK (.str "told")) (cCons (cCall 1 F__law_made (cCons (c2 addD (cL (cLst (cCons (cTup (cCons (cK (.int 0)) (cCons (cV 6) cNil))) cNil))) (cSl (cV 2) (oS (cK (.int 1))) oN)) cNil)) cNil))) (cTup (cCons (cK (.str "many")) cNil))) cNil)))))
  (sRet (cK (.bool false)))
  sNx)
  (sSeq (sSet 7 (cL (cLcK [13] (iR1 (cCl lenD (cCons (cV 2) cNil))) (kN 13) bYes (cCall 2 F__law_path (cCons (cV 2) (cCons (cV 13) cNil))))))
  (sSeq (sFor (iR2 (cK (.int 1)) (cCl lenD (cCons (cV 2) cNil))) (gN 8) g_law_l2)
  (sRet (cCall 1 F__law_refuses (cCons (cV 3) cNil))))))))))))
def F_law (ns : List Int) : R PD := fin (g_law (.sc ns :: List.replicate 13 .un))
end
end K52
namespace K52
open PySem PySem.Spec L2 DL
def P_is_whole (value_1 : PD) (least_2 : PD) (most_3 : PD) : R PD := if (PyData.isInt value_1) = true then if (!(PyData.isBool value_1)) = true then (leD least_2 value_1).bind fun z_4 => (asB z_4).bind fun k_5 => if k_5 = true then leD value_1 most_3 else .ok (.bool false) else .ok (.bool (!(PyData.isBool value_1))) else .ok (.bool (PyData.isInt value_1))
theorem e_is_whole (value_1 : PD) (least_2 : PD) (most_3 : PD) : F_is_whole [value_1, least_2, most_3] = P_is_whole value_1 least_2 most_3 := by
 show Kt.top.k (g_is_whole [.va value_1, .va least_2, .va most_3]) = _
 unfold P_is_whole
 exact (q_retT rfl (by kernel_rfl))
def P__is_high (word_1 : PD) : R PD := (eqD word_1 (.str "-")).bind fun a_2 => (tru a_2).bind fun b_3 => if b_3 = true then .ok a_2 else ((lenD [word_1]).bind fun b_4 => (leD (.int 1) b_4).bind fun z_5 => (asB z_5).bind fun k_6 => if k_6 = true then leD b_4 (.int 9) else .ok (.bool false)).bind fun a_7 => (tru a_7).bind fun b_8 => if b_8 = true then ((lenD [word_1]).bind (mulS (.str "s"))).bind (eqD word_1) else .ok a_7
theorem e__is_high (word_1 : PD) : F__is_high [word_1] = P__is_high word_1 := by
 show Kt.top.k (g__is_high [.va word_1]) = _
 unfold P__is_high
 exact (q_retT rfl (by kernel_rfl))
def P__are_units (word_1 : PD) : R PD := (eqD word_1 (.str "-")).bind fun a_2 => (tru a_2).bind fun b_3 => if b_3 = true then .ok a_2 else (eqD word_1 (.str "e")).bind fun a_4 => (tru a_4).bind fun b_5 => if b_5 = true then .ok a_4 else ((lenD [word_1]).bind fun b_6 => (leD (.int 2) b_6).bind fun z_7 => (asB z_7).bind fun k_8 => if k_8 = true then leD b_6 (.int 9) else .ok (.bool false)).bind fun a_9 => (tru a_9).bind fun b_10 => if b_10 = true then ((lenD [word_1]).bind (mulS (.str "l"))).bind (eqD word_1) else .ok a_9
theorem e__are_units (word_1 : PD) : F__are_units [word_1] = P__are_units word_1 := by
 show Kt.top.k (g__are_units [.va word_1]) = _
 unfold P__are_units
 exact (q_retT rfl (by kernel_rfl))
def P_figures_on (cord_1 : PD) : R PD := ((((chk (isS cord_1) (splitD cord_1 (.str "/"))).bind fun l_2 => .ok (.list l_2)).bind itD).bind fun items_3 => lcP items_3 fun word_4 => (((eqD word_4 (.str "-")).bind asB).bind fun b_5 => if b_5 = true then .ok (.int 0) else lenD [word_4]).sm).bind fun l_6 => .ok (.list l_6)
theorem e_figures_on (cord_1 : PD) : F_figures_on [cord_1] = P_figures_on cord_1 := by
 show Kt.top.k (g_figures_on [.va cord_1, .un]) = _
 unfold P_figures_on
 exact (q_retT rfl (by kernel_rfl))
def P_cord_with (figures_1 : PD) : R PD := (((((negD (.int 1)).bind optI).bind (slD figures_1 none)).bind itD).bind fun items_3 => lcP items_3 fun figure_4 => (((eqD figure_4 (.int 0)).bind asB).bind fun b_5 => if b_5 = true then .ok (.str "-") else mulS (.str "s") figure_4).sm).bind fun words_6 => ((negD (.int 1)).bind (ixD figures_1)).bind fun last_8 => (((eqD last_8 (.int 0)).bind asB).bind fun b_9 => if b_9 = true then .ok (.str "-") else ((eqD last_8 (.int 1)).bind asB).bind fun b_10 => if b_10 = true then .ok (.str "e") else mulS (.str "l") last_8).bind fun d_12 => appK words_6 d_12 fun words_11 => joinD (.str "/") (.list words_11)
theorem e_cord_with (figures_1 : PD) : F_cord_with [figures_1] = P_cord_with figures_1 := by
 show Kt.top.k (g_cord_with [.va figures_1, .un, .un, .un]) = _
 unfold P_cord_with
 exact (q_seq (q_setLB (by kernel_rfl) fun words_6 => (q_nx [.va figures_1, .ol words_6, .un, .un] rfl (q_seq (q_setB (by kernel_rfl) fun last_8 => (q_nx [.va figures_1, .ol words_6, .va last_8, .un] rfl (q_seq (q_appB rfl (by kernel_rfl) fun d_12 words_11 => (q_nx [.va figures_1, .ol words_11, .va last_8, .un] rfl (q_retT rfl (by kernel_rfl)))))))))))
def P_number_by_l1  : PD → PD → (PD → R PD) → (PD → R PD) → R PD := fun figure_16 s_6 next_7 brk_8 => ((mulS (.int 10) s_6).bind fun a_17 => addD a_17 figure_16).bind fun number_18 => next_7 number_18
def P_number_by (figures_1 : PD) : R PD := (itD figures_1).bind fun items_2 => forK (P_number_by_l1) items_2 (.int 0) fun s_19 => .ok s_19
theorem e_number_by (figures_1 : PD) : F_number_by [figures_1] = P_number_by figures_1 := by
 show Kt.top.k (g_number_by [.va figures_1, .un, .un]) = _
 unfold P_number_by
 exact (q_seq (q_set (.int 0) (by kernel_rfl) (q_nx [.va figures_1, .va (.int 0), .un] rfl (q_seq (q_for (by kernel_rfl) fun items_2 => (by
 refine for_sim (bodyP := P_number_by_l1) (tk := (kN 2)) (fun (s_3 : PD) ρ => ∃ j_4 j_5, ρ = [j_4, .va s_3, j_5]) tge_n ?_ (by exact rfl) ?_ _ (.int 0) _ ⟨.va figures_1, .un, rfl⟩
 · intro K_24 hr_9 figure_16 s_6 r_22 next_7 brk_8 hf_23 hn_10 hc_11 hb_12; obtain ⟨j_13, j_14, rfl⟩ := hf_23; unfold P_number_by_l1; exact (q_kN (q_at [j_13, .va s_6, .va figure_16] rfl (q_setB (by kernel_rfl) fun number_18 => (hn_10 number_18 _ ⟨j_13, .va figure_16, rfl⟩))))
 · intro s_19 r_22 hf_23; obtain ⟨j_20, j_21, rfl⟩ := hf_23; exact (q_nx [j_20, .va s_19, j_21] rfl (q_retT rfl (by kernel_rfl)))))))))
def P_figures_for_l1  : PD → (PD × List PD) → ((PD × List PD) → R PD) → ((PD × List PD) → R PD) → R PD := fun x_17 s_7 next_8 brk_9 => (modD s_7.1 (.int 10)).bind fun d_20 => appK s_7.2 d_20 fun figures_18 => (fdivD s_7.1 (.int 10)).bind fun number_19 => next_8 (number_19, figures_18)
def P_figures_for (number_1 : PD) (places_2 : PD) : R PD := (rg1 places_2).bind fun items_3 => forK (P_figures_for_l1) items_3 (number_1, []) fun s_21 => revD (.list s_21.2)
theorem e_figures_for (number_1 : PD) (places_2 : PD) : F_figures_for [number_1, places_2] = P_figures_for number_1 places_2 := by
 show Kt.top.k (g_figures_for [.va number_1, .va places_2, .un, .un]) = _
 unfold P_figures_for
 exact (q_seq (q_setL [] (by kernel_rfl) (q_nx [.va number_1, .va places_2, .ol [], .un] rfl (q_seq (q_for (by kernel_rfl) fun items_3 => (by
 refine for_sim (bodyP := P_figures_for_l1) (tk := (kN 3)) (fun (s_4 : PD × List PD) ρ => ∃ j_5 j_6, ρ = [.va s_4.1, j_5, .ol s_4.2, j_6]) tge_n ?_ (by exact rfl) ?_ _ (number_1, []) _ ⟨.va places_2, .un, rfl⟩
 · intro K_26 hr_10 x_17 s_7 r_24 next_8 brk_9 hf_25 hn_11 hc_12 hb_13; obtain ⟨j_14, j_15, rfl⟩ := hf_25; unfold P_figures_for_l1; exact (q_kN (q_at [.va s_7.1, j_14, .ol s_7.2, .va x_17] rfl (q_seq (q_appB rfl (by kernel_rfl) fun d_20 figures_18 => (q_nx [.va s_7.1, j_14, .ol figures_18, .va x_17] rfl (q_setB (by kernel_rfl) fun number_19 => (hn_11 (number_19, figures_18) _ ⟨j_14, .va x_17, rfl⟩)))))))
 · intro s_21 r_24 hf_25; obtain ⟨j_22, j_23, rfl⟩ := hf_25; exact (q_nx [.va s_21.1, j_22, .ol s_21.2, j_23] rfl (q_retT rfl (by kernel_rfl)))))))))
def P_part_at_l1  : PD → PD → (PD → R PD) → (PD → R PD) → R PD := fun number_17 s_7 next_8 brk_9 => ((ixD s_7 (.int 1)).bind fun a_18 => ixD a_18 number_17).bind fun group_19 => next_8 group_19
def P_part_at (group_1 : PD) (path_2 : PD) : R PD := (itD path_2).bind fun items_3 => forK (P_part_at_l1) items_3 group_1 fun s_20 => .ok s_20
theorem e_part_at (group_1 : PD) (path_2 : PD) : F_part_at [group_1, path_2] = P_part_at group_1 path_2 := by
 show Kt.top.k (g_part_at [.va group_1, .va path_2, .un]) = _
 unfold P_part_at
 exact (q_seq (q_for (by kernel_rfl) fun items_3 => (by
 refine for_sim (bodyP := P_part_at_l1) (tk := (kN 2)) (fun (s_4 : PD) ρ => ∃ j_5 j_6, ρ = [.va s_4, j_5, j_6]) tge_n ?_ (by exact rfl) ?_ _ group_1 _ ⟨.va path_2, .un, rfl⟩
 · intro K_25 hr_10 number_17 s_7 r_23 next_8 brk_9 hf_24 hn_11 hc_12 hb_13; obtain ⟨j_14, j_15, rfl⟩ := hf_24; unfold P_part_at_l1; exact (q_kN (q_at [.va s_7, j_14, .va number_17] rfl (q_setB (by kernel_rfl) fun group_19 => (hn_11 group_19 _ ⟨j_14, .va number_17, rfl⟩))))
 · intro s_20 r_23 hf_24; obtain ⟨j_21, j_22, rfl⟩ := hf_24; exact (q_nx [.va s_20, j_21, j_22] rfl (q_retT rfl (by kernel_rfl))))))
def P__law_cord (figures_1 : PD) : R PD := ((((((negD (.int 1)).bind optI).bind (slD figures_1 none)).bind itD).bind fun items_3 => lcP items_3 fun one_4 => (((gtD one_4 (.int 0)).bind asB).bind fun b_5 => if b_5 = true then mulS (.str "s") one_4 else .ok (.str "-")).sm).bind fun l_6 => .ok (.list l_6)).bind fun words_7 => ((negD (.int 1)).bind (ixD figures_1)).bind fun last_9 => (((((((eqD last_9 (.int 0)).bind asB).bind fun b_10 => if b_10 = true then .ok (.str "-") else ((eqD last_9 (.int 1)).bind asB).bind fun b_11 => if b_11 = true then .ok (.str "e") else mulS (.str "l") last_9).bind fun a_12 => .ok [a_12]).bind mkL).bind fun l_13 => .ok (.list l_13)).bind (addD words_7)).bind (joinD (.str "/"))
theorem e__law_cord (figures_1 : PD) : F__law_cord [figures_1] = P__law_cord figures_1 := by
 show Kt.top.k (g__law_cord [.va figures_1, .un, .un, .un]) = _
 unfold P__law_cord
 exact (q_seq (q_setB (by kernel_rfl) fun words_7 => (q_nx [.va figures_1, .va words_7, .un, .un] rfl (q_seq (q_setB (by kernel_rfl) fun last_9 => (q_nx [.va figures_1, .va words_7, .va last_9, .un] rfl (q_retT rfl (by kernel_rfl))))))))
def P__law_number_l1  : PD → PD → (PD → R PD) → (PD → R PD) → R PD := fun one_16 s_6 next_7 brk_8 => ((mulS (.int 10) s_6).bind fun a_17 => addD a_17 one_16).bind fun number_18 => next_7 number_18
def P__law_number (figures_1 : PD) : R PD := (itD figures_1).bind fun items_2 => forK (P__law_number_l1) items_2 (.int 0) fun s_19 => .ok s_19
theorem e__law_number (figures_1 : PD) : F__law_number [figures_1] = P__law_number figures_1 := by
 show Kt.top.k (g__law_number [.va figures_1, .un, .un]) = _
 unfold P__law_number
 exact (q_seq (q_set (.int 0) (by kernel_rfl) (q_nx [.va figures_1, .va (.int 0), .un] rfl (q_seq (q_for (by kernel_rfl) fun items_2 => (by
 refine for_sim (bodyP := P__law_number_l1) (tk := (kN 2)) (fun (s_3 : PD) ρ => ∃ j_4 j_5, ρ = [j_4, .va s_3, j_5]) tge_n ?_ (by exact rfl) ?_ _ (.int 0) _ ⟨.va figures_1, .un, rfl⟩
 · intro K_24 hr_9 one_16 s_6 r_22 next_7 brk_8 hf_23 hn_10 hc_11 hb_12; obtain ⟨j_13, j_14, rfl⟩ := hf_23; unfold P__law_number_l1; exact (q_kN (q_at [j_13, .va s_6, .va one_16] rfl (q_setB (by kernel_rfl) fun number_18 => (hn_10 number_18 _ ⟨j_13, .va one_16, rfl⟩))))
 · intro s_19 r_22 hf_23; obtain ⟨j_20, j_21, rfl⟩ := hf_23; exact (q_nx [j_20, .va s_19, j_21] rfl (q_retT rfl (by kernel_rfl)))))))))
def P__law_parent (rows_1 : PD) (at_2 : PD) : R PD := ((((rg1 at_2).bind fun items_3 => lcP items_3 fun k_4 => ((((ixD rows_1 k_4).bind fun a_5 => ixD a_5 (.int 0)).bind fun a_6 => ((ixD rows_1 at_2).bind fun a_7 => ixD a_7 (.int 0)).bind (ltD a_6)).bind asB).whn (.ok (some k_4))).bind fun l_9 => .ok (.list l_9)).bind fun a_10 => .ok [a_10]).bind maxD1
theorem e__law_parent (rows_1 : PD) (at_2 : PD) : F__law_parent [rows_1, at_2] = P__law_parent rows_1 at_2 := by
 show Kt.top.k (g__law_parent [.va rows_1, .va at_2, .un]) = _
 unfold P__law_parent
 exact (q_retT rfl (by kernel_rfl))
def P__law_rows_l1 (draws_1 : PD) (places_2 : PD) : PD → PD → (PD → R PD) → (PD → R PD) → R PD := fun k_45 s_30 next_31 brk_32 => ((((((addD (.int 1) k_45).bind (ixD draws_1)).bind fun a_47 => .ok [a_47]).bind intD).bind fun a_48 => (((((((negD (.int 1)).bind (ixD s_30)).bind fun a_50 => ixD a_50 (.int 0)).bind fun a_51 => addD a_51 (.int 1)).bind fun a_52 => .ok [a_52]).bind fun ds_53 => .ok ((.int 4) :: ds_53)).bind minD1).bind (modD a_48)).bind (addD (.int 1))).bind fun deep_56 => ((((lenD [s_30]).bind (rg2 (.int 1))).bind fun items_58 => lcP items_58 fun j_59 => (((((ixD s_30 j_59).bind fun a_60 => ixD a_60 (.int 0)).bind fun a_61 => eqD a_61 deep_56).bind asB).bind fun b_62 => if b_62 = true then (((((((optI j_59).bind fun i_63 => slD s_30 i_63 none).bind itD).bind fun items_64 => lcP items_64 fun row_65 => ((ixD row_65 (.int 0)).bind fun a_66 => geD a_66 deep_56).sm).bind fun l_67 => .ok (.list l_67)).bind fun a_68 => .ok [a_68]).bind allD).bind tru else .ok false).whn (.ok (some j_59))).bind fun l_69 => .ok (.list l_69)).bind fun same_70 => ((((lenD [same_70]).bind fun a_71 => ltD a_71 (.int 5)).bind asB).bind fun b_72 => if b_72 = true then .ok deep_56 else ((((((negD (.int 1)).bind (ixD s_30)).bind fun a_74 => ixD a_74 (.int 0)).bind fun a_75 => addD a_75 (.int 1)).bind fun a_76 => .ok [a_76]).bind fun ds_77 => .ok ((.int 4) :: ds_77)).bind minD1).bind fun deep_78 => ((((lenD [s_30]).bind (rg2 (.int 1))).bind fun items_80 => lcP items_80 fun j_81 => (((((ixD s_30 j_81).bind fun a_82 => ixD a_82 (.int 0)).bind fun a_83 => eqD a_83 deep_78).bind asB).bind fun b_84 => if b_84 = true then (((((((optI j_81).bind fun i_85 => slD s_30 i_85 none).bind itD).bind fun items_86 => lcP items_86 fun row_87 => ((ixD row_87 (.int 0)).bind fun a_88 => geD a_88 deep_78).sm).bind fun l_89 => .ok (.list l_89)).bind fun a_90 => .ok [a_90]).bind allD).bind tru else .ok false).whn (.ok (some j_81))).bind fun l_91 => .ok (.list l_91)).bind fun same_92 => (((((((((addD (.int 10) k_45).bind (ixD draws_1)).bind fun a_94 => .ok [a_94]).bind intD).bind fun a_95 => modD a_95 places_2).bind (addD (.int 1))).bind rg1).bind fun items_97 => lcP items_97 fun j_98 => ((((((((((mulS (.int 3) k_45).bind (addD (.int 9))).bind fun a_100 => addD a_100 j_98).bind (ixD draws_1)).bind fun a_102 => .ok [a_102]).bind intD).bind fun a_103 => modD a_103 (.int 5)).bind fun a_104 => gtD a_104 (.int 1)).bind asB).bind fun b_105 => if b_105 = true then (((((((mulS (.int 3) k_45).bind (addD (.int 9))).bind fun a_107 => addD a_107 j_98).bind (ixD draws_1)).bind fun a_109 => .ok [a_109]).bind intD).bind fun a_110 => fdivD a_110 (.int 5)).bind fun a_111 => modD a_111 (.int 10) else .ok (.int 0)).sm).bind fun l_112 => .ok (.list l_112)).bind fun figures_113 => (((((lenD [same_92]).bind fun a_114 => ltD a_114 (.int 5)).bind asB).bind fun b_115 => if b_115 = true then .ok (.list [(.tuple [deep_78, figures_113])]) else .ok (.list [])).bind (addD s_30)).bind fun rows_117 => next_31 rows_117
def P__law_rows (draws_1 : PD) (places_2 : PD) (most_3 : PD) : R PD := ((((((((((((((ixD draws_1 (.int 38)).bind fun a_4 => .ok [a_4]).bind intD).bind fun a_5 => modD a_5 (.int 4)).bind (addD (.int 1))).bind rg1).bind fun items_7 => lcP items_7 fun j_8 => (((((addD (.int 39) j_8).bind (ixD draws_1)).bind fun a_10 => .ok [a_10]).bind intD).bind fun a_11 => modD a_11 (.int 10)).sm).bind fun l_12 => .ok (.list l_12)).bind fun a_13 => .ok [a_13]).bind fun ds_14 => .ok ((.int 0) :: ds_14)).bind mkT).bind fun a_15 => .ok [a_15]).bind mkL).bind fun l_16 => .ok (.list l_16)).bind fun rows_17 => ((((((ixD draws_1 (.int 0)).bind fun a_18 => .ok [a_18]).bind intD).bind fun a_19 => modD a_19 most_3).bind (addD (.int 1))).bind rg1).bind fun items_21 => forK (P__law_rows_l1 draws_1 places_2) items_21 rows_17 fun s_118 => .ok s_118
theorem e__law_rows (draws_1 : PD) (places_2 : PD) (most_3 : PD) : F__law_rows [draws_1, places_2, most_3] = P__law_rows draws_1 places_2 most_3 := by
 show Kt.top.k (g__law_rows [.va draws_1, .va places_2, .va most_3, .un, .un, .un, .un, .un, .un, .un]) = _
 unfold P__law_rows
 exact (q_seq (q_setB (by kernel_rfl) fun rows_17 => (q_nx [.va draws_1, .va places_2, .va most_3, .va rows_17, .un, .un, .un, .un, .un, .un] rfl (q_seq (q_for (by kernel_rfl) fun items_21 => (by
 refine for_sim (bodyP := P__law_rows_l1 draws_1 places_2) (tk := (kN 4)) (fun (s_22 : PD) ρ => ∃ j_23 j_24 j_25 j_26 j_27 j_28 j_29, ρ = [.va draws_1, .va places_2, j_23, .va s_22, j_24, j_25, j_26, j_27, j_28, j_29]) tge_n ?_ (by exact rfl) ?_ _ rows_17 _ ⟨.va most_3, .un, .un, .un, .un, .un, .un, rfl⟩
 · intro K_128 hr_33 k_45 s_30 r_126 next_31 brk_32 hf_127 hn_34 hc_35 hb_36; obtain ⟨j_37, j_38, j_39, j_40, j_41, j_42, j_43, rfl⟩ := hf_127; unfold P__law_rows_l1; exact (q_kN (q_at [.va draws_1, .va places_2, j_37, .va s_30, .va k_45, j_39, j_40, j_41, j_42, j_43] rfl (q_seq (q_setB (by kernel_rfl) fun deep_56 => (q_nx [.va draws_1, .va places_2, j_37, .va s_30, .va k_45, .va deep_56, j_40, j_41, j_42, j_43] rfl (q_seq (q_setB (by kernel_rfl) fun same_70 => (q_nx [.va draws_1, .va places_2, j_37, .va s_30, .va k_45, .va deep_56, .va same_70, j_41, j_42, j_43] rfl (q_seq (q_setB (by kernel_rfl) fun deep_78 => (q_nx [.va draws_1, .va places_2, j_37, .va s_30, .va k_45, .va deep_78, .va same_70, j_41, j_42, j_43] rfl (q_seq (q_setB (by kernel_rfl) fun same_92 => (q_nx [.va draws_1, .va places_2, j_37, .va s_30, .va k_45, .va deep_78, .va same_92, j_41, j_42, j_43] rfl (q_seq (q_setB (by kernel_rfl) fun figures_113 => (q_nx [.va draws_1, .va places_2, j_37, .va s_30, .va k_45, .va deep_78, .va same_92, .va figures_113, j_42, j_43] rfl (q_setB (by kernel_rfl) fun rows_117 => (hn_34 rows_117 _ ⟨j_37, .va k_45, .va deep_78, .va same_92, .va figures_113, j_42, j_43, rfl⟩)))))))))))))))))))
 · intro s_118 r_126 hf_127; obtain ⟨j_119, j_120, j_121, j_122, j_123, j_124, j_125, rfl⟩ := hf_127; exact (q_nx [.va draws_1, .va places_2, j_119, .va s_118, j_120, j_121, j_122, j_123, j_124, j_125] rfl (q_retT rfl (by kernel_rfl)))))))))
def P__law_wrong_groups_l1  : PD → PD → (PD → R PD) → (PD → R PD) → R PD := fun k_17 s_6 next_7 brk_8 => next_7 (.tuple [(.str "e"), (.tuple [s_6])])
def P__law_wrong_groups  : R PD := (rg1 (.int 4)).bind fun items_1 => forK (P__law_wrong_groups_l1) items_1 (.tuple [(.str "e"), (.tuple [])]) fun s_18 => ((((mulS (.tuple [(.tuple [(.str "e"), (.tuple [])])]) (.int 5)).bind fun a_22 => .ok [a_22]).bind fun ds_23 => .ok ((.str "e") :: ds_23)).bind mkT).bind fun wide_24 => (((((((mulS (.tuple [(.tuple [(.str "e"), (.tuple [])])]) (.int 6)).bind fun a_25 => .ok [a_25]).bind fun ds_26 => .ok ((.str "e") :: ds_26)).bind mkT).bind fun a_27 => .ok [a_27, (.tuple [(.str "e"), (.tuple [s_18])]), (.tuple [(.str "e"), (.tuple [wide_24, wide_24, (.tuple [(.str "e"), (.tuple [])])])]), (.tuple [(.str "e"), (.tuple [(.str "e")])]), (.tuple [(.str "e"), (.tuple [(.str "e"), (.tuple [])])])]).bind mkL).bind fun l_28 => .ok (.list l_28)).bind (addD (.list [.none, (.tuple []), (.str "e"), (.tuple [(.str "e")]), (.tuple [(.str "e"), (.tuple [])]), (.list [(.str "e"), (.tuple [(.tuple [(.str "e"), (.tuple [])])])]), (.tuple [(.str "e"), (.list [(.tuple [(.str "e"), (.tuple [])])])]), (.tuple [(.str "x"), (.tuple [(.tuple [(.str "e"), (.tuple [])])])]), (.tuple [(.str "e"), (.tuple [(.tuple [(.str "x"), (.tuple [])])])]), (.tuple [(.str "e"), (.tuple [(.tuple [(.str "e")])])])]))
theorem e__law_wrong_groups  : F__law_wrong_groups [] = P__law_wrong_groups  := by
 show Kt.top.k (g__law_wrong_groups [.un, .un, .un, .un, .un]) = _
 unfold P__law_wrong_groups
 exact (q_seq (q_set (.tuple [(.str "e"), (.tuple [])]) (by kernel_rfl) (q_nx [.va (.tuple [(.str "e"), (.tuple [])]), .un, .un, .un, .un] rfl (q_seq (q_set (.tuple [(.str "e"), (.tuple [])]) (by kernel_rfl) (q_nx [.va (.tuple [(.str "e"), (.tuple [])]), .va (.tuple [(.str "e"), (.tuple [])]), .un, .un, .un] rfl (q_seq (q_for (by kernel_rfl) fun items_1 => (by
 refine for_sim (bodyP := P__law_wrong_groups_l1) (tk := (kN 2)) (fun (s_2 : PD) ρ => ∃ j_3 j_4 j_5, ρ = [.va (.tuple [(.str "e"), (.tuple [])]), .va s_2, j_3, j_4, j_5]) tge_n ?_ (by exact rfl) ?_ _ (.tuple [(.str "e"), (.tuple [])]) _ ⟨.un, .un, .un, rfl⟩
 · intro K_32 hr_9 k_17 s_6 r_30 next_7 brk_8 hf_31 hn_10 hc_11 hb_12; obtain ⟨j_13, j_14, j_15, rfl⟩ := hf_31; unfold P__law_wrong_groups_l1; exact (q_kN (q_at [.va (.tuple [(.str "e"), (.tuple [])]), .va s_6, .va k_17, j_14, j_15] rfl (q_set (.tuple [(.str "e"), (.tuple [s_6])]) (by kernel_rfl) (hn_10 (.tuple [(.str "e"), (.tuple [s_6])]) _ ⟨.va k_17, j_14, j_15, rfl⟩))))
 · intro s_18 r_30 hf_31; obtain ⟨j_19, j_20, j_21, rfl⟩ := hf_31; exact (q_nx [.va (.tuple [(.str "e"), (.tuple [])]), .va s_18, j_19, j_20, j_21] rfl (q_seq (q_setB (by kernel_rfl) fun wide_24 => (q_nx [.va (.tuple [(.str "e"), (.tuple [])]), .va s_18, j_19, .va wide_24, j_21] rfl (q_seq (q_set (.list [.none, (.tuple []), (.str "e"), (.tuple [(.str "e")]), (.tuple [(.str "e"), (.tuple [])]), (.list [(.str "e"), (.tuple [(.tuple [(.str "e"), (.tuple [])])])]), (.tuple [(.str "e"), (.list [(.tuple [(.str "e"), (.tuple [])])])]), (.tuple [(.str "x"), (.tuple [(.tuple [(.str "e"), (.tuple [])])])]), (.tuple [(.str "e"), (.tuple [(.tuple [(.str "x"), (.tuple [])])])]), (.tuple [(.str "e"), (.tuple [(.tuple [(.str "e")])])])]) (by kernel_rfl) (q_nx [.va (.tuple [(.str "e"), (.tuple [])]), .va s_18, j_19, .va wide_24, .va (.list [.none, (.tuple []), (.str "e"), (.tuple [(.str "e")]), (.tuple [(.str "e"), (.tuple [])]), (.list [(.str "e"), (.tuple [(.tuple [(.str "e"), (.tuple [])])])]), (.tuple [(.str "e"), (.list [(.tuple [(.str "e"), (.tuple [])])])]), (.tuple [(.str "x"), (.tuple [(.tuple [(.str "e"), (.tuple [])])])]), (.tuple [(.str "e"), (.tuple [(.tuple [(.str "x"), (.tuple [])])])]), (.tuple [(.str "e"), (.tuple [(.tuple [(.str "e")])])])])] rfl (q_retT rfl (by kernel_rfl))))))))))))))))))
def P__law_same (told_1 : PD) (due_2 : PD) : R PD := (eqD told_1 due_2).bind fun a_3 => (tru a_3).bind fun b_4 => if b_4 = true then (reprD [told_1]).bind fun a_5 => (reprD [due_2]).bind (eqD a_5) else .ok a_3
theorem e__law_same (told_1 : PD) (due_2 : PD) : F__law_same [told_1, due_2] = P__law_same told_1 due_2 := by
 show Kt.top.k (g__law_same [.va told_1, .va due_2]) = _
 unfold P__law_same
 exact (q_retT rfl (by kernel_rfl))
def P_is_cord (value_1 : PD) : R PD := if (!(PyData.isStr value_1)) = true then .ok (.bool false) else ((chk (isS value_1) (splitD value_1 (.str "/"))).bind fun l_2 => .ok (.list l_2)).bind fun words_3 => (((lenD [words_3]).bind fun a_4 => gtD a_4 (.int 5)).bind asB).bind fun b_15 => if b_15 = true then .ok (.bool false) else ((((((((negD (.int 1)).bind optI).bind (slD words_3 none)).bind itD).bind fun items_6 => lcP items_6 fun word_7 => (F__is_high [word_7]).sm).bind fun l_8 => .ok (.list l_8)).bind fun a_9 => .ok [a_9]).bind allD).bind fun a_10 => (tru a_10).bind fun b_11 => if b_11 = true then (((negD (.int 1)).bind (ixD words_3)).bind fun a_13 => .ok [a_13]).bind fun ds_14 => chk (ds_14.length == 1) (F__are_units ds_14) else .ok a_10
theorem e_is_cord (value_1 : PD) : F_is_cord [value_1] = P_is_cord value_1 := by
 show Kt.top.k (g_is_cord [.va value_1, .un, .un]) = _
 unfold P_is_cord
 exact (q_seq (q_ifo (by kernel_rfl) (q_retT rfl (by kernel_rfl)) (q_nx [.va value_1, .un, .un] rfl (q_seq (q_setB (by kernel_rfl) fun words_3 => (q_nx [.va value_1, .va words_3, .un] rfl (q_seq (q_if (by kernel_rfl) (q_retT rfl (by kernel_rfl)) (q_nx [.va value_1, .va words_3, .un] rfl (q_retT rfl (by kernel_rfl)))))))))))
def P__law_path_l1 (rows_1 : PD) : PD → (PD × PD) → ((PD × PD) → R PD) → ((PD × PD) → R PD) → R PD := fun k_19 s_8 next_9 brk_10 => ((gtD s_8.1 (.int 0)).bind asB).bind fun b_30 => if b_30 = true then (F__law_parent [rows_1, s_8.1]).bind fun above_20 => (((((((((rg2 (.int 1) s_8.1).bind fun items_21 => lcP items_21 fun j_22 => (((F__law_parent [rows_1, j_22]).bind fun a_23 => eqD a_23 above_20).bind asB).whn (.ok (some j_22))).bind fun l_24 => .ok (.list l_24)).bind fun a_25 => .ok [a_25]).bind lenD).bind fun a_26 => .ok [a_26]).bind mkL).bind fun l_27 => .ok (.list l_27)).bind fun a_28 => addD a_28 s_8.2).bind fun path_29 => next_9 (above_20, path_29) else next_9 (s_8.1, s_8.2)
def P__law_path (rows_1 : PD) (at_2 : PD) : R PD := (rg1 (.int 5)).bind fun items_3 => forK (P__law_path_l1 rows_1) items_3 (at_2, (.list [])) fun s_31 => tupD [s_31.2]
theorem e__law_path (rows_1 : PD) (at_2 : PD) : F__law_path [rows_1, at_2] = P__law_path rows_1 at_2 := by
 show Kt.top.k (g__law_path [.va rows_1, .va at_2, .un, .un, .un, .un]) = _
 unfold P__law_path
 exact (q_seq (q_set (.list []) (by kernel_rfl) (q_nx [.va rows_1, .va at_2, .va (.list []), .un, .un, .un] rfl (q_seq (q_for (by kernel_rfl) fun items_3 => (by
 refine for_sim (bodyP := P__law_path_l1 rows_1) (tk := (kN 3)) (fun (s_4 : PD × PD) ρ => ∃ j_5 j_6 j_7, ρ = [.va rows_1, .va s_4.1, .va s_4.2, j_5, j_6, j_7]) tge_n ?_ (by exact rfl) ?_ _ (at_2, (.list [])) _ ⟨.un, .un, .un, rfl⟩
 · intro K_37 hr_11 k_19 s_8 r_35 next_9 brk_10 hf_36 hn_12 hc_13 hb_14; obtain ⟨j_15, j_16, j_17, rfl⟩ := hf_36; unfold P__law_path_l1; exact (q_kN (q_at [.va rows_1, .va s_8.1, .va s_8.2, .va k_19, j_16, j_17] rfl (q_if (by kernel_rfl) (q_seq (q_setB (by kernel_rfl) fun above_20 => (q_nx [.va rows_1, .va s_8.1, .va s_8.2, .va k_19, .va above_20, j_17] rfl (q_seq (q_setB (by kernel_rfl) fun path_29 => (q_nx [.va rows_1, .va s_8.1, .va path_29, .va k_19, .va above_20, j_17] rfl (q_set above_20 (by kernel_rfl) (hn_12 (above_20, path_29) _ ⟨.va k_19, .va above_20, j_17, rfl⟩)))))))) (hn_12 (s_8.1, s_8.2) _ ⟨.va k_19, j_16, j_17, rfl⟩))))
 · intro s_31 r_35 hf_36; obtain ⟨j_32, j_33, j_34, rfl⟩ := hf_36; exact (q_nx [.va rows_1, .va s_31.1, .va s_31.2, j_32, j_33, j_34] rfl (q_retT rfl (by kernel_rfl)))))))))
def P__paths_l1 (S : List PD → R PD)  (path_2 : PD) : PD → (List PD) → ((List PD) → R PD) → ((List PD) → R PD) → R PD := fun d_18 s_8 next_9 brk_10 => un2 .bad d_18 fun number_19 one_20 => (((((addD path_2 (.tuple [number_19])).bind fun a_21 => .ok [a_21]).bind mkL).bind fun l_22 => .ok (.list l_22)).bind fun a_23 => (((ixD one_20 (.int 1)).bind fun a_25 => ((addD path_2 (.tuple [number_19])).bind fun a_24 => .ok [a_24]).bind fun ds_26 => .ok (a_25 :: ds_26)).bind fun ds_27 => chk (ds_27.length == 2) (S ds_27)).bind (addD a_23)).bind fun d_30 => extK s_8 d_30 fun found_29 => next_9 found_29
def P__paths (S : List PD → R PD) (hung_1 : PD) (path_2 : PD) : R PD := (enmL hung_1).bind fun items_3 => forK ((P__paths_l1 S) path_2) items_3 [] fun s_31 => .ok (.list s_31)
theorem e__paths_s (S : List PD → R PD) (hung_1 : PD) (path_2 : PD) : fin (g__paths S (startE 5 [hung_1, path_2])) = P__paths S hung_1 path_2 := by
 show Kt.top.k (g__paths S [.va hung_1, .va path_2, .un, .un, .un]) = _
 unfold P__paths
 exact (q_seq (q_setL [] (by kernel_rfl) (q_nx [.va hung_1, .va path_2, .ol [], .un, .un] rfl (q_seq (q_for (by kernel_rfl) fun items_3 => (by
 refine for_sim (bodyP := (P__paths_l1 S) path_2) (tk := (k2 (kN 3) (kN 4))) (fun (s_4 : List PD) ρ => ∃ j_5 j_6 j_7, ρ = [j_5, .va path_2, .ol s_4, j_6, j_7]) (tge_2 tge_n tge_n) ?_ (by exact rfl) ?_ _ [] _ ⟨.va hung_1, .un, .un, rfl⟩
 · intro K_37 hr_11 d_18 s_8 r_35 next_9 brk_10 hf_36 hn_12 hc_13 hb_14; obtain ⟨j_15, j_16, j_17, rfl⟩ := hf_36; unfold P__paths_l1; exact (q_k2 fun number_19 one_20 => (q_kN (q_kN (q_at [j_15, .va path_2, .ol s_8, .va number_19, .va one_20] rfl (q_ext rfl (by kernel_rfl) fun found_29 => (hn_12 found_29 _ ⟨j_15, .va number_19, .va one_20, rfl⟩))))))
 · intro s_31 r_35 hf_36; obtain ⟨j_32, j_33, j_34, rfl⟩ := hf_36; exact (q_nx [j_32, .va path_2, .ol s_31, j_33, j_34] rfl (q_frz (q_at [j_32, .va path_2, .va (.list s_31), j_33, j_34] rfl (q_retT rfl (by kernel_rfl)))))))))))
theorem e__paths (n : Nat) (hung_1 : PD) (path_2 : PD) : F__paths_n (n + 1) [hung_1, path_2] = P__paths (F__paths_n n) hung_1 path_2 := e__paths_s (F__paths_n n) hung_1 path_2
def P__with_part (S : List PD → R PD) (part_1 : PD) (path_2 : PD) (new_3 : PD) : R PD := (((lenD [path_2]).bind fun a_4 => eqD a_4 (.int 0)).bind asB).bind fun b_21 => if b_21 = true then .ok new_3 else (ixD path_2 (.int 0)).bind fun number_5 => (ixD part_1 (.int 1)).bind fun hung_6 => ((ixD part_1 (.int 0)).bind fun a_19 => (((((optI number_5).bind (slD hung_6 none)).bind fun a_8 => (((((ixD hung_6 number_5).bind fun a_10 => ((slD path_2 (some 1) none).bind fun a_9 => .ok [a_9, new_3]).bind fun ds_11 => .ok (a_10 :: ds_11)).bind fun ds_12 => chk (ds_12.length == 3) (S ds_12)).bind fun a_13 => .ok [a_13]).bind mkT).bind (addD a_8)).bind fun a_15 => (((addD number_5 (.int 1)).bind optI).bind fun i_16 => slD hung_6 i_16 none).bind (addD a_15)).bind fun a_18 => .ok [a_18]).bind fun ds_20 => .ok (a_19 :: ds_20)).bind mkT
theorem e__with_part_s (S : List PD → R PD) (part_1 : PD) (path_2 : PD) (new_3 : PD) : fin (g__with_part S (startE 5 [part_1, path_2, new_3])) = P__with_part S part_1 path_2 new_3 := by
 show Kt.top.k (g__with_part S [.va part_1, .va path_2, .va new_3, .un, .un]) = _
 unfold P__with_part
 exact (q_seq (q_if (by kernel_rfl) (q_retT rfl (by kernel_rfl)) (q_nx [.va part_1, .va path_2, .va new_3, .un, .un] rfl (q_seq (q_par (by kernel_rfl) (by kernel_rfl) fun number_5 hung_6 => (q_nx [.va part_1, .va path_2, .va new_3, .va number_5, .va hung_6] rfl (q_retT rfl (by kernel_rfl))))))))
theorem e__with_part (n : Nat) (part_1 : PD) (path_2 : PD) (new_3 : PD) : F__with_part_n (n + 1) [part_1, path_2, new_3] = P__with_part (F__with_part_n n) part_1 path_2 new_3 := e__with_part_s (F__with_part_n n) part_1 path_2 new_3
def P_all_paths (group_1 : PD) : R PD := (((ixD group_1 (.int 1)).bind fun a_2 => .ok [a_2, (.tuple [])]).bind fun ds_3 => chk (ds_3.length == 2) (F__paths ds_3)).bind (addD (.list [(.tuple [])]))
theorem e_all_paths (group_1 : PD) : F_all_paths [group_1] = P_all_paths group_1 := by
 show Kt.top.k (g_all_paths [.va group_1]) = _
 unfold P_all_paths
 exact (q_retT rfl (by kernel_rfl))
def P__total (S : List PD → R PD) (part_1 : PD) : R PD := (((((ixD part_1 (.int 0)).bind fun a_2 => .ok [a_2]).bind fun ds_3 => chk (ds_3.length == 1) (F_figures_on ds_3)).bind fun a_4 => .ok [a_4]).bind fun ds_5 => chk (ds_5.length == 1) (F_number_by ds_5)).bind fun a_6 => ((((((ixD part_1 (.int 1)).bind itD).bind fun items_7 => lcP items_7 fun one_8 => (S [one_8]).sm).bind fun l_9 => .ok (.list l_9)).bind fun a_10 => .ok [a_10]).bind sumD).bind (addD a_6)
theorem e__total_s (S : List PD → R PD) (part_1 : PD) : fin (g__total S (startE 2 [part_1])) = P__total S part_1 := by
 show Kt.top.k (g__total S [.va part_1, .un]) = _
 unfold P__total
 exact (q_retT rfl (by kernel_rfl))
theorem e__total (n : Nat) (part_1 : PD) : F__total_n (n + 1) [part_1] = P__total (F__total_n n) part_1 := e__total_s (F__total_n n) part_1
def P__law_tree (S : List PD → R PD) (rows_1 : PD) (at_2 : PD) : R PD := (((((addD at_2 (.int 1)).bind fun a_3 => (lenD [rows_1]).bind (rg2 a_3)).bind fun items_5 => lcP items_5 fun k_6 => (((F__law_parent [rows_1, k_6]).bind fun a_7 => eqD a_7 at_2).bind asB).whn (((((((ixD rows_1 k_6).bind fun a_8 => ixD a_8 (.int 1)).bind fun a_9 => .ok [a_9]).bind fun ds_10 => chk (ds_10.length == 1) (F__law_cord ds_10)).bind fun a_12 => ((S [rows_1, k_6]).bind fun a_11 => .ok [a_11]).bind fun ds_13 => .ok (a_12 :: ds_13)).bind mkT).sm)).bind fun l_14 => .ok (.list l_14)).bind fun a_15 => .ok [a_15]).bind tupD
theorem e__law_tree_s (S : List PD → R PD) (rows_1 : PD) (at_2 : PD) : fin (g__law_tree S (startE 3 [rows_1, at_2])) = P__law_tree S rows_1 at_2 := by
 show Kt.top.k (g__law_tree S [.va rows_1, .va at_2, .un]) = _
 unfold P__law_tree
 exact (q_retT rfl (by kernel_rfl))
theorem e__law_tree (n : Nat) (rows_1 : PD) (at_2 : PD) : F__law_tree_n (n + 1) [rows_1, at_2] = P__law_tree (F__law_tree_n n) rows_1 at_2 := e__law_tree_s (F__law_tree_n n) rows_1 at_2
def P__are_hung_l1 (S : List PD → R PD)  (deep_2 : PD) : PD → Unit → (Unit → R PD) → (Unit → R PD) → R PD := fun one_21 s_11 next_12 brk_13 => (if (!(PyData.isTuple one_21)) = true then .ok true else (((lenD [one_21]).bind fun a_22 => neD a_22 (.int 2)).bind asB).bind fun b_23 => if b_23 = true then .ok true else (((((ixD one_21 (.int 0)).bind fun a_24 => .ok [a_24]).bind fun ds_25 => chk (ds_25.length == 1) (F_is_cord ds_25)).bind tru).bind fun b_26 => .ok (!b_26)).bind fun b_27 => if b_27 = true then .ok true else ((((ixD one_21 (.int 1)).bind fun a_29 => ((subD deep_2 (.int 1)).bind fun a_28 => .ok [a_28]).bind fun ds_30 => .ok (a_29 :: ds_30)).bind fun ds_31 => chk (ds_31.length == 2) (S ds_31)).bind tru).bind fun b_32 => .ok (!b_32)).bind fun b_33 => if b_33 = true then .ok (.bool false) else next_12 ()
def P__are_hung (S : List PD → R PD) (value_1 : PD) (deep_2 : PD) : R PD := (if (!(PyData.isTuple value_1)) = true then .ok true else (((lenD [value_1]).bind fun a_3 => gtD a_3 (.int 5)).bind asB).bind fun b_4 => if b_4 = true then .ok true else (((lenD [value_1]).bind fun a_5 => gtD a_5 (.int 0)).bind asB).bind fun b_6 => if b_6 = true then (eqD deep_2 (.int 0)).bind asB else .ok false).bind fun b_40 => if b_40 = true then .ok (.bool false) else (itD value_1).bind fun items_7 => forK ((P__are_hung_l1 S) deep_2) items_7 () fun s_34 => .ok (.bool true)
theorem e__are_hung_s (S : List PD → R PD) (value_1 : PD) (deep_2 : PD) : fin (g__are_hung S (startE 3 [value_1, deep_2])) = P__are_hung S value_1 deep_2 := by
 show Kt.top.k (g__are_hung S [.va value_1, .va deep_2, .un]) = _
 unfold P__are_hung
 exact (q_seq (q_if (by kernel_rfl) (q_retT rfl (by kernel_rfl)) (q_nx [.va value_1, .va deep_2, .un] rfl (q_seq (q_for (by kernel_rfl) fun items_7 => (by
 refine for_sim (bodyP := (P__are_hung_l1 S) deep_2) (tk := (kN 2)) (fun (s_8 : Unit) ρ => ∃ j_9 j_10, ρ = [j_9, .va deep_2, j_10]) tge_n ?_ (by exact rfl) ?_ _ () _ ⟨.va value_1, .un, rfl⟩
 · intro K_39 hr_14 one_21 s_11 r_37 next_12 brk_13 hf_38 hn_15 hc_16 hb_17; obtain ⟨j_18, j_19, rfl⟩ := hf_38; unfold P__are_hung_l1; exact (q_kN (q_at [j_18, .va deep_2, .va one_21] rfl (q_if (by kernel_rfl) (q_retT hr_14 (by kernel_rfl)) (hn_15 () _ ⟨j_18, .va one_21, rfl⟩))))
 · intro s_34 r_37 hf_38; obtain ⟨j_35, j_36, rfl⟩ := hf_38; exact (q_nx [j_35, .va deep_2, j_36] rfl (q_retT rfl (by kernel_rfl)))))))))
theorem e__are_hung (n : Nat) (value_1 : PD) (deep_2 : PD) : F__are_hung_n (n + 1) [value_1, deep_2] = P__are_hung (F__are_hung_n n) value_1 deep_2 := e__are_hung_s (F__are_hung_n n) value_1 deep_2
def P_check_path (group_1 : PD) (path_2 : PD) : R PD := (if (!(PyData.isTuple path_2)) = true then .ok true else ((lenD [path_2]).bind fun a_3 => gtD a_3 (.int 4)).bind asB).bind fun b_12 => if b_12 = true then .ex "BadPath" [] else ((((((((itD path_2).bind fun items_4 => lcP items_4 fun one_5 => (F_is_whole [one_5, (.int 0), (.int 5)]).sm).bind fun l_6 => .ok (.list l_6)).bind fun a_7 => .ok [a_7]).bind allD).bind tru).bind fun b_8 => .ok (!b_8)).bind fun b_9 => if b_9 = true then .ok true else ((F_all_paths [group_1]).bind (notinS path_2)).bind asB).bind fun b_11 => if b_11 = true then .ex "BadPath" [] else .ok .none
theorem e_check_path (group_1 : PD) (path_2 : PD) : F_check_path [group_1, path_2] = P_check_path group_1 path_2 := by
 show Kt.top.k (g_check_path [.va group_1, .va path_2, .un]) = _
 unfold P_check_path
 exact (q_seq (q_if (by kernel_rfl) (q_exc "BadPath") (q_nx [.va group_1, .va path_2, .un] rfl (q_if (by kernel_rfl) (q_exc "BadPath") rfl))))
def P_gap_in (group_1 : PD) : R PD := (((((ixD group_1 (.int 0)).bind fun a_2 => .ok [a_2]).bind fun ds_3 => chk (ds_3.length == 1) (F_figures_on ds_3)).bind fun a_4 => .ok [a_4]).bind fun ds_5 => chk (ds_5.length == 1) (F_number_by ds_5)).bind fun a_6 => ((((((ixD group_1 (.int 1)).bind itD).bind fun items_7 => lcP items_7 fun one_8 => (F__total [one_8]).sm).bind fun l_9 => .ok (.list l_9)).bind fun a_10 => .ok [a_10]).bind sumD).bind (subD a_6)
theorem e_gap_in (group_1 : PD) : F_gap_in [group_1] = P_gap_in group_1 := by
 show Kt.top.k (g_gap_in [.va group_1, .un]) = _
 unfold P_gap_in
 exact (q_retT rfl (by kernel_rfl))
def P__law_made (rows_1 : PD) : R PD := (((((ixD rows_1 (.int 0)).bind fun a_2 => ixD a_2 (.int 1)).bind fun a_3 => .ok [a_3]).bind fun ds_4 => chk (ds_4.length == 1) (F__law_cord ds_4)).bind fun a_6 => ((F__law_tree [rows_1, (.int 0)]).bind fun a_5 => .ok [a_5]).bind fun ds_7 => .ok (a_6 :: ds_7)).bind mkT
theorem e__law_made (rows_1 : PD) : F__law_made [rows_1] = P__law_made rows_1 := by
 show Kt.top.k (g__law_made [.va rows_1]) = _
 unfold P__law_made
 exact (q_retT rfl (by kernel_rfl))
def P_is_group (value_1 : PD) : R PD := (if (!(PyData.isTuple value_1)) = true then .ok true else (((lenD [value_1]).bind fun a_2 => neD a_2 (.int 2)).bind asB).bind fun b_3 => if b_3 = true then .ok true else ((((ixD value_1 (.int 0)).bind fun a_4 => .ok [a_4]).bind fun ds_5 => chk (ds_5.length == 1) (F_is_cord ds_5)).bind tru).bind fun b_6 => .ok (!b_6)).bind fun b_18 => if b_18 = true then .ok (.bool false) else ((((((ixD value_1 (.int 1)).bind fun a_7 => .ok [a_7, (.int 4)]).bind fun ds_8 => chk (ds_8.length == 2) (F__are_hung ds_8)).bind tru).bind fun b_9 => .ok (!b_9)).bind fun b_10 => if b_10 = true then .ok true else ((((ixD value_1 (.int 1)).bind fun a_11 => .ok [a_11]).bind lenD).bind fun a_12 => eqD a_12 (.int 0)).bind asB).bind fun b_17 => if b_17 = true then .ok (.bool false) else (((((ixD value_1 (.int 1)).bind fun a_13 => .ok [a_13, (.tuple [])]).bind fun ds_14 => chk (ds_14.length == 2) (F__paths ds_14)).bind fun a_15 => .ok [a_15]).bind lenD).bind fun a_16 => leD a_16 (.int 12)
theorem e_is_group (value_1 : PD) : F_is_group [value_1] = P_is_group value_1 := by
 show Kt.top.k (g_is_group [.va value_1]) = _
 unfold P_is_group
 exact (q_seq (q_if (by kernel_rfl) (q_retT rfl (by kernel_rfl)) (q_nx [.va value_1] rfl (q_seq (q_if (by kernel_rfl) (q_retT rfl (by kernel_rfl)) (q_nx [.va value_1] rfl (q_retT rfl (by kernel_rfl))))))))
def P__law_due (rows_1 : PD) (at_2 : PD) (to_3 : PD) : R PD := ((addD at_2 (.int 1)).bind fun a_4 => ((((((addD at_2 (.int 1)).bind fun a_5 => (lenD [rows_1]).bind (rg2 a_5)).bind fun items_7 => lcP items_7 fun k_8 => (((((((((addD at_2 (.int 1)).bind optI).bind fun i_9 => ((addD k_8 (.int 1)).bind optI).bind (slD rows_1 i_9)).bind itD).bind fun items_11 => lcP items_11 fun row_12 => ((ixD row_12 (.int 0)).bind fun a_13 => ((ixD rows_1 at_2).bind fun a_14 => ixD a_14 (.int 0)).bind (gtD a_13)).sm).bind fun l_16 => .ok (.list l_16)).bind fun a_17 => .ok [a_17]).bind allD).bind tru).whn (.ok (some k_8))).bind fun l_18 => .ok (.list l_18)).bind fun a_19 => .ok [a_19]).bind lenD).bind (addD a_4)).bind fun end_21 => (((leD at_2 to_3).bind fun z_22 => (asB z_22).bind fun k_23 => if k_23 = true then ltD to_3 end_21 else .ok (.bool false)).bind asB).bind fun b_90 => if b_90 = true then .ok (.tuple [(.str "within")]) else (((((optI at_2).bind fun i_24 => (optI end_21).bind (slD rows_1 i_24)).bind itD).bind fun items_26 => lcP items_26 fun row_27 => ((((((ixD row_27 (.int 0)).bind fun a_28 => ((ixD rows_1 at_2).bind fun a_29 => ixD a_29 (.int 0)).bind (subD a_28)).bind fun a_31 => ((ixD rows_1 to_3).bind fun a_32 => ixD a_32 (.int 0)).bind (addD a_31)).bind fun a_34 => addD a_34 (.int 1)).bind fun a_36 => ((ixD row_27 (.int 1)).bind fun a_35 => .ok [a_35]).bind fun ds_37 => .ok (a_36 :: ds_37)).bind mkT).sm).bind fun l_38 => .ok (.list l_38)).bind fun own_39 => ((addD to_3 (.int 1)).bind fun a_40 => ((((((addD to_3 (.int 1)).bind fun a_41 => (lenD [rows_1]).bind (rg2 a_41)).bind fun items_43 => lcP items_43 fun k_44 => (((((((((addD to_3 (.int 1)).bind optI).bind fun i_45 => ((addD k_44 (.int 1)).bind optI).bind (slD rows_1 i_45)).bind itD).bind fun items_47 => lcP items_47 fun row_48 => ((ixD row_48 (.int 0)).bind fun a_49 => ((ixD rows_1 to_3).bind fun a_50 => ixD a_50 (.int 0)).bind (gtD a_49)).sm).bind fun l_52 => .ok (.list l_52)).bind fun a_53 => .ok [a_53]).bind allD).bind tru).whn (.ok (some k_44))).bind fun l_54 => .ok (.list l_54)).bind fun a_55 => .ok [a_55]).bind lenD).bind (addD a_40)).bind fun last_57 => (((rg1 last_57).bind fun items_58 => lcP items_58 fun k_59 => (((ltD k_59 at_2).bind asB).bind fun b_60 => if b_60 = true then .ok true else (geD k_59 end_21).bind asB).whn ((ixD rows_1 k_59).sm)).bind fun l_61 => .ok (.list l_61)).bind fun left_62 => ((addD left_62 own_39).bind fun a_63 => ((((lenD [rows_1]).bind (rg2 last_57)).bind fun items_65 => lcP items_65 fun k_66 => (((ltD k_66 at_2).bind asB).bind fun b_67 => if b_67 = true then .ok true else (geD k_66 end_21).bind asB).whn ((ixD rows_1 k_66).sm)).bind fun l_68 => .ok (.list l_68)).bind (addD a_63)).bind fun new_70 => ((((lenD [new_70]).bind (rg2 (.int 1))).bind fun items_72 => lcP items_72 fun k_73 => (((F__law_parent [new_70, k_73]).bind fun a_74 => (((ltD to_3 at_2).bind asB).bind fun b_75 => if b_75 = true then .ok to_3 else (subD end_21 at_2).bind (subD to_3)).bind (eqD a_74)).bind asB).whn (.ok (some k_73))).bind fun l_78 => .ok (.list l_78)).bind fun sons_79 => ((((((((itD new_70).bind fun items_80 => lcP items_80 fun row_81 => (ixD row_81 (.int 0)).sm).bind fun l_82 => .ok (.list l_82)).bind fun a_83 => .ok [a_83]).bind maxD1).bind fun a_84 => ltD a_84 (.int 5)).bind asB).bind fun b_85 => if b_85 = true then ((lenD [sons_79]).bind fun a_86 => ltD a_86 (.int 6)).bind asB else .ok false).bind fun b_87 => if b_87 = true then (((F__law_made [new_70]).bind fun a_88 => .ok [a_88]).bind fun ds_89 => .ok ((.str "told") :: ds_89)).bind mkT else .ok (.tuple [(.str "group")])
theorem e__law_due (rows_1 : PD) (at_2 : PD) (to_3 : PD) : F__law_due [rows_1, at_2, to_3] = P__law_due rows_1 at_2 to_3 := by
 show Kt.top.k (g__law_due [.va rows_1, .va at_2, .va to_3, .un, .un, .un, .un, .un, .un, .un, .un]) = _
 unfold P__law_due
 exact (q_seq (q_setB (by kernel_rfl) fun end_21 => (q_nx [.va rows_1, .va at_2, .va to_3, .va end_21, .un, .un, .un, .un, .un, .un, .un] rfl (q_seq (q_if (by kernel_rfl) (q_retT rfl (by kernel_rfl)) (q_nx [.va rows_1, .va at_2, .va to_3, .va end_21, .un, .un, .un, .un, .un, .un, .un] rfl (q_seq (q_setB (by kernel_rfl) fun own_39 => (q_nx [.va rows_1, .va at_2, .va to_3, .va end_21, .va own_39, .un, .un, .un, .un, .un, .un] rfl (q_seq (q_setB (by kernel_rfl) fun last_57 => (q_nx [.va rows_1, .va at_2, .va to_3, .va end_21, .va own_39, .va last_57, .un, .un, .un, .un, .un] rfl (q_seq (q_setB (by kernel_rfl) fun left_62 => (q_nx [.va rows_1, .va at_2, .va to_3, .va end_21, .va own_39, .va last_57, .va left_62, .un, .un, .un, .un] rfl (q_seq (q_setB (by kernel_rfl) fun new_70 => (q_nx [.va rows_1, .va at_2, .va to_3, .va end_21, .va own_39, .va last_57, .va left_62, .va new_70, .un, .un, .un] rfl (q_seq (q_setB (by kernel_rfl) fun sons_79 => (q_nx [.va rows_1, .va at_2, .va to_3, .va end_21, .va own_39, .va last_57, .va left_62, .va new_70, .va sons_79, .un, .un] rfl (q_retT rfl (by kernel_rfl)))))))))))))))))))))))
def P_check_group (group_1 : PD) : R PD := (((F_is_group [group_1]).bind tru).bind fun b_2 => .ok (!b_2)).bind fun b_3 => if b_3 = true then .ex "BadGroup" [] else .ok .none
theorem e_check_group (group_1 : PD) : F_check_group [group_1] = P_check_group group_1 := by
 show Kt.top.k (g_check_group [.va group_1]) = _
 unfold P_check_group
 exact (q_if (by kernel_rfl) (q_exc "BadGroup") rfl)
def P_gap_of (group_1 : PD) : R PD := (F_check_group [group_1]).bind fun _ => F_gap_in [group_1]
theorem e_gap_of (group_1 : PD) : F_gap_of [group_1] = P_gap_of group_1 := by
 show Kt.top.k (g_gap_of [.va group_1]) = _
 unfold P_gap_of
 exact (q_seq (q_drop (by kernel_rfl) (q_nx [.va group_1] rfl (q_retT rfl (by kernel_rfl)))))
def P_with_head (group_1 : PD) : R PD := (F_check_group [group_1]).bind fun _ => ((((((ixD group_1 (.int 1)).bind itD).bind fun items_2 => lcP items_2 fun one_3 => (F__total [one_3]).sm).bind fun l_4 => .ok (.list l_4)).bind fun a_5 => .ok [a_5]).bind sumD).bind fun number_6 => (((((((ixD group_1 (.int 0)).bind fun a_7 => .ok [a_7]).bind fun ds_8 => chk (ds_8.length == 1) (F_figures_on ds_8)).bind fun a_9 => .ok [a_9]).bind lenD).bind fun a_12 => ((((strD [number_6]).bind fun a_10 => .ok [a_10]).bind lenD).bind fun a_11 => .ok [a_11]).bind fun ds_13 => .ok (a_12 :: ds_13)).bind maxD1).bind fun places_14 => ((gtD places_14 (.int 5)).bind asB).bind fun b_20 => if b_20 = true then .ex "TooMany" [] else ((((F_figures_for [number_6, places_14]).bind fun a_15 => .ok [a_15]).bind fun ds_16 => chk (ds_16.length == 1) (F_cord_with ds_16)).bind fun a_18 => ((ixD group_1 (.int 1)).bind fun a_17 => .ok [a_17]).bind fun ds_19 => .ok (a_18 :: ds_19)).bind mkT
theorem e_with_head (group_1 : PD) : F_with_head [group_1] = P_with_head group_1 := by
 show Kt.top.k (g_with_head [.va group_1, .un, .un, .un]) = _
 unfold P_with_head
 exact (q_seq (q_drop (by kernel_rfl) (q_nx [.va group_1, .un, .un, .un] rfl (q_seq (q_setB (by kernel_rfl) fun number_6 => (q_nx [.va group_1, .va number_6, .un, .un] rfl (q_seq (q_setB (by kernel_rfl) fun places_14 => (q_nx [.va group_1, .va number_6, .va places_14, .un] rfl (q_seq (q_if (by kernel_rfl) (q_exc "TooMany") (q_nx [.va group_1, .va number_6, .va places_14, .un] rfl (q_retT rfl (by kernel_rfl))))))))))))))
def P_moved_cord (group_1 : PD) (path_2 : PD) (place_3 : PD) : R PD := (F_check_group [group_1]).bind fun _ => (F_check_path [group_1, path_2]).bind fun _ => (F_check_path [group_1, place_3]).bind fun _ => (((lenD [path_2]).bind fun a_4 => eqD a_4 (.int 0)).bind asB).bind fun b_43 => if b_43 = true then .ex "BadPath" [] else (((((lenD [path_2]).bind optI).bind (slD place_3 none)).bind fun a_6 => eqD a_6 path_2).bind asB).bind fun b_42 => if b_42 = true then .ex "Within" [] else (F_part_at [group_1, place_3]).bind fun d_7 => un2 .bad d_7 fun cord_8 hung_9 => (((((((((((F_part_at [group_1, path_2]).bind fun a_10 => .ok [a_10]).bind mkT).bind (addD hung_9)).bind fun a_12 => .ok [a_12]).bind fun ds_13 => .ok (cord_8 :: ds_13)).bind mkT).bind fun a_14 => .ok [a_14]).bind fun ds_15 => .ok (place_3 :: ds_15)).bind fun ds_16 => .ok (group_1 :: ds_16)).bind fun ds_17 => chk (ds_17.length == 3) (F__with_part ds_17)).bind fun new_18 => ((((((negD (.int 1)).bind optI).bind (slD path_2 none)).bind fun a_20 => .ok [a_20]).bind fun ds_21 => .ok (new_18 :: ds_21)).bind fun ds_22 => chk (ds_22.length == 2) (F_part_at ds_22)).bind fun d_23 => un2 .bad d_23 fun cord_24 hung_25 => ((((((negD (.int 1)).bind optI).bind (slD path_2 none)).bind fun a_37 => (((((((((negD (.int 1)).bind (ixD path_2)).bind optI).bind (slD hung_25 none)).bind fun a_29 => (((((negD (.int 1)).bind (ixD path_2)).bind fun a_31 => addD a_31 (.int 1)).bind optI).bind fun i_32 => slD hung_25 i_32 none).bind (addD a_29)).bind fun a_34 => .ok [a_34]).bind fun ds_35 => .ok (cord_24 :: ds_35)).bind mkT).bind fun a_36 => .ok [a_36]).bind fun ds_38 => .ok (a_37 :: ds_38)).bind fun ds_39 => .ok (new_18 :: ds_39)).bind fun ds_40 => chk (ds_40.length == 3) (F__with_part ds_40)).bind fun new_41 => (F_check_group [new_41]).bind fun _ => .ok new_41
theorem e_moved_cord (group_1 : PD) (path_2 : PD) (place_3 : PD) : F_moved_cord [group_1, path_2, place_3] = P_moved_cord group_1 path_2 place_3 := by
 show Kt.top.k (g_moved_cord [.va group_1, .va path_2, .va place_3, .un, .un, .un]) = _
 unfold P_moved_cord
 exact (q_seq (q_drop (by kernel_rfl) (q_nx [.va group_1, .va path_2, .va place_3, .un, .un, .un] rfl (q_seq (q_drop (by kernel_rfl) (q_nx [.va group_1, .va path_2, .va place_3, .un, .un, .un] rfl (q_seq (q_drop (by kernel_rfl) (q_nx [.va group_1, .va path_2, .va place_3, .un, .un, .un] rfl (q_seq (q_if (by kernel_rfl) (q_exc "BadPath") (q_nx [.va group_1, .va path_2, .va place_3, .un, .un, .un] rfl (q_seq (q_if (by kernel_rfl) (q_exc "Within") (q_nx [.va group_1, .va path_2, .va place_3, .un, .un, .un] rfl (q_seq (q_asg (k := (k2 (kN 3) (kN 4))) (tge_2 tge_n tge_n) (by kernel_rfl) fun d_7 => (q_k2 fun cord_8 hung_9 => (q_kN (q_kN (q_nx [.va group_1, .va path_2, .va place_3, .va cord_8, .va hung_9, .un] rfl (q_seq (q_setB (by kernel_rfl) fun new_18 => (q_nx [.va group_1, .va path_2, .va place_3, .va cord_8, .va hung_9, .va new_18] rfl (q_seq (q_asg (k := (k2 (kN 3) (kN 4))) (tge_2 tge_n tge_n) (by kernel_rfl) fun d_23 => (q_k2 fun cord_24 hung_25 => (q_kN (q_kN (q_nx [.va group_1, .va path_2, .va place_3, .va cord_24, .va hung_25, .va new_18] rfl (q_seq (q_setB (by kernel_rfl) fun new_41 => (q_nx [.va group_1, .va path_2, .va place_3, .va cord_24, .va hung_25, .va new_41] rfl (q_seq (q_drop (by kernel_rfl) (q_nx [.va group_1, .va path_2, .va place_3, .va cord_24, .va hung_25, .va new_41] rfl (q_retT rfl (by kernel_rfl))))))))))))))))))))))))))))))))))))))
def P__law_told (call_1 : PD) (group_2 : PD) (path_3 : PD) (place_4 : PD) : R PD := tryK excs (((((((eqD call_1 (.int 0)).bind asB).bind fun b_7 => if b_7 = true then F_with_head [group_2] else F_moved_cord [group_2, path_3, place_4]).bind fun a_8 => .ok [a_8]).bind fun ds_9 => .ok ((.str "told") :: ds_9)).bind mkT).bind fun d_10 => .ok (some d_10)) [("BadGroup", .ok (.tuple [(.str "group")])), ("BadPath", .ok (.tuple [(.str "path")])), ("Within", .ok (.tuple [(.str "within")])), ("TooMany", .ok (.tuple [(.str "many")]))] .ok (.ok .none)
theorem e__law_told (call_1 : PD) (group_2 : PD) (path_3 : PD) (place_4 : PD) : F__law_told [call_1, group_2, path_3, place_4] = P__law_told call_1 group_2 path_3 place_4 := by
 show Kt.top.k (g__law_told [.va call_1, .va group_2, .va path_3, .va place_4]) = _
 unfold P__law_told
 exact (by
 refine q_try (ret := .ok) (fun ρ => ρ = [.va call_1, .va group_2, .va path_3, .va place_4]) ?_ ?_ (.cons (fun _ => (K_rt rfl)) (.cons (fun _ => (K_rt rfl)) (.cons (fun _ => (K_rt rfl)) (.cons (fun _ => (K_rt rfl)) HdK.nil)))) (by exact rfl)
 · intro K_13 hr_5 hn_6; exact (q_retS hr_5 (by kernel_rfl))
 · intro r_11 hf_12; subst hf_12; exact rfl)
def P__law_refuses_l1  : PD → Unit → (Unit → R PD) → (Unit → R PD) → R PD := fun wrong_18 s_7 next_8 brk_9 => ((((lcP [(.int 0), (.int 1)] fun call_19 => (F__law_told [call_19, wrong_18, .none, .none]).sm).bind fun l_20 => .ok (.list l_20)).bind fun a_21 => ((repD [(.tuple [(.str "group")])] (.int 2)).bind fun l_22 => .ok (.list l_22)).bind (neD a_21)).bind asB).bind fun b_24 => if b_24 = true then .ok (.bool false) else next_8 ()
def P__law_refuses_l2 (group_1 : PD) : PD → Unit → (Unit → R PD) → (Unit → R PD) → R PD := fun wrong_50 s_39 next_40 brk_41 => ((((F__law_told [(.int 1), group_1, wrong_50, .none]).bind fun a_51 => neD a_51 (.tuple [(.str "path")])).bind asB).bind fun b_52 => if b_52 = true then .ok true else ((F__law_told [(.int 1), group_1, (.tuple [(.int 0)]), wrong_50]).bind fun a_53 => neD a_53 (.tuple [(.str "path")])).bind asB).bind fun b_54 => if b_54 = true then .ok (.bool false) else next_40 ()
def P__law_refuses (group_1 : PD) : R PD := ((F__law_wrong_groups []).bind itD).bind fun items_2 => forK (P__law_refuses_l1) items_2 () fun s_25 => (((((((((negD (.int 1)).bind fun a_29 => .ok [a_29]).bind mkT).bind fun a_30 => .ok [a_30, (.tuple [(.bool true)]), (.tuple [(.int 9)]), (.tuple [(.int 0), (.int 0), (.int 0), (.int 0), (.int 0)]), (.int 0), (.str "a")]).bind fun ds_31 => .ok ((.list [(.int 0)]) :: ds_31)).bind fun ds_32 => .ok ((.list []) :: ds_32)).bind fun ds_33 => .ok (.none :: ds_33)).bind mkT).bind itD).bind fun items_34 => forK (P__law_refuses_l2 group_1) items_34 () fun s_55 => ((((F__law_told [(.int 1), group_1, (.tuple []), (.tuple [])]).bind fun a_59 => neD a_59 (.tuple [(.str "path")])).bind asB).bind fun b_60 => if b_60 = true then .ok true else (((F__law_told [(.int 1), group_1, (.tuple []), (.tuple [(.int 0)])]).bind fun a_61 => neD a_61 (.tuple [(.str "path")])).bind asB).bind fun b_62 => if b_62 = true then .ok true else ((F__law_told [(.int 1), group_1, (.tuple [(.int 0)]), (.tuple [(.int 0)])]).bind fun a_63 => neD a_63 (.tuple [(.str "within")])).bind asB).bind fun b_81 => if b_81 = true then .ok (.bool false) else (((((((mulS (.str "s") (.int 9)).bind fun a_64 => .ok [a_64]).bind mkL).bind fun l_65 => repD l_65 (.int 4)).bind fun l_66 => .ok (.list l_66)).bind fun a_67 => ((((mulS (.str "l") (.int 9)).bind fun a_68 => .ok [a_68]).bind mkL).bind fun l_69 => .ok (.list l_69)).bind (addD a_67)).bind (joinD (.str "/"))).bind fun nine_72 => (((F__law_told [(.int 0), (.tuple [(.str "e"), (.tuple [(.tuple [nine_72, (.tuple [])]), (.tuple [(.str "e"), (.tuple [])])])]), .none, .none]).bind fun a_73 => neD a_73 (.tuple [(.str "many")])).bind asB).bind fun b_80 => if b_80 = true then .ok (.bool false) else (((((F__law_told [(.int 0), (.tuple [(.str "-/-"), (.tuple [(.tuple [(.str "s/-/-"), (.tuple [])]), (.tuple [(.str "e"), (.tuple [])])])]), .none, .none]).bind fun a_74 => .ok [a_74, (.tuple [(.str "told"), (.tuple [(.str "s/-/e"), (.tuple [(.tuple [(.str "s/-/-"), (.tuple [])]), (.tuple [(.str "e"), (.tuple [])])])])])]).bind fun ds_75 => chk (ds_75.length == 2) (F__law_same ds_75)).bind tru).bind fun b_76 => .ok (!b_76)).bind fun b_79 => if b_79 = true then .ok (.bool false) else ((F__law_told [(.int 0), (.tuple [(.str "-/-/-"), (.tuple [(.tuple [(.str "e"), (.tuple [])])])]), .none, .none]).bind fun a_77 => .ok [a_77, (.tuple [(.str "told"), (.tuple [(.str "-/-/e"), (.tuple [(.tuple [(.str "e"), (.tuple [])])])])])]).bind fun ds_78 => chk (ds_78.length == 2) (F__law_same ds_78)
theorem e__law_refuses (group_1 : PD) : F__law_refuses [group_1] = P__law_refuses group_1 := by
 show Kt.top.k (g__law_refuses [.va group_1, .un, .un, .un]) = _
 unfold P__law_refuses
 exact (q_seq (q_for (by kernel_rfl) fun items_2 => (by
 refine for_sim (bodyP := P__law_refuses_l1) (tk := (kN 1)) (fun (s_3 : Unit) ρ => ∃ j_4 j_5 j_6, ρ = [.va group_1, j_4, j_5, j_6]) tge_n ?_ (by exact rfl) ?_ _ () _ ⟨.un, .un, .un, rfl⟩
 · intro K_87 hr_10 wrong_18 s_7 r_85 next_8 brk_9 hf_86 hn_11 hc_12 hb_13; obtain ⟨j_14, j_15, j_16, rfl⟩ := hf_86; unfold P__law_refuses_l1; exact (q_kN (q_at [.va group_1, .va wrong_18, j_15, j_16] rfl (q_if (by kernel_rfl) (q_retT hr_10 (by kernel_rfl)) (hn_11 () _ ⟨.va wrong_18, j_15, j_16, rfl⟩))))
 · intro s_25 r_85 hf_86; obtain ⟨j_26, j_27, j_28, rfl⟩ := hf_86; exact (q_nx [.va group_1, j_26, j_27, j_28] rfl (q_seq (q_for (by kernel_rfl) fun items_34 => (by
 refine for_sim (bodyP := P__law_refuses_l2 group_1) (tk := (kN 1)) (fun (s_35 : Unit) ρ => ∃ j_36 j_37 j_38, ρ = [.va group_1, j_36, j_37, j_38]) tge_n ?_ (by exact rfl) ?_ _ () _ ⟨j_26, j_27, j_28, rfl⟩
 · intro K_84 hr_42 wrong_50 s_39 r_82 next_40 brk_41 hf_83 hn_43 hc_44 hb_45; obtain ⟨j_46, j_47, j_48, rfl⟩ := hf_83; unfold P__law_refuses_l2; exact (q_kN (q_at [.va group_1, .va wrong_50, j_47, j_48] rfl (q_if (by kernel_rfl) (q_retT hr_42 (by kernel_rfl)) (hn_43 () _ ⟨.va wrong_50, j_47, j_48, rfl⟩))))
 · intro s_55 r_82 hf_83; obtain ⟨j_56, j_57, j_58, rfl⟩ := hf_83; exact (q_nx [.va group_1, j_56, j_57, j_58] rfl (q_seq (q_if (by kernel_rfl) (q_retT rfl (by kernel_rfl)) (q_nx [.va group_1, j_56, j_57, j_58] rfl (q_seq (q_setB (by kernel_rfl) fun nine_72 => (q_nx [.va group_1, j_56, .va nine_72, j_58] rfl (q_seq (q_if (by kernel_rfl) (q_retT rfl (by kernel_rfl)) (q_nx [.va group_1, j_56, .va nine_72, j_58] rfl (q_seq (q_if (by kernel_rfl) (q_retT rfl (by kernel_rfl)) (q_nx [.va group_1, j_56, .va nine_72, j_58] rfl (q_retT rfl (by kernel_rfl))))))))))))))))))))))
def P_law_l1 (rows_11 : PD) (group_12 : PD) (paths_50 : PD) (at_84 : PD) : PD → Unit → (Unit → R PD) → (Unit → R PD) → R PD := fun to_115 s_97 next_98 brk_99 => (((((ixD paths_50 at_84).bind fun a_117 => ((ixD paths_50 to_115).bind fun a_116 => .ok [a_116]).bind fun ds_118 => .ok (a_117 :: ds_118)).bind fun ds_119 => .ok (group_12 :: ds_119)).bind fun ds_120 => .ok ((.int 1) :: ds_120)).bind fun ds_121 => chk (ds_121.length == 4) (F__law_told ds_121)).bind fun told_122 => ((((((F__law_due [rows_11, at_84, to_115]).bind fun a_123 => .ok [a_123]).bind fun ds_124 => .ok (told_122 :: ds_124)).bind fun ds_125 => chk (ds_125.length == 2) (F__law_same ds_125)).bind tru).bind fun b_126 => .ok (!b_126)).bind fun b_141 => if b_141 = true then .ok (.bool false) else ((((ixD told_122 (.int 0)).bind fun a_127 => eqD a_127 (.str "told")).bind asB).bind fun b_128 => if b_128 = true then (((((ixD told_122 (.int 1)).bind fun a_129 => .ok [a_129]).bind fun ds_130 => chk (ds_130.length == 1) (F_is_group ds_130)).bind fun a_131 => isnD a_131 (.bool true)).bind asB).bind fun b_132 => if b_132 = true then .ok true else ((((((ixD told_122 (.int 1)).bind fun a_133 => .ok [a_133]).bind fun ds_134 => chk (ds_134.length == 1) (F_gap_of ds_134)).bind fun a_136 => ((F_gap_of [group_12]).bind fun a_135 => .ok [a_135]).bind fun ds_137 => .ok (a_136 :: ds_137)).bind fun ds_138 => chk (ds_138.length == 2) (F__law_same ds_138)).bind tru).bind fun b_139 => .ok (!b_139) else .ok false).bind fun b_140 => if b_140 = true then .ok (.bool false) else next_98 ()
def P_law_l2 (rows_11 : PD) (group_12 : PD) (paths_50 : PD) : PD → Unit → (Unit → R PD) → (Unit → R PD) → R PD := fun at_84 s_65 next_66 brk_67 => ((lenD [rows_11]).bind rg1).bind fun items_85 => forK (P_law_l1 rows_11 group_12 paths_50 at_84) items_85 () fun s_142 => next_66 ()
def P_law (ns_1 : List Int) : R PD := ((F__law_draws ns_1 60).nx).bind fun draws_2 => (((slD draws_2 none (some 45)).bind fun a_8 => (((((((ixD draws_2 (.int 45)).bind fun a_3 => .ok [a_3]).bind intD).bind fun a_4 => modD a_4 (.int 2)).bind (ixD (.list [(.int 8), (.int 4)]))).bind fun a_6 => .ok [a_6]).bind fun ds_7 => .ok ((.int 4) :: ds_7)).bind fun ds_9 => .ok (a_8 :: ds_9)).bind fun ds_10 => chk (ds_10.length == 3) (F__law_rows ds_10)).bind fun rows_11 => (F__law_made [rows_11]).bind fun group_12 => ((((((slD rows_11 (some 1) none).bind itD).bind fun items_13 => lcP items_13 fun row_14 => (((ixD row_14 (.int 1)).bind fun a_15 => .ok [a_15]).bind fun ds_16 => chk (ds_16.length == 1) (F__law_number ds_16)).sm).bind fun l_17 => .ok (.list l_17)).bind fun a_18 => .ok [a_18]).bind sumD).bind fun total_19 => ((((((ixD rows_11 (.int 0)).bind fun a_20 => ixD a_20 (.int 1)).bind fun a_21 => .ok [a_21]).bind lenD).bind fun a_24 => ((((strD [total_19]).bind fun a_22 => .ok [a_22]).bind lenD).bind fun a_23 => .ok [a_23]).bind fun ds_25 => .ok (a_24 :: ds_25)).bind maxD1).bind fun size_26 => (((ltD size_26 (.int 6)).bind asB).bind fun b_27 => if b_27 = true then ((rg1 size_26).bind fun items_28 => lcP items_28 fun j_29 => (((((subD size_26 (.int 1)).bind fun a_30 => subD a_30 j_29).bind (ixD (.list [(.int 1), (.int 10), (.int 100), (.int 1000), (.int 10000)]))).bind (fdivD total_19)).bind fun a_33 => modD a_33 (.int 10)).sm).bind fun l_34 => .ok (.list l_34) else .ok (.list [])).bind fun head_35 => (((((F__law_told [(.int 0), group_12, .none, .none]).bind fun a_43 => ((((ltD size_26 (.int 6)).bind asB).bind fun b_36 => if b_36 = true then ((((((slD rows_11 (some 1) none).bind (addD (.list [(.tuple [(.int 0), head_35])]))).bind fun a_38 => .ok [a_38]).bind fun ds_39 => chk (ds_39.length == 1) (F__law_made ds_39)).bind fun a_40 => .ok [a_40]).bind fun ds_41 => .ok ((.str "told") :: ds_41)).bind mkT else .ok (.tuple [(.str "many")])).bind fun a_42 => .ok [a_42]).bind fun ds_44 => .ok (a_43 :: ds_44)).bind fun ds_45 => chk (ds_45.length == 2) (F__law_same ds_45)).bind tru).bind fun b_46 => .ok (!b_46)).bind fun b_171 => if b_171 = true then .ok (.bool false) else ((((lenD [rows_11]).bind rg1).bind fun items_47 => lcP items_47 fun k_48 => (F__law_path [rows_11, k_48]).sm).bind fun l_49 => .ok (.list l_49)).bind fun paths_50 => ((lenD [rows_11]).bind (rg2 (.int 1))).bind fun items_52 => forK (P_law_l2 rows_11 group_12 paths_50) items_52 () fun s_156 => F__law_refuses [group_12]
theorem e_law (ns_1 : List Int) : F_law ns_1 = P_law ns_1 := by
 show Kt.top.k (g_law [.sc ns_1, .un, .un, .un, .un, .un, .un, .un, .un, .un, .un, .un, .un, .un]) = _
 unfold P_law
 exact (q_seq (q_setB (by kernel_rfl) fun draws_2 => (q_nx [.sc ns_1, .va draws_2, .un, .un, .un, .un, .un, .un, .un, .un, .un, .un, .un, .un] rfl (q_seq (q_setB (by kernel_rfl) fun rows_11 => (q_nx [.sc ns_1, .va draws_2, .va rows_11, .un, .un, .un, .un, .un, .un, .un, .un, .un, .un, .un] rfl (q_seq (q_setB (by kernel_rfl) fun group_12 => (q_nx [.sc ns_1, .va draws_2, .va rows_11, .va group_12, .un, .un, .un, .un, .un, .un, .un, .un, .un, .un] rfl (q_seq (q_setB (by kernel_rfl) fun total_19 => (q_nx [.sc ns_1, .va draws_2, .va rows_11, .va group_12, .va total_19, .un, .un, .un, .un, .un, .un, .un, .un, .un] rfl (q_seq (q_setB (by kernel_rfl) fun size_26 => (q_nx [.sc ns_1, .va draws_2, .va rows_11, .va group_12, .va total_19, .va size_26, .un, .un, .un, .un, .un, .un, .un, .un] rfl (q_seq (q_setB (by kernel_rfl) fun head_35 => (q_nx [.sc ns_1, .va draws_2, .va rows_11, .va group_12, .va total_19, .va size_26, .va head_35, .un, .un, .un, .un, .un, .un, .un] rfl (q_seq (q_if (by kernel_rfl) (q_retT rfl (by kernel_rfl)) (q_nx [.sc ns_1, .va draws_2, .va rows_11, .va group_12, .va total_19, .va size_26, .va head_35, .un, .un, .un, .un, .un, .un, .un] rfl (q_seq (q_setB (by kernel_rfl) fun paths_50 => (q_nx [.sc ns_1, .va draws_2, .va rows_11, .va group_12, .va total_19, .va size_26, .va head_35, .va paths_50, .un, .un, .un, .un, .un, .un] rfl (q_seq (q_for (by kernel_rfl) fun items_52 => (by
 refine for_sim (bodyP := P_law_l2 rows_11 group_12 paths_50) (tk := (kN 8)) (fun (s_53 : Unit) ρ => ∃ j_54 j_55 j_56 j_57 j_58 j_59 j_60 j_61 j_62 j_63 j_64, ρ = [j_54, j_55, .va rows_11, .va group_12, j_56, j_57, j_58, .va paths_50, j_59, j_60, j_61, j_62, j_63, j_64]) tge_n ?_ (by exact rfl) ?_ _ () _ ⟨.sc ns_1, .va draws_2, .va total_19, .va size_26, .va head_35, .un, .un, .un, .un, .un, .un, rfl⟩
 · intro K_170 hr_68 at_84 s_65 r_168 next_66 brk_67 hf_169 hn_69 hc_70 hb_71; obtain ⟨j_72, j_73, j_74, j_75, j_76, j_77, j_78, j_79, j_80, j_81, j_82, rfl⟩ := hf_169; unfold P_law_l2; exact (q_kN (q_at [j_72, j_73, .va rows_11, .va group_12, j_74, j_75, j_76, .va paths_50, .va at_84, j_78, j_79, j_80, j_81, j_82] rfl (q_for (by kernel_rfl) fun items_85 => (by
 refine for_sim (bodyP := P_law_l1 rows_11 group_12 paths_50 at_84) (tk := (kN 9)) (fun (s_86 : Unit) ρ => ∃ j_87 j_88 j_89 j_90 j_91 j_92 j_93 j_94 j_95 j_96, ρ = [j_87, j_88, .va rows_11, .va group_12, j_89, j_90, j_91, .va paths_50, .va at_84, j_92, j_93, j_94, j_95, j_96]) tge_n ?_ (by exact hr_68) ?_ _ () _ ⟨j_72, j_73, j_74, j_75, j_76, j_78, j_79, j_80, j_81, j_82, rfl⟩
 · intro K_155 hr_100 to_115 s_97 r_153 next_98 brk_99 hf_154 hn_101 hc_102 hb_103; obtain ⟨j_104, j_105, j_106, j_107, j_108, j_109, j_110, j_111, j_112, j_113, rfl⟩ := hf_154; unfold P_law_l1; exact (q_kN (q_at [j_104, j_105, .va rows_11, .va group_12, j_106, j_107, j_108, .va paths_50, .va at_84, .va to_115, j_110, j_111, j_112, j_113] rfl (q_seq (q_setB (by kernel_rfl) fun told_122 => (q_nx [j_104, j_105, .va rows_11, .va group_12, j_106, j_107, j_108, .va paths_50, .va at_84, .va to_115, .va told_122, j_111, j_112, j_113] rfl (q_seq (q_if (by kernel_rfl) (q_retT hr_100 (by kernel_rfl)) (q_nx [j_104, j_105, .va rows_11, .va group_12, j_106, j_107, j_108, .va paths_50, .va at_84, .va to_115, .va told_122, j_111, j_112, j_113] rfl (q_if (by kernel_rfl) (q_retT hr_100 (by kernel_rfl)) (hn_101 () _ ⟨j_104, j_105, j_106, j_107, j_108, .va to_115, .va told_122, j_111, j_112, j_113, rfl⟩))))))))))
 · intro s_142 r_153 hf_154; obtain ⟨j_143, j_144, j_145, j_146, j_147, j_148, j_149, j_150, j_151, j_152, rfl⟩ := hf_154; exact (hn_69 () _ ⟨j_143, j_144, j_145, j_146, j_147, .va at_84, j_148, j_149, j_150, j_151, j_152, rfl⟩)))))
 · intro s_156 r_168 hf_169; obtain ⟨j_157, j_158, j_159, j_160, j_161, j_162, j_163, j_164, j_165, j_166, j_167, rfl⟩ := hf_169; exact (q_nx [j_157, j_158, .va rows_11, .va group_12, j_159, j_160, j_161, .va paths_50, j_162, j_163, j_164, j_165, j_166, j_167] rfl (q_retT rfl (by kernel_rfl))))))))))))))))))))))))))))))
end K52
namespace K52
open PySem PySem.Spec PyProof.Rows L2 DL
def topS (i : Nat) : Stmt := PySem.Challenge.pw_sandwright_k52_whole_moves.main.body.getD i (.Pass ⟨0, 0, 0, 0⟩)
abbrev s_is_whole : Stmt := topS 7
abbrev s__is_high : Stmt := topS 15
abbrev s__are_units : Stmt := topS 16
abbrev s_figures_on : Stmt := topS 18
abbrev s_cord_with : Stmt := topS 19
abbrev s_number_by : Stmt := topS 20
abbrev s_figures_for : Stmt := topS 21
abbrev s_part_at : Stmt := topS 32
abbrev s__law_draws : Stmt := topS 40
abbrev s__law_cord : Stmt := topS 41
abbrev s__law_number : Stmt := topS 43
abbrev s__law_parent : Stmt := topS 44
abbrev s__law_rows : Stmt := topS 45
abbrev s__law_wrong_groups : Stmt := topS 49
abbrev s__law_same : Stmt := topS 50
abbrev s_is_cord : Stmt := topS 17
abbrev s__law_path : Stmt := topS 48
abbrev s__paths : Stmt := topS 27
abbrev s__with_part : Stmt := topS 33
abbrev s_all_paths : Stmt := topS 30
abbrev s__total : Stmt := topS 34
abbrev s__law_tree : Stmt := topS 46
abbrev s__are_hung : Stmt := topS 26
abbrev s_check_path : Stmt := topS 31
abbrev s_gap_in : Stmt := topS 35
abbrev s__law_made : Stmt := topS 47
abbrev s_is_group : Stmt := topS 28
abbrev s__law_due : Stmt := topS 52
abbrev s_check_group : Stmt := topS 29
abbrev s_gap_of : Stmt := topS 36
abbrev s_with_head : Stmt := topS 37
abbrev s_moved_cord : Stmt := topS 38
abbrev s__law_told : Stmt := topS 51
abbrev s__law_refuses : Stmt := topS 53
abbrev s_law : Stmt := topS 54
structure Tx (K : PySem.W.Frag) (mg : Str → Option Value) where
  f_is_whole : Addr
  fd_is_whole : FuncData
  F_is_whole : Fun K "is_whole" "is_whole" s_is_whole f_is_whole fd_is_whole
  b_is_whole : Binds K fd_is_whole ["value", "least", "most"] []
  m_is_whole : mg "is_whole" = some (.ref f_is_whole)
  k_is_whole : PySem.W.keepIn K (.ref f_is_whole) = true
  f__is_high : Addr
  fd__is_high : FuncData
  F__is_high : Fun K "_is_high" "_is_high" s__is_high f__is_high fd__is_high
  b__is_high : Binds K fd__is_high ["word"] []
  m__is_high : mg "_is_high" = some (.ref f__is_high)
  k__is_high : PySem.W.keepIn K (.ref f__is_high) = true
  f__are_units : Addr
  fd__are_units : FuncData
  F__are_units : Fun K "_are_units" "_are_units" s__are_units f__are_units fd__are_units
  b__are_units : Binds K fd__are_units ["word"] []
  m__are_units : mg "_are_units" = some (.ref f__are_units)
  k__are_units : PySem.W.keepIn K (.ref f__are_units) = true
  f_figures_on : Addr
  fd_figures_on : FuncData
  F_figures_on : Fun K "figures_on" "figures_on" s_figures_on f_figures_on fd_figures_on
  b_figures_on : Binds K fd_figures_on ["cord"] []
  m_figures_on : mg "figures_on" = some (.ref f_figures_on)
  k_figures_on : PySem.W.keepIn K (.ref f_figures_on) = true
  f_cord_with : Addr
  fd_cord_with : FuncData
  F_cord_with : Fun K "cord_with" "cord_with" s_cord_with f_cord_with fd_cord_with
  b_cord_with : Binds K fd_cord_with ["figures"] []
  m_cord_with : mg "cord_with" = some (.ref f_cord_with)
  k_cord_with : PySem.W.keepIn K (.ref f_cord_with) = true
  f_number_by : Addr
  fd_number_by : FuncData
  F_number_by : Fun K "number_by" "number_by" s_number_by f_number_by fd_number_by
  b_number_by : Binds K fd_number_by ["figures"] []
  m_number_by : mg "number_by" = some (.ref f_number_by)
  k_number_by : PySem.W.keepIn K (.ref f_number_by) = true
  f_figures_for : Addr
  fd_figures_for : FuncData
  F_figures_for : Fun K "figures_for" "figures_for" s_figures_for f_figures_for fd_figures_for
  b_figures_for : Binds K fd_figures_for ["number", "places"] []
  m_figures_for : mg "figures_for" = some (.ref f_figures_for)
  k_figures_for : PySem.W.keepIn K (.ref f_figures_for) = true
  f_part_at : Addr
  fd_part_at : FuncData
  F_part_at : Fun K "part_at" "part_at" s_part_at f_part_at fd_part_at
  b_part_at : Binds K fd_part_at ["group", "path"] []
  m_part_at : mg "part_at" = some (.ref f_part_at)
  k_part_at : PySem.W.keepIn K (.ref f_part_at) = true
  f__law_draws : Addr
  fd__law_draws : FuncData
  F__law_draws : Fun K "_law_draws" "_law_draws" s__law_draws f__law_draws fd__law_draws
  b__law_draws : Binds K fd__law_draws ["script", "many"] []
  m__law_draws : mg "_law_draws" = some (.ref f__law_draws)
  k__law_draws : PySem.W.keepIn K (.ref f__law_draws) = true
  f__law_cord : Addr
  fd__law_cord : FuncData
  F__law_cord : Fun K "_law_cord" "_law_cord" s__law_cord f__law_cord fd__law_cord
  b__law_cord : Binds K fd__law_cord ["figures"] []
  m__law_cord : mg "_law_cord" = some (.ref f__law_cord)
  k__law_cord : PySem.W.keepIn K (.ref f__law_cord) = true
  f__law_number : Addr
  fd__law_number : FuncData
  F__law_number : Fun K "_law_number" "_law_number" s__law_number f__law_number fd__law_number
  b__law_number : Binds K fd__law_number ["figures"] []
  m__law_number : mg "_law_number" = some (.ref f__law_number)
  k__law_number : PySem.W.keepIn K (.ref f__law_number) = true
  f__law_parent : Addr
  fd__law_parent : FuncData
  F__law_parent : Fun K "_law_parent" "_law_parent" s__law_parent f__law_parent fd__law_parent
  b__law_parent : Binds K fd__law_parent ["rows", "at"] []
  m__law_parent : mg "_law_parent" = some (.ref f__law_parent)
  k__law_parent : PySem.W.keepIn K (.ref f__law_parent) = true
  f__law_rows : Addr
  fd__law_rows : FuncData
  F__law_rows : Fun K "_law_rows" "_law_rows" s__law_rows f__law_rows fd__law_rows
  b__law_rows : Binds K fd__law_rows ["draws", "places", "most"] []
  m__law_rows : mg "_law_rows" = some (.ref f__law_rows)
  k__law_rows : PySem.W.keepIn K (.ref f__law_rows) = true
  f__law_wrong_groups : Addr
  fd__law_wrong_groups : FuncData
  F__law_wrong_groups : Fun K "_law_wrong_groups" "_law_wrong_groups" s__law_wrong_groups f__law_wrong_groups fd__law_wrong_groups
  b__law_wrong_groups : Binds K fd__law_wrong_groups [] []
  m__law_wrong_groups : mg "_law_wrong_groups" = some (.ref f__law_wrong_groups)
  k__law_wrong_groups : PySem.W.keepIn K (.ref f__law_wrong_groups) = true
  f__law_same : Addr
  fd__law_same : FuncData
  F__law_same : Fun K "_law_same" "_law_same" s__law_same f__law_same fd__law_same
  b__law_same : Binds K fd__law_same ["told", "due"] []
  m__law_same : mg "_law_same" = some (.ref f__law_same)
  k__law_same : PySem.W.keepIn K (.ref f__law_same) = true
  f_is_cord : Addr
  fd_is_cord : FuncData
  F_is_cord : Fun K "is_cord" "is_cord" s_is_cord f_is_cord fd_is_cord
  b_is_cord : Binds K fd_is_cord ["value"] []
  m_is_cord : mg "is_cord" = some (.ref f_is_cord)
  k_is_cord : PySem.W.keepIn K (.ref f_is_cord) = true
  f__law_path : Addr
  fd__law_path : FuncData
  F__law_path : Fun K "_law_path" "_law_path" s__law_path f__law_path fd__law_path
  b__law_path : Binds K fd__law_path ["rows", "at"] []
  m__law_path : mg "_law_path" = some (.ref f__law_path)
  k__law_path : PySem.W.keepIn K (.ref f__law_path) = true
  f__paths : Addr
  fd__paths : FuncData
  F__paths : Fun K "_paths" "_paths" s__paths f__paths fd__paths
  b__paths : Binds K fd__paths ["hung", "path"] []
  m__paths : mg "_paths" = some (.ref f__paths)
  k__paths : PySem.W.keepIn K (.ref f__paths) = true
  f__with_part : Addr
  fd__with_part : FuncData
  F__with_part : Fun K "_with_part" "_with_part" s__with_part f__with_part fd__with_part
  b__with_part : Binds K fd__with_part ["part", "path", "new"] []
  m__with_part : mg "_with_part" = some (.ref f__with_part)
  k__with_part : PySem.W.keepIn K (.ref f__with_part) = true
  f_all_paths : Addr
  fd_all_paths : FuncData
  F_all_paths : Fun K "all_paths" "all_paths" s_all_paths f_all_paths fd_all_paths
  b_all_paths : Binds K fd_all_paths ["group"] []
  m_all_paths : mg "all_paths" = some (.ref f_all_paths)
  k_all_paths : PySem.W.keepIn K (.ref f_all_paths) = true
  f__total : Addr
  fd__total : FuncData
  F__total : Fun K "_total" "_total" s__total f__total fd__total
  b__total : Binds K fd__total ["part"] []
  m__total : mg "_total" = some (.ref f__total)
  k__total : PySem.W.keepIn K (.ref f__total) = true
  f__law_tree : Addr
  fd__law_tree : FuncData
  F__law_tree : Fun K "_law_tree" "_law_tree" s__law_tree f__law_tree fd__law_tree
  b__law_tree : Binds K fd__law_tree ["rows", "at"] []
  m__law_tree : mg "_law_tree" = some (.ref f__law_tree)
  k__law_tree : PySem.W.keepIn K (.ref f__law_tree) = true
  f__are_hung : Addr
  fd__are_hung : FuncData
  F__are_hung : Fun K "_are_hung" "_are_hung" s__are_hung f__are_hung fd__are_hung
  b__are_hung : Binds K fd__are_hung ["value", "deep"] []
  m__are_hung : mg "_are_hung" = some (.ref f__are_hung)
  k__are_hung : PySem.W.keepIn K (.ref f__are_hung) = true
  f_check_path : Addr
  fd_check_path : FuncData
  F_check_path : Fun K "check_path" "check_path" s_check_path f_check_path fd_check_path
  b_check_path : Binds K fd_check_path ["group", "path"] []
  m_check_path : mg "check_path" = some (.ref f_check_path)
  k_check_path : PySem.W.keepIn K (.ref f_check_path) = true
  f_gap_in : Addr
  fd_gap_in : FuncData
  F_gap_in : Fun K "gap_in" "gap_in" s_gap_in f_gap_in fd_gap_in
  b_gap_in : Binds K fd_gap_in ["group"] []
  m_gap_in : mg "gap_in" = some (.ref f_gap_in)
  k_gap_in : PySem.W.keepIn K (.ref f_gap_in) = true
  f__law_made : Addr
  fd__law_made : FuncData
  F__law_made : Fun K "_law_made" "_law_made" s__law_made f__law_made fd__law_made
  b__law_made : Binds K fd__law_made ["rows"] []
  m__law_made : mg "_law_made" = some (.ref f__law_made)
  k__law_made : PySem.W.keepIn K (.ref f__law_made) = true
  f_is_group : Addr
  fd_is_group : FuncData
  F_is_group : Fun K "is_group" "is_group" s_is_group f_is_group fd_is_group
  b_is_group : Binds K fd_is_group ["value"] []
  m_is_group : mg "is_group" = some (.ref f_is_group)
  k_is_group : PySem.W.keepIn K (.ref f_is_group) = true
  f__law_due : Addr
  fd__law_due : FuncData
  F__law_due : Fun K "_law_due" "_law_due" s__law_due f__law_due fd__law_due
  b__law_due : Binds K fd__law_due ["rows", "at", "to"] []
  m__law_due : mg "_law_due" = some (.ref f__law_due)
  k__law_due : PySem.W.keepIn K (.ref f__law_due) = true
  f_check_group : Addr
  fd_check_group : FuncData
  F_check_group : Fun K "check_group" "check_group" s_check_group f_check_group fd_check_group
  b_check_group : Binds K fd_check_group ["group"] []
  m_check_group : mg "check_group" = some (.ref f_check_group)
  k_check_group : PySem.W.keepIn K (.ref f_check_group) = true
  f_gap_of : Addr
  fd_gap_of : FuncData
  F_gap_of : Fun K "gap_of" "gap_of" s_gap_of f_gap_of fd_gap_of
  b_gap_of : Binds K fd_gap_of ["group"] []
  m_gap_of : mg "gap_of" = some (.ref f_gap_of)
  k_gap_of : PySem.W.keepIn K (.ref f_gap_of) = true
  f_with_head : Addr
  fd_with_head : FuncData
  F_with_head : Fun K "with_head" "with_head" s_with_head f_with_head fd_with_head
  b_with_head : Binds K fd_with_head ["group"] []
  m_with_head : mg "with_head" = some (.ref f_with_head)
  k_with_head : PySem.W.keepIn K (.ref f_with_head) = true
  f_moved_cord : Addr
  fd_moved_cord : FuncData
  F_moved_cord : Fun K "moved_cord" "moved_cord" s_moved_cord f_moved_cord fd_moved_cord
  b_moved_cord : Binds K fd_moved_cord ["group", "path", "place"] []
  m_moved_cord : mg "moved_cord" = some (.ref f_moved_cord)
  k_moved_cord : PySem.W.keepIn K (.ref f_moved_cord) = true
  f__law_told : Addr
  fd__law_told : FuncData
  F__law_told : Fun K "_law_told" "_law_told" s__law_told f__law_told fd__law_told
  b__law_told : Binds K fd__law_told ["call", "group", "path", "place"] []
  m__law_told : mg "_law_told" = some (.ref f__law_told)
  k__law_told : PySem.W.keepIn K (.ref f__law_told) = true
  f__law_refuses : Addr
  fd__law_refuses : FuncData
  F__law_refuses : Fun K "_law_refuses" "_law_refuses" s__law_refuses f__law_refuses fd__law_refuses
  b__law_refuses : Binds K fd__law_refuses ["group"] []
  m__law_refuses : mg "_law_refuses" = some (.ref f__law_refuses)
  k__law_refuses : PySem.W.keepIn K (.ref f__law_refuses) = true
  f_law : Addr
  fd_law : FuncData
  F_law : Fun K "law" "law" s_law f_law fd_law
  b_law : Binds K fd_law ["script"] []
  m_law : mg "law" = some (.ref f_law)
  k_law : PySem.W.keepIn K (.ref f_law) = true
  z_abs : mg "abs" = none
  z_all : mg "all" = none
  z_bool : mg "bool" = none
  z_enumerate : mg "enumerate" = none
  z_int : mg "int" = none
  z_isinstance : mg "isinstance" = none
  z_len : mg "len" = none
  z_max : mg "max" = none
  z_min : mg "min" = none
  z_range : mg "range" = none
  z_repr : mg "repr" = none
  z_str : mg "str" = none
  z_sum : mg "sum" = none
  z_tuple : mg "tuple" = none
  c_BETWEEN : McD K mg "BETWEEN" (.str "/")
  c_MOST_DEEP : McD K mg "MOST_DEEP" (.int 4)
  c_MOST_HUNG : McD K mg "MOST_HUNG" (.int 5)
  c_MOST_IN_ALL : McD K mg "MOST_IN_ALL" (.int 12)
  c_MOST_PLACES : McD K mg "MOST_PLACES" (.int 5)
  c_NONE : McD K mg "NONE" (.str "-")
  c_ONE : McD K mg "ONE" (.str "e")
  c_SINGLE : McD K mg "SINGLE" (.str "s")
  c_TURN : McD K mg "TURN" (.str "l")
  C_BadGroup : Addr
  g_BadGroup : mg "BadGroup" = some (.ref C_BadGroup)
  x_BadGroup : PySem.W.excIn K C_BadGroup [.type "ValueError", .type "Exception", .type "BaseException", .type "object"] "ValueError.__new__" = true
  k_BadGroup : PySem.W.keepIn K (.ref C_BadGroup) = true
  s_BadGroup : PySem.W.subIn K (.ref C_BadGroup) (.type "BaseException") = some true
  t_BadGroup : PySem.W.typeIn K (.ref C_BadGroup) = some (.type "type")
  C_BadPath : Addr
  g_BadPath : mg "BadPath" = some (.ref C_BadPath)
  x_BadPath : PySem.W.excIn K C_BadPath [.type "ValueError", .type "Exception", .type "BaseException", .type "object"] "ValueError.__new__" = true
  k_BadPath : PySem.W.keepIn K (.ref C_BadPath) = true
  s_BadPath : PySem.W.subIn K (.ref C_BadPath) (.type "BaseException") = some true
  t_BadPath : PySem.W.typeIn K (.ref C_BadPath) = some (.type "type")
  C_TooMany : Addr
  g_TooMany : mg "TooMany" = some (.ref C_TooMany)
  x_TooMany : PySem.W.excIn K C_TooMany [.type "ValueError", .type "Exception", .type "BaseException", .type "object"] "ValueError.__new__" = true
  k_TooMany : PySem.W.keepIn K (.ref C_TooMany) = true
  s_TooMany : PySem.W.subIn K (.ref C_TooMany) (.type "BaseException") = some true
  t_TooMany : PySem.W.typeIn K (.ref C_TooMany) = some (.type "type")
  C_Within : Addr
  g_Within : mg "Within" = some (.ref C_Within)
  x_Within : PySem.W.excIn K C_Within [.type "ValueError", .type "Exception", .type "BaseException", .type "object"] "ValueError.__new__" = true
  k_Within : PySem.W.keepIn K (.ref C_Within) = true
  s_Within : PySem.W.subIn K (.ref C_Within) (.type "BaseException") = some true
  t_Within : PySem.W.typeIn K (.ref C_Within) = some (.type "type")
  ap : Apart K mg excs
section
variable {P : Program} {w : World} {K : PySem.W.Frag} {mg : Str → Option Value} {base : Heap}
theorem sc_is_whole : FnScope ["value", "least", "most"] ["value", "least", "most"] (defScope s_is_whole) := ⟨rfl, rfl, rfl, by decide +kernel, rfl, by decide +kernel, by decide +kernel⟩
theorem fn_is_whole (T : Tx K mg) : FnDG P w K mg base 1 T.f_is_whole T.fd_is_whole ["value", "least", "most"] F_is_whole := fnDG_of (N := ["value", "least", "most"]) (k := 0) (g := g_is_whole) T.F_is_whole sc_is_whole fun cdv A outer s H E hr => (show DSs _ _ _ g_is_whole from
    (dss_one (ds_ret (de_and (de_isa isa_int (by rfl) T.z_isinstance (by rfl) T.z_int PyProof.Rows.boot_int (DE.dv (de_v (pv 0)))) (de_and (de_not (DE.dv (de_isa isa_bool (by rfl) T.z_isinstance (by rfl) T.z_bool PyProof.Rows.boot_bool (DE.dv (de_v (pv 0)))))) (de_one (de_chain (opd_le (Deep.of hr.room)) (opd_le (Deep.of hr.room)) (DE.dv (de_v (pv 1))) (DE.dv (de_v (pv 0))) (DE.dv (de_v (pv 2))))))))))
theorem sc__is_high : FnScope ["word"] ["word"] (defScope s__is_high) := ⟨rfl, rfl, rfl, by decide +kernel, rfl, by decide +kernel, by decide +kernel⟩
theorem fn__is_high (T : Tx K mg) : FnDG P w K mg base 1 T.f__is_high T.fd__is_high ["word"] F__is_high := fnDG_of (N := ["word"]) (k := 0) (g := g__is_high) T.F__is_high sc__is_high fun cdv A outer s H E hr => (show DSs _ _ _ g__is_high from
    (dss_one (ds_ret (de_or (de_cmp (opd_eq (Deep.of hr.room)) (DE.dv (de_v (pv 0))) (DE.dv (de_mc T.c_NONE (by rfl))) (nomark _)) (de_one (de_and (de_chain (opd_le (Deep.of hr.room)) (opd_le (Deep.of hr.room)) (DE.dv de_int) (DE.dv (de_callB cd_len (by rfl) T.z_len PySem.boot_len (da_cons (DE.dv (de_v (pv 0))) da_nil))) (DE.dv de_int)) (de_one (de_cmp (opd_eq (Deep.of hr.room)) (DE.dv (de_v (pv 0))) (DE.dv (de_op opd_mulS (DE.dv (de_mc T.c_SINGLE (by rfl))) (DE.dv (de_callB cd_len (by rfl) T.z_len PySem.boot_len (da_cons (DE.dv (de_v (pv 0))) da_nil))))) (nomark _)))))))))
theorem sc__are_units : FnScope ["word"] ["word"] (defScope s__are_units) := ⟨rfl, rfl, rfl, by decide +kernel, rfl, by decide +kernel, by decide +kernel⟩
theorem fn__are_units (T : Tx K mg) : FnDG P w K mg base 1 T.f__are_units T.fd__are_units ["word"] F__are_units := fnDG_of (N := ["word"]) (k := 0) (g := g__are_units) T.F__are_units sc__are_units fun cdv A outer s H E hr => (show DSs _ _ _ g__are_units from
    (dss_one (ds_ret (de_or (de_cmp (opd_eq (Deep.of hr.room)) (DE.dv (de_v (pv 0))) (DE.dv (de_mc T.c_NONE (by rfl))) (nomark _)) (de_or (de_cmp (opd_eq (Deep.of hr.room)) (DE.dv (de_v (pv 0))) (DE.dv (de_mc T.c_ONE (by rfl))) (nomark _)) (de_one (de_and (de_chain (opd_le (Deep.of hr.room)) (opd_le (Deep.of hr.room)) (DE.dv de_int) (DE.dv (de_callB cd_len (by rfl) T.z_len PySem.boot_len (da_cons (DE.dv (de_v (pv 0))) da_nil))) (DE.dv de_int)) (de_one (de_cmp (opd_eq (Deep.of hr.room)) (DE.dv (de_v (pv 0))) (DE.dv (de_op opd_mulS (DE.dv (de_mc T.c_TURN (by rfl))) (DE.dv (de_callB cd_len (by rfl) T.z_len PySem.boot_len (da_cons (DE.dv (de_v (pv 0))) da_nil))))) (nomark _))))))))))
theorem sc_figures_on : FnScope ["cord", "word"] ["cord"] (defScope s_figures_on) := ⟨rfl, rfl, rfl, by decide +kernel, rfl, by decide +kernel, by decide +kernel⟩
theorem fn_figures_on (T : Tx K mg) : FnDG P w K mg base 1 T.f_figures_on T.fd_figures_on ["cord"] F_figures_on := fnDG_of (N := ["cord", "word"]) (k := 0) (g := g_figures_on) T.F_figures_on sc_figures_on fun cdv A outer s H E hr => (show DSs _ _ _ g_figures_on from
    (dss_one (ds_ret (DF.de (df_K (cLc_K tge_n) (df_lc (own := [("word", 1)]) (vs := [1]) rfl sc_figures_on.nd (di_seq (DF.de (df_split (de_v (pv 0)) (de_mc T.c_BETWEEN (by rfl))))) (blkOk_by (by kernel_rfl)) (by decide) (fun _ _ _ _ _ => (dg_name (i := 1) sc_figures_on.nd rfl (by first | exact .inl rfl | exact .inr rfl))) (fun _ _ _ _ _ => dt_nil) (fun _ _ _ _ _ => (de_if (db_c (opd_eq (Deep.of hr.room)) (DE.dv (de_v (pv 1))) (DE.dv (de_mc T.c_NONE (by rfl))) (nomark _)) de_int (de_callB cd_len (by rfl) T.z_len PySem.boot_len (da_cons (DE.dv (de_v (pv 1))) da_nil))))))))))
theorem sc_cord_with : FnScope ["figures", "words", "last", "figure"] ["figures"] (defScope s_cord_with) := ⟨rfl, rfl, rfl, by decide +kernel, rfl, by decide +kernel, by decide +kernel⟩
theorem fn_cord_with (T : Tx K mg) : FnDG P w K mg base 1 T.f_cord_with T.fd_cord_with ["figures"] F_cord_with := fnDG_of (N := ["figures", "words", "last", "figure"]) (k := 0) (g := g_cord_with) T.F_cord_with sc_cord_with fun cdv A outer s H E hr => (show DSs _ _ _ g_cord_with from
    (dss_cons (ds_K (congrArg (sSetL 1) (cLc_K tge_n)) (ds_setLc (i := 1) (own := [("figure", 3)]) (vs := [3]) rfl sc_cord_with.nd rfl rfl (sw_true rfl rfl rfl (by kernel_rfl)) (di_seq (de_sl (DE.dv (de_v (pv 0))) do_n (do_s (de_un und_neg de_int)))) (blkOk_by (by kernel_rfl)) (by decide) (fun _ _ _ _ _ => (dg_name (i := 3) sc_cord_with.nd rfl (by first | exact .inl rfl | exact .inr rfl))) (fun _ _ _ _ _ => dt_nil) (fun _ _ _ _ _ => (de_if (db_c (opd_eq (Deep.of hr.room)) (DE.dv (de_v (pv 3))) (DE.dv de_int) (nomark _)) (de_mc T.c_NONE (by rfl)) (de_op opd_mulS (DE.dv (de_mc T.c_SINGLE (by rfl))) (DE.dv (de_v (pv 3))))))))
    (dss_cons (ds_set (i := 2) sc_cord_with.nd rfl (by first | exact .inl rfl | exact .inr rfl) (de_ix (DE.dv (de_v (pv 0))) (DE.dv (de_un und_neg de_int)) (fun _ _ => rfl)))
    (dss_cons (ds_app (pv 1) (de_if (db_c (opd_eq (Deep.of hr.room)) (DE.dv (de_v (pv 2))) (DE.dv de_int) (nomark _)) (de_mc T.c_NONE (by rfl)) (de_if (db_c (opd_eq (Deep.of hr.room)) (DE.dv (de_v (pv 2))) (DE.dv de_int) (nomark _)) (de_mc T.c_ONE (by rfl)) (de_op opd_mulS (DE.dv (de_mc T.c_TURN (by rfl))) (DE.dv (de_v (pv 2)))))))
    (dss_one (ds_ret (de_sm PySem.F.slot_str_join PySem.F.type_str_join ms_join (de_mc T.c_BETWEEN (by rfl)) (dv_v (pv 1)))))))))
theorem sc_number_by : FnScope ["figures", "number", "figure"] ["figures"] (defScope s_number_by) := ⟨rfl, rfl, rfl, by decide +kernel, rfl, by decide +kernel, by decide +kernel⟩
theorem fn_number_by (T : Tx K mg) : FnDG P w K mg base 1 T.f_number_by T.fd_number_by ["figures"] F_number_by := fnDG_of (N := ["figures", "number", "figure"]) (k := 0) (g := g_number_by) T.F_number_by sc_number_by fun cdv A outer s H E hr => (show DSs _ _ _ g_number_by from
    (dss_cons (ds_set (i := 1) sc_number_by.nd rfl (by first | exact .inl rfl | exact .inr rfl) de_int)
    (dss_cons (ds_for (passes_of rfl) rfl (di_seq (de_v (pv 0))) (dg_name (i := 2) sc_number_by.nd rfl (by first | exact .inl rfl | exact .inr rfl))
    (dss_one (ds_set (i := 1) sc_number_by.nd rfl (by first | exact .inl rfl | exact .inr rfl) (de_op opd_add (DE.dv (de_op opd_mulS (DE.dv de_int) (DE.dv (de_v (pv 1))))) (DE.dv (de_v (pv 2)))))))
    (dss_one (ds_ret (de_v (pv 1)))))))
theorem sc_figures_for : FnScope ["number", "places", "figures", "_"] ["number", "places"] (defScope s_figures_for) := ⟨rfl, rfl, rfl, by decide +kernel, rfl, by decide +kernel, by decide +kernel⟩
theorem fn_figures_for (T : Tx K mg) : FnDG P w K mg base 1 T.f_figures_for T.fd_figures_for ["number", "places"] F_figures_for := fnDG_of (N := ["number", "places", "figures", "_"]) (k := 0) (g := g_figures_for) T.F_figures_for sc_figures_for fun cdv A outer s H E hr => (show DSs _ _ _ g_figures_for from
    (dss_cons (ds_setL (i := 2) sc_figures_for.nd rfl (by first | exact .inl rfl | exact .inr rfl) (df_lst dc_nil))
    (dss_cons (ds_for (passes_of rfl) rfl (di_r1 (by rfl) T.z_range (de_v (pv 1))) (dg_name (i := 3) sc_figures_for.nd rfl (by first | exact .inl rfl | exact .inr rfl))
    (dss_cons (ds_app (pv 2) (de_op opd_mod (DE.dv (de_v (pv 0))) (DE.dv de_int)))
    (dss_one (ds_set (i := 0) sc_figures_for.nd rfl (by first | exact .inl rfl | exact .inr rfl) (de_op opd_fdiv (DE.dv (de_v (pv 0))) (DE.dv de_int))))))
    (dss_one (ds_ret (de_rev (dv_v (pv 2))))))))
theorem sc_part_at : FnScope ["group", "path", "number"] ["group", "path"] (defScope s_part_at) := ⟨rfl, rfl, rfl, by decide +kernel, rfl, by decide +kernel, by decide +kernel⟩
theorem fn_part_at (T : Tx K mg) : FnDG P w K mg base 1 T.f_part_at T.fd_part_at ["group", "path"] F_part_at := fnDG_of (N := ["group", "path", "number"]) (k := 0) (g := g_part_at) T.F_part_at sc_part_at fun cdv A outer s H E hr => (show DSs _ _ _ g_part_at from
    (dss_cons (ds_for (passes_of rfl) rfl (di_seq (de_v (pv 1))) (dg_name (i := 2) sc_part_at.nd rfl (by first | exact .inl rfl | exact .inr rfl))
    (dss_one (ds_set (i := 0) sc_part_at.nd rfl (by first | exact .inl rfl | exact .inr rfl) (de_ix (DE.dv (de_ix (DE.dv (de_v (pv 0))) (DE.dv de_int) (fun _ _ => rfl))) (DE.dv (de_v (pv 2))) (fun _ _ => rfl)))))
    (dss_one (ds_ret (de_v (pv 0))))))
theorem sc__law_draws : FnScope ["script", "many", "draws", "seed", "cell", "number", "k"] ["script", "many"] (defScope s__law_draws) := ⟨rfl, rfl, rfl, by decide +kernel, rfl, by decide +kernel, by decide +kernel⟩
theorem fn__law_draws (T : Tx K mg) : FnOk P w K mg base (L2.CX P w) 1 T.f__law_draws T.fd__law_draws ["script", "many"] (spScr K F__law_draws) := fnScr_of (N := ["script", "many", "draws", "seed", "cell", "number", "k"]) (k := 0) (g := g__law_draws) T.F__law_draws sc__law_draws rfl fun cdv A outer s H E hr => (show DSs _ _ _ g__law_draws from
    (dss_cons (ds_setL (i := 2) sc__law_draws.nd rfl (by first | exact .inl rfl | exact .inr rfl) (df_lst dc_nil))
    (dss_cons (ds_set (i := 3) sc__law_draws.nd rfl (by first | exact .inl rfl | exact .inr rfl) de_int)
    (dss_cons (ds_for (passes_of rfl) rfl (di_seq (DF.de (df_scr (pv 0)))) (dg_name (i := 4) sc__law_draws.nd rfl (by first | exact .inl rfl | exact .inr rfl))
    (dss_cons (ds_set (i := 5) sc__law_draws.nd rfl (by first | exact .inl rfl | exact .inr rfl) (de_callB cd_abs (by rfl) T.z_abs PyProof.Rows.boot_abs (da_cons (DE.dv (de_v (pv 4))) da_nil)))
    (dss_cons (ds_set (i := 3) sc__law_draws.nd rfl (by first | exact .inl rfl | exact .inr rfl) (de_op opd_mod (DE.dv (de_callTy cd_int (by rfl) T.z_int PyProof.Rows.boot_int (da_cons (DE.dv (de_op opd_add (DE.dv (de_op opd_add (DE.dv (de_op opd_mul (DE.dv (de_v (pv 3))) (DE.dv de_int))) (DE.dv (de_v (pv 5))))) (DE.dv de_int))) da_nil))) (DE.dv de_int)))
    (dss_one (ds_if (db_c (opd_ge (Deep.of hr)) (DE.dv (de_v (pv 5))) (DE.dv (de_op opd_pow (DE.dv de_int) (DE.dv de_int))) (nomark _))
    (dss_one (ds_for (passes_of rfl) rfl (di_r1 (by rfl) T.z_range de_int) (dg_name (i := 6) sc__law_draws.nd rfl (by first | exact .inl rfl | exact .inr rfl))
    (dss_one (ds_if (db_c (opd_gt (Deep.of hr)) (DE.dv (de_v (pv 5))) (DE.dv de_int) (nomark _))
    (dss_cons (ds_app (pv 2) (de_op opd_mod (DE.dv (de_callTy cd_int (by rfl) T.z_int PyProof.Rows.boot_int (da_cons (DE.dv (de_v (pv 5))) da_nil))) (DE.dv de_int)))
    (dss_one (ds_set (i := 5) sc__law_draws.nd rfl (by first | exact .inl rfl | exact .inr rfl) (de_op opd_fdiv (DE.dv (de_v (pv 5))) (DE.dv de_int)))))
    dss_nil))))
    (dss_one (ds_app (pv 2) (de_op opd_mod (DE.dv (de_op opd_fdiv (DE.dv (de_callTy cd_int (by rfl) T.z_int PyProof.Rows.boot_int (da_cons (DE.dv (de_op opd_add (DE.dv (de_op opd_mul (DE.dv (de_v (pv 3))) (DE.dv de_int))) (DE.dv de_int))) da_nil))) (DE.dv de_int))) (DE.dv de_int)))))))))
    (dss_cons (ds_for (passes_of rfl) rfl (di_r1 (by rfl) T.z_range (de_v (pv 1))) (dg_name (i := 6) sc__law_draws.nd rfl (by first | exact .inl rfl | exact .inr rfl))
    (dss_one (ds_if (db_c (opd_lt (Deep.of hr)) (DE.dv (de_callB cd_len (by rfl) T.z_len PySem.boot_len (da_cons (dv_v (pv 2)) da_nil))) (DE.dv (de_v (pv 1))) (nomark _))
    (dss_cons (ds_set (i := 3) sc__law_draws.nd rfl (by first | exact .inl rfl | exact .inr rfl) (de_op opd_mod (DE.dv (de_callTy cd_int (by rfl) T.z_int PyProof.Rows.boot_int (da_cons (DE.dv (de_op opd_add (DE.dv (de_op opd_add (DE.dv (de_op opd_mul (DE.dv (de_v (pv 3))) (DE.dv de_int))) (DE.dv (de_v (pv 6))))) (DE.dv de_int))) da_nil))) (DE.dv de_int)))
    (dss_one (ds_app (pv 2) (de_op opd_mod (DE.dv (de_op opd_fdiv (DE.dv (de_callTy cd_int (by rfl) T.z_int PyProof.Rows.boot_int (da_cons (DE.dv (de_v (pv 3))) da_nil))) (DE.dv de_int))) (DE.dv de_int)))))
    dss_nil)))
    (dss_one (ds_ret (de_sl (dv_v (pv 2)) do_n (do_s (de_v (pv 1)))))))))))
theorem sc__law_cord : FnScope ["figures", "words", "last", "one"] ["figures"] (defScope s__law_cord) := ⟨rfl, rfl, rfl, by decide +kernel, rfl, by decide +kernel, by decide +kernel⟩
theorem fn__law_cord (T : Tx K mg) : FnDG P w K mg base 1 T.f__law_cord T.fd__law_cord ["figures"] F__law_cord := fnDG_of (N := ["figures", "words", "last", "one"]) (k := 0) (g := g__law_cord) T.F__law_cord sc__law_cord fun cdv A outer s H E hr => (show DSs _ _ _ g__law_cord from
    (dss_cons (ds_K (congrArg (fun z => sSet 1 (cL z)) (cLc_K tge_n)) (ds_setLcV (i := 1) (own := [("one", 3)]) (vs := [3]) rfl sc__law_cord.nd rfl rfl (sw_true rfl rfl rfl (by kernel_rfl)) (di_seq (de_sl (DE.dv (de_v (pv 0))) do_n (do_s (de_un und_neg de_int)))) (blkOk_by (by kernel_rfl)) (by decide) (fun _ _ _ _ _ => (dg_name (i := 3) sc__law_cord.nd rfl (by first | exact .inl rfl | exact .inr rfl))) (fun _ _ _ _ _ => dt_nil) (fun _ _ _ _ _ => (de_if (db_c (opd_gt (Deep.of hr.room)) (DE.dv (de_v (pv 3))) (DE.dv de_int) (nomark _)) (de_op opd_mulS (DE.dv de_str) (DE.dv (de_v (pv 3)))) de_str))))
    (dss_cons (ds_set (i := 2) sc__law_cord.nd rfl (by first | exact .inl rfl | exact .inr rfl) (de_ix (DE.dv (de_v (pv 0))) (DE.dv (de_un und_neg de_int)) (fun _ _ => rfl)))
    (dss_one (ds_ret (de_sm PySem.F.slot_str_join PySem.F.type_str_join ms_join de_str (DE.dv (de_op opd_add (DE.dv (de_v (pv 1))) (DE.dv (DF.de (df_lst (dc_cons (de_if (db_c (opd_eq (Deep.of hr.room)) (DE.dv (de_v (pv 2))) (DE.dv de_int) (nomark _)) de_str (de_if (db_c (opd_eq (Deep.of hr.room)) (DE.dv (de_v (pv 2))) (DE.dv de_int) (nomark _)) de_str (de_op opd_mulS (DE.dv de_str) (DE.dv (de_v (pv 2)))))) dc_nil))))))))))))
theorem sc__law_number : FnScope ["figures", "number", "one"] ["figures"] (defScope s__law_number) := ⟨rfl, rfl, rfl, by decide +kernel, rfl, by decide +kernel, by decide +kernel⟩
theorem fn__law_number (T : Tx K mg) : FnDG P w K mg base 1 T.f__law_number T.fd__law_number ["figures"] F__law_number := fnDG_of (N := ["figures", "number", "one"]) (k := 0) (g := g__law_number) T.F__law_number sc__law_number fun cdv A outer s H E hr => (show DSs _ _ _ g__law_number from
    (dss_cons (ds_set (i := 1) sc__law_number.nd rfl (by first | exact .inl rfl | exact .inr rfl) de_int)
    (dss_cons (ds_for (passes_of rfl) rfl (di_seq (de_v (pv 0))) (dg_name (i := 2) sc__law_number.nd rfl (by first | exact .inl rfl | exact .inr rfl))
    (dss_one (ds_set (i := 1) sc__law_number.nd rfl (by first | exact .inl rfl | exact .inr rfl) (de_op opd_add (DE.dv (de_op opd_mulS (DE.dv de_int) (DE.dv (de_v (pv 1))))) (DE.dv (de_v (pv 2)))))))
    (dss_one (ds_ret (de_v (pv 1)))))))
theorem sc__law_parent : FnScope ["rows", "at", "k"] ["rows", "at"] (defScope s__law_parent) := ⟨rfl, rfl, rfl, by decide +kernel, rfl, by decide +kernel, by decide +kernel⟩
theorem fn__law_parent (T : Tx K mg) : FnDG P w K mg base 1 T.f__law_parent T.fd__law_parent ["rows", "at"] F__law_parent := fnDG_of (N := ["rows", "at", "k"]) (k := 0) (g := g__law_parent) T.F__law_parent sc__law_parent fun cdv A outer s H E hr => (show DSs _ _ _ g__law_parent from
    (dss_one (ds_ret (de_callB (cd_max rfl (Deep.of hr.room)) (by rfl) T.z_max PyProof.Rows.boot_max (da_cons (DE.dv (DF.de (df_K (cLc_K tge_n) (df_lc (own := [("k", 2)]) (vs := [2]) rfl sc__law_parent.nd (di_r1 (by rfl) T.z_range (de_v (pv 1))) (blkOk_by (by kernel_rfl)) (by decide) (fun _ _ _ _ _ => (dg_name (i := 2) sc__law_parent.nd rfl (by first | exact .inl rfl | exact .inr rfl))) (fun _ _ _ _ _ => (dt_one (db_c (opd_lt (Deep.of hr.room)) (DE.dv (de_ix (DE.dv (de_ix (DE.dv (de_v (pv 0))) (DE.dv (de_v (pv 2))) (fun _ _ => rfl))) (DE.dv de_int) (fun _ _ => rfl))) (DE.dv (de_ix (DE.dv (de_ix (DE.dv (de_v (pv 0))) (DE.dv (de_v (pv 1))) (fun _ _ => rfl))) (DE.dv de_int) (fun _ _ => rfl))) (nomark _)))) (fun _ _ _ _ _ => (de_v (pv 2))))))) da_nil)))))
theorem sc__law_rows : FnScope ["draws", "places", "most", "rows", "k", "deep", "same", "figures", "j", "row"] ["draws", "places", "most"] (defScope s__law_rows) := ⟨rfl, rfl, rfl, by decide +kernel, rfl, by decide +kernel, by decide +kernel⟩
theorem fn__law_rows (T : Tx K mg) : FnDG P w K mg base 1 T.f__law_rows T.fd__law_rows ["draws", "places", "most"] F__law_rows := fnDG_of (N := ["draws", "places", "most", "rows", "k", "deep", "same", "figures", "j", "row"]) (k := 0) (g := g__law_rows) T.F__law_rows sc__law_rows fun cdv A outer s H E hr => (show DSs _ _ _ g__law_rows from
    (dss_cons (ds_set (i := 3) sc__law_rows.nd rfl (by first | exact .inl rfl | exact .inr rfl) (DF.de (df_lst (dc_cons (de_tup (dc_cons de_int (dc_cons (DF.de (df_K (cLc_K tge_n) (df_lc (own := [("j", 8)]) (vs := [8]) rfl sc__law_rows.nd (di_r1 (by rfl) T.z_range (de_op opd_add (DE.dv de_int) (DE.dv (de_op opd_mod (DE.dv (de_callTy cd_int (by rfl) T.z_int PyProof.Rows.boot_int (da_cons (DE.dv (de_ix (DE.dv (de_v (pv 0))) (DE.dv de_int) (fun _ _ => rfl))) da_nil))) (DE.dv de_int))))) (blkOk_by (by kernel_rfl)) (by decide) (fun _ _ _ _ _ => (dg_name (i := 8) sc__law_rows.nd rfl (by first | exact .inl rfl | exact .inr rfl))) (fun _ _ _ _ _ => dt_nil) (fun _ _ _ _ _ => (de_op opd_mod (DE.dv (de_callTy cd_int (by rfl) T.z_int PyProof.Rows.boot_int (da_cons (DE.dv (de_ix (DE.dv (de_v (pv 0))) (DE.dv (de_op opd_add (DE.dv de_int) (DE.dv (de_v (pv 8))))) (fun _ _ => rfl))) da_nil))) (DE.dv de_int)))))) dc_nil))) dc_nil))))
    (dss_cons (ds_for (passes_of rfl) rfl (di_r1 (by rfl) T.z_range (de_op opd_add (DE.dv de_int) (DE.dv (de_op opd_mod (DE.dv (de_callTy cd_int (by rfl) T.z_int PyProof.Rows.boot_int (da_cons (DE.dv (de_ix (DE.dv (de_v (pv 0))) (DE.dv de_int) (fun _ _ => rfl))) da_nil))) (DE.dv (de_v (pv 2))))))) (dg_name (i := 4) sc__law_rows.nd rfl (by first | exact .inl rfl | exact .inr rfl))
    (dss_cons (ds_set (i := 5) sc__law_rows.nd rfl (by first | exact .inl rfl | exact .inr rfl) (de_op opd_add (DE.dv de_int) (DE.dv (de_op opd_mod (DE.dv (de_callTy cd_int (by rfl) T.z_int PyProof.Rows.boot_int (da_cons (DE.dv (de_ix (DE.dv (de_v (pv 0))) (DE.dv (de_op opd_add (DE.dv de_int) (DE.dv (de_v (pv 4))))) (fun _ _ => rfl))) da_nil))) (DE.dv (de_callB (cd_min rfl (Deep.of hr.room)) (by rfl) T.z_min PyProof.Rows.boot_min (da_cons (DE.dv de_int) (da_cons (DE.dv (de_op opd_add (DE.dv (de_ix (DE.dv (de_ix (DE.dv (de_v (pv 3))) (DE.dv (de_un und_neg de_int)) (fun _ _ => rfl))) (DE.dv de_int) (fun _ _ => rfl))) (DE.dv de_int))) da_nil))))))))
    (dss_cons (ds_K (congrArg (fun z => sSet 6 (cL z)) (cLc_K tge_n)) (ds_setLcV (i := 6) (own := [("j", 8)]) (vs := [8]) rfl sc__law_rows.nd rfl rfl (sw_true rfl rfl rfl (by kernel_rfl)) (di_r2 (by rfl) T.z_range de_int (de_callB cd_len (by rfl) T.z_len PySem.boot_len (da_cons (DE.dv (de_v (pv 3))) da_nil))) (blkOk_by (by kernel_rfl)) (by decide) (fun _ _ _ _ _ => (dg_name (i := 8) sc__law_rows.nd rfl (by first | exact .inl rfl | exact .inr rfl))) (fun _ _ _ _ _ => (dt_one (db_w (dw_and (db_c (opd_eq (Deep.of hr.room)) (DE.dv (de_ix (DE.dv (de_ix (DE.dv (de_v (pv 3))) (DE.dv (de_v (pv 8))) (fun _ _ => rfl))) (DE.dv de_int) (fun _ _ => rfl))) (DE.dv (de_v (pv 5))) (nomark _)) (dw_and1 (db_t (DE.dv (de_callB (cd_all rfl) (by rfl) T.z_all PyProof.Rows.boot_all (da_cons (DE.dv (DF.de (df_K (cLc_K tge_n) (df_lc (own := [("row", 9)]) (vs := [9]) rfl sc__law_rows.nd (di_seq (de_sl (DE.dv (de_v (pv 3))) (do_s (de_v (pv 8))) do_n)) (blkOk_by (by kernel_rfl)) (by decide) (fun _ _ _ _ _ => (dg_name (i := 9) sc__law_rows.nd rfl (by first | exact .inl rfl | exact .inr rfl))) (fun _ _ _ _ _ => dt_nil) (fun _ _ _ _ _ => (de_cmp (opd_ge (Deep.of hr.room)) (DE.dv (de_ix (DE.dv (de_v (pv 9))) (DE.dv de_int) (fun _ _ => rfl))) (DE.dv (de_v (pv 5))) (nomark _))))))) da_nil))) (fun _ => rfl))))))) (fun _ _ _ _ _ => (de_v (pv 8)))))
    (dss_cons (ds_set (i := 5) sc__law_rows.nd rfl (by first | exact .inl rfl | exact .inr rfl) (de_if (db_c (opd_lt (Deep.of hr.room)) (DE.dv (de_callB cd_len (by rfl) T.z_len PySem.boot_len (da_cons (DE.dv (de_v (pv 6))) da_nil))) (DE.dv de_int) (nomark _)) (de_v (pv 5)) (de_callB (cd_min rfl (Deep.of hr.room)) (by rfl) T.z_min PyProof.Rows.boot_min (da_cons (DE.dv de_int) (da_cons (DE.dv (de_op opd_add (DE.dv (de_ix (DE.dv (de_ix (DE.dv (de_v (pv 3))) (DE.dv (de_un und_neg de_int)) (fun _ _ => rfl))) (DE.dv de_int) (fun _ _ => rfl))) (DE.dv de_int))) da_nil)))))
    (dss_cons (ds_K (congrArg (fun z => sSet 6 (cL z)) (cLc_K tge_n)) (ds_setLcV (i := 6) (own := [("j", 8)]) (vs := [8]) rfl sc__law_rows.nd rfl rfl (sw_true rfl rfl rfl (by kernel_rfl)) (di_r2 (by rfl) T.z_range de_int (de_callB cd_len (by rfl) T.z_len PySem.boot_len (da_cons (DE.dv (de_v (pv 3))) da_nil))) (blkOk_by (by kernel_rfl)) (by decide) (fun _ _ _ _ _ => (dg_name (i := 8) sc__law_rows.nd rfl (by first | exact .inl rfl | exact .inr rfl))) (fun _ _ _ _ _ => (dt_one (db_w (dw_and (db_c (opd_eq (Deep.of hr.room)) (DE.dv (de_ix (DE.dv (de_ix (DE.dv (de_v (pv 3))) (DE.dv (de_v (pv 8))) (fun _ _ => rfl))) (DE.dv de_int) (fun _ _ => rfl))) (DE.dv (de_v (pv 5))) (nomark _)) (dw_and1 (db_t (DE.dv (de_callB (cd_all rfl) (by rfl) T.z_all PyProof.Rows.boot_all (da_cons (DE.dv (DF.de (df_K (cLc_K tge_n) (df_lc (own := [("row", 9)]) (vs := [9]) rfl sc__law_rows.nd (di_seq (de_sl (DE.dv (de_v (pv 3))) (do_s (de_v (pv 8))) do_n)) (blkOk_by (by kernel_rfl)) (by decide) (fun _ _ _ _ _ => (dg_name (i := 9) sc__law_rows.nd rfl (by first | exact .inl rfl | exact .inr rfl))) (fun _ _ _ _ _ => dt_nil) (fun _ _ _ _ _ => (de_cmp (opd_ge (Deep.of hr.room)) (DE.dv (de_ix (DE.dv (de_v (pv 9))) (DE.dv de_int) (fun _ _ => rfl))) (DE.dv (de_v (pv 5))) (nomark _))))))) da_nil))) (fun _ => rfl))))))) (fun _ _ _ _ _ => (de_v (pv 8)))))
    (dss_cons (ds_K (congrArg (fun z => sSet 7 (cL z)) (cLc_K tge_n)) (ds_setLcV (i := 7) (own := [("j", 8)]) (vs := [8]) rfl sc__law_rows.nd rfl rfl (sw_true rfl rfl rfl (by kernel_rfl)) (di_r1 (by rfl) T.z_range (de_op opd_add (DE.dv de_int) (DE.dv (de_op opd_mod (DE.dv (de_callTy cd_int (by rfl) T.z_int PyProof.Rows.boot_int (da_cons (DE.dv (de_ix (DE.dv (de_v (pv 0))) (DE.dv (de_op opd_add (DE.dv de_int) (DE.dv (de_v (pv 4))))) (fun _ _ => rfl))) da_nil))) (DE.dv (de_v (pv 1))))))) (blkOk_by (by kernel_rfl)) (by decide) (fun _ _ _ _ _ => (dg_name (i := 8) sc__law_rows.nd rfl (by first | exact .inl rfl | exact .inr rfl))) (fun _ _ _ _ _ => dt_nil) (fun _ _ _ _ _ => (de_if (db_c (opd_gt (Deep.of hr.room)) (DE.dv (de_op opd_mod (DE.dv (de_callTy cd_int (by rfl) T.z_int PyProof.Rows.boot_int (da_cons (DE.dv (de_ix (DE.dv (de_v (pv 0))) (DE.dv (de_op opd_add (DE.dv (de_op opd_add (DE.dv de_int) (DE.dv (de_op opd_mulS (DE.dv de_int) (DE.dv (de_v (pv 4))))))) (DE.dv (de_v (pv 8))))) (fun _ _ => rfl))) da_nil))) (DE.dv de_int))) (DE.dv de_int) (nomark _)) (de_op opd_mod (DE.dv (de_op opd_fdiv (DE.dv (de_callTy cd_int (by rfl) T.z_int PyProof.Rows.boot_int (da_cons (DE.dv (de_ix (DE.dv (de_v (pv 0))) (DE.dv (de_op opd_add (DE.dv (de_op opd_add (DE.dv de_int) (DE.dv (de_op opd_mulS (DE.dv de_int) (DE.dv (de_v (pv 4))))))) (DE.dv (de_v (pv 8))))) (fun _ _ => rfl))) da_nil))) (DE.dv de_int))) (DE.dv de_int)) de_int))))
    (dss_one (ds_set (i := 3) sc__law_rows.nd rfl (by first | exact .inl rfl | exact .inr rfl) (de_op opd_add (DE.dv (de_v (pv 3))) (DE.dv (de_if (db_c (opd_lt (Deep.of hr.room)) (DE.dv (de_callB cd_len (by rfl) T.z_len PySem.boot_len (da_cons (DE.dv (de_v (pv 6))) da_nil))) (DE.dv de_int) (nomark _)) (DF.de (df_lst (dc_cons (de_tup (dc_cons (de_v (pv 5)) (dc_cons (de_v (pv 7)) dc_nil))) dc_nil))) (DF.de (df_lst dc_nil)))))))))))))
    (dss_one (ds_ret (de_v (pv 3)))))))
theorem sc__law_wrong_groups : FnScope ["one", "deep", "k", "wide", "wrong"] [] (defScope s__law_wrong_groups) := ⟨rfl, rfl, rfl, by decide +kernel, rfl, by decide +kernel, by decide +kernel⟩
theorem fn__law_wrong_groups (T : Tx K mg) : FnDG P w K mg base 1 T.f__law_wrong_groups T.fd__law_wrong_groups [] F__law_wrong_groups := fnDG_of (N := ["one", "deep", "k", "wide", "wrong"]) (k := 0) (g := g__law_wrong_groups) T.F__law_wrong_groups sc__law_wrong_groups fun cdv A outer s H E hr => (show DSs _ _ _ g__law_wrong_groups from
    (dss_cons (ds_set (i := 0) sc__law_wrong_groups.nd rfl (by first | exact .inl rfl | exact .inr rfl) (de_tup (dc_cons de_str (dc_cons (de_tup dc_nil) dc_nil))))
    (dss_cons (ds_set (i := 1) sc__law_wrong_groups.nd rfl (by first | exact .inl rfl | exact .inr rfl) (de_v (pv 0)))
    (dss_cons (ds_for (passes_of rfl) rfl (di_r1 (by rfl) T.z_range de_int) (dg_name (i := 2) sc__law_wrong_groups.nd rfl (by first | exact .inl rfl | exact .inr rfl))
    (dss_one (ds_set (i := 1) sc__law_wrong_groups.nd rfl (by first | exact .inl rfl | exact .inr rfl) (de_tup (dc_cons de_str (dc_cons (de_tup (dc_cons (de_v (pv 1)) dc_nil)) dc_nil))))))
    (dss_cons (ds_set (i := 3) sc__law_wrong_groups.nd rfl (by first | exact .inl rfl | exact .inr rfl) (de_tup (dc_cons de_str (dc_cons (de_op opd_mulS (DE.dv (de_tup (dc_cons (de_v (pv 0)) dc_nil))) (DE.dv de_int)) dc_nil))))
    (dss_cons (ds_set (i := 4) sc__law_wrong_groups.nd rfl (by first | exact .inl rfl | exact .inr rfl) (DF.de (df_lst (dc_cons de_non (dc_cons (de_tup dc_nil) (dc_cons de_str (dc_cons (de_tup (dc_cons de_str dc_nil)) (dc_cons (de_tup (dc_cons de_str (dc_cons (de_tup dc_nil) dc_nil))) (dc_cons (DF.de (df_lst (dc_cons de_str (dc_cons (de_tup (dc_cons (de_v (pv 0)) dc_nil)) dc_nil)))) (dc_cons (de_tup (dc_cons de_str (dc_cons (DF.de (df_lst (dc_cons (de_v (pv 0)) dc_nil))) dc_nil))) (dc_cons (de_tup (dc_cons de_str (dc_cons (de_tup (dc_cons (de_v (pv 0)) dc_nil)) dc_nil))) (dc_cons (de_tup (dc_cons de_str (dc_cons (de_tup (dc_cons (de_tup (dc_cons de_str (dc_cons (de_tup dc_nil) dc_nil))) dc_nil)) dc_nil))) (dc_cons (de_tup (dc_cons de_str (dc_cons (de_tup (dc_cons (de_tup (dc_cons de_str dc_nil)) dc_nil)) dc_nil))) dc_nil)))))))))))))
    (dss_one (ds_ret (de_op opd_add (DE.dv (de_v (pv 4))) (DE.dv (DF.de (df_lst (dc_cons (de_tup (dc_cons de_str (dc_cons (de_op opd_mulS (DE.dv (de_tup (dc_cons (de_v (pv 0)) dc_nil))) (DE.dv de_int)) dc_nil))) (dc_cons (de_tup (dc_cons de_str (dc_cons (de_tup (dc_cons (de_v (pv 1)) dc_nil)) dc_nil))) (dc_cons (de_tup (dc_cons de_str (dc_cons (de_tup (dc_cons (de_v (pv 3)) (dc_cons (de_v (pv 3)) (dc_cons (de_v (pv 0)) dc_nil)))) dc_nil))) (dc_cons (de_tup (dc_cons de_str (dc_cons (de_tup (dc_cons de_str dc_nil)) dc_nil))) (dc_cons (de_tup (dc_cons de_str (dc_cons (de_v (pv 0)) dc_nil))) dc_nil)))))))))))))))))
theorem sc__law_same : FnScope ["told", "due"] ["told", "due"] (defScope s__law_same) := ⟨rfl, rfl, rfl, by decide +kernel, rfl, by decide +kernel, by decide +kernel⟩
theorem fn__law_same (T : Tx K mg) : FnDG P w K mg base 1 T.f__law_same T.fd__law_same ["told", "due"] F__law_same := fnDG_of (N := ["told", "due"]) (k := 0) (g := g__law_same) T.F__law_same sc__law_same fun cdv A outer s H E hr => (show DSs _ _ _ g__law_same from
    (dss_one (ds_ret (de_and (de_cmp (opd_eq (Deep.of hr.room)) (DE.dv (de_v (pv 0))) (DE.dv (de_v (pv 1))) (nomark _)) (de_one (de_cmp (opd_eq (Deep.of hr.room)) (DE.dv (de_callB (cd_repr hr) (by rfl) T.z_repr PyProof.Rows.boot_repr (da_cons (DE.dv (de_v (pv 0))) da_nil))) (DE.dv (de_callB (cd_repr hr) (by rfl) T.z_repr PyProof.Rows.boot_repr (da_cons (DE.dv (de_v (pv 1))) da_nil))) (nomark _)))))))
theorem sc_is_cord : FnScope ["value", "words", "word"] ["value"] (defScope s_is_cord) := ⟨rfl, rfl, rfl, by decide +kernel, rfl, by decide +kernel, by decide +kernel⟩
theorem fn_is_cord (T : Tx K mg) : FnDG P w K mg base 2 T.f_is_cord T.fd_is_cord ["value"] F_is_cord := fnDG_of (N := ["value", "words", "word"]) (k := 1) (g := g_is_cord) T.F_is_cord sc_is_cord fun cdv A outer s H E hr => (show DSs _ _ _ g_is_cord from
    (dss_cons (ds_if (db_not (db_t (DE.dv (de_isa isa_str (by rfl) T.z_isinstance (by rfl) T.z_str PyProof.Rows.boot_str (DE.dv (de_v (pv 0))))) (fun _ => rfl)))
    (dss_one (ds_ret de_bl))
    dss_nil)
    (dss_cons (ds_set (i := 1) sc_is_cord.nd rfl (by first | exact .inl rfl | exact .inr rfl) (DF.de (df_split (de_v (pv 0)) (de_mc T.c_BETWEEN (by rfl)))))
    (dss_cons (ds_if (db_c (opd_gt (Deep.of hr.room)) (DE.dv (de_callB cd_len (by rfl) T.z_len PySem.boot_len (da_cons (DE.dv (de_v (pv 1))) da_nil))) (DE.dv (de_mc T.c_MOST_PLACES (by rfl))) (nomark _))
    (dss_one (ds_ret de_bl))
    dss_nil)
    (dss_one (ds_ret (de_and (de_callB (cd_all rfl) (by rfl) T.z_all PyProof.Rows.boot_all (da_cons (DE.dv (DF.de (df_K (cLc_K tge_n) (df_lc (own := [("word", 2)]) (vs := [2]) rfl sc_is_cord.nd (di_seq (de_sl (DE.dv (de_v (pv 1))) do_n (do_s (de_un und_neg de_int)))) (blkOk_by (by kernel_rfl)) (by decide) (fun _ _ _ _ _ => (dg_name (i := 2) sc_is_cord.nd rfl (by first | exact .inl rfl | exact .inr rfl))) (fun _ _ _ _ _ => dt_nil) (fun _ _ _ _ _ => (de_clG (fn__is_high T) (hr.mono (by decide)) (by rfl) T.m__is_high T.k__is_high T.b__is_high takesW0 (dc_cons (de_v (pv 2)) dc_nil))))))) da_nil)) (de_one (de_clG (fn__are_units T) (hr.mono (by decide)) (by rfl) T.m__are_units T.k__are_units T.b__are_units (takes_of rfl rfl rfl rfl) (dc_cons (de_ix (DE.dv (de_v (pv 1))) (DE.dv (de_un und_neg de_int)) (fun _ _ => rfl)) dc_nil))))))))))
theorem sc__law_path : FnScope ["rows", "at", "path", "k", "above", "j"] ["rows", "at"] (defScope s__law_path) := ⟨rfl, rfl, rfl, by decide +kernel, rfl, by decide +kernel, by decide +kernel⟩
theorem fn__law_path (T : Tx K mg) : FnDG P w K mg base 2 T.f__law_path T.fd__law_path ["rows", "at"] F__law_path := fnDG_of (N := ["rows", "at", "path", "k", "above", "j"]) (k := 1) (g := g__law_path) T.F__law_path sc__law_path fun cdv A outer s H E hr => (show DSs _ _ _ g__law_path from
    (dss_cons (ds_set (i := 2) sc__law_path.nd rfl (by first | exact .inl rfl | exact .inr rfl) (DF.de (df_lst dc_nil)))
    (dss_cons (ds_for (passes_of rfl) rfl (di_r1 (by rfl) T.z_range de_int) (dg_name (i := 3) sc__law_path.nd rfl (by first | exact .inl rfl | exact .inr rfl))
    (dss_one (ds_if (db_c (opd_gt (Deep.of hr.room)) (DE.dv (de_v (pv 1))) (DE.dv de_int) (nomark _))
    (dss_cons (ds_set (i := 4) sc__law_path.nd rfl (by first | exact .inl rfl | exact .inr rfl) (de_clG (fn__law_parent T) (hr.mono (by decide)) (by rfl) T.m__law_parent T.k__law_parent T.b__law_parent (takes_of rfl rfl rfl rfl) (dc_cons (de_v (pv 0)) (dc_cons (de_v (pv 1)) dc_nil))))
    (dss_cons (ds_set (i := 2) sc__law_path.nd rfl (by first | exact .inl rfl | exact .inr rfl) (de_op opd_add (DE.dv (DF.de (df_lst (dc_cons (de_callB cd_len (by rfl) T.z_len PySem.boot_len (da_cons (DE.dv (DF.de (df_K (cLc_K tge_n) (df_lc (own := [("j", 5)]) (vs := [5]) rfl sc__law_path.nd (di_r2 (by rfl) T.z_range de_int (de_v (pv 1))) (blkOk_by (by kernel_rfl)) (by decide) (fun _ _ _ _ _ => (dg_name (i := 5) sc__law_path.nd rfl (by first | exact .inl rfl | exact .inr rfl))) (fun _ _ _ _ _ => (dt_one (db_c (opd_eq (Deep.of hr.room)) (DE.dv (de_clG (fn__law_parent T) (hr.mono (by decide)) (by rfl) T.m__law_parent T.k__law_parent T.b__law_parent takesW0 (dc_cons (de_v (pv 0)) (dc_cons (de_v (pv 5)) dc_nil)))) (DE.dv (de_v (pv 4))) (nomark _)))) (fun _ _ _ _ _ => (de_v (pv 5))))))) da_nil)) dc_nil)))) (DE.dv (de_v (pv 2)))))
    (dss_one (ds_set (i := 1) sc__law_path.nd rfl (by first | exact .inl rfl | exact .inr rfl) (de_v (pv 4))))))
    dss_nil)))
    (dss_one (ds_ret (de_callTy cd_tuple (by rfl) T.z_tuple PyProof.Rows.boot_tuple (da_cons (DE.dv (de_v (pv 2))) da_nil)))))))
theorem sc__paths : FnScope ["hung", "path", "found", "number", "one"] ["hung", "path"] (defScope s__paths) := ⟨rfl, rfl, rfl, by decide +kernel, rfl, by decide +kernel, by decide +kernel⟩
theorem fn__paths_n (T : Tx K mg) : ∀ n : Nat, FnDG P w K mg base (0 + n) T.f__paths T.fd__paths ["hung", "path"] (F__paths_n n)
  | 0 => fnDG_bad
  | n + 1 => show FnDG P w K mg base (0 + n + 1) T.f__paths T.fd__paths ["hung", "path"] (fun ds => fin (g__paths (F__paths_n n) (startE 5 ds))) from fnDG_of (N := ["hung", "path", "found", "number", "one"]) (k := 0 + n) (g := g__paths (F__paths_n n)) T.F__paths sc__paths fun cdv A outer s H E hr => (show DSs _ _ _ (g__paths (F__paths_n n)) from
    (dss_cons (ds_setL (i := 2) sc__paths.nd rfl (by first | exact .inl rfl | exact .inr rfl) (df_lst dc_nil))
    (dss_cons (ds_for (passes_of rfl) rfl (di_enum (by rfl) T.z_enumerate (de_v (pv 0))) (dg_tup (n := 2) rfl (dgs_cons (dg_name (i := 3) sc__paths.nd rfl (by first | exact .inl rfl | exact .inr rfl)) (dgs_cons (dg_name (i := 4) sc__paths.nd rfl (by first | exact .inl rfl | exact .inr rfl)) dgs_nil)))
    (dss_one (ds_iadd (i := 2) sc__paths.nd rfl (by first | exact .inl rfl | exact .inr rfl) (de_op opd_add (DE.dv (DF.de (df_lst (dc_cons (de_op opd_add (DE.dv (de_v (pv 1))) (DE.dv (de_tup (dc_cons (de_v (pv 3)) dc_nil)))) dc_nil)))) (DE.dv (de_clG (fn__paths_n T n) (hr.mono (Nat.le_refl _)) (by rfl) T.m__paths T.k__paths T.b__paths (takes_of rfl rfl rfl rfl) (dc_cons (de_ix (DE.dv (de_v (pv 4))) (DE.dv de_int) (fun _ _ => rfl)) (dc_cons (de_op opd_add (DE.dv (de_v (pv 1))) (DE.dv (de_tup (dc_cons (de_v (pv 3)) dc_nil)))) dc_nil))))))))
    (dss_frz 2 (dss_one (ds_ret (de_v (pv 2))))))))
theorem fn__paths (T : Tx K mg) : FnDG P w K mg base 12 T.f__paths T.fd__paths ["hung", "path"] F__paths := fn__paths_n T 12
theorem sc__with_part : FnScope ["part", "path", "new", "number", "hung"] ["part", "path", "new"] (defScope s__with_part) := ⟨rfl, rfl, rfl, by decide +kernel, rfl, by decide +kernel, by decide +kernel⟩
theorem fn__with_part_n (T : Tx K mg) : ∀ n : Nat, FnDG P w K mg base (0 + n) T.f__with_part T.fd__with_part ["part", "path", "new"] (F__with_part_n n)
  | 0 => fnDG_bad
  | n + 1 => show FnDG P w K mg base (0 + n + 1) T.f__with_part T.fd__with_part ["part", "path", "new"] (fun ds => fin (g__with_part (F__with_part_n n) (startE 5 ds))) from fnDG_of (N := ["part", "path", "new", "number", "hung"]) (k := 0 + n) (g := g__with_part (F__with_part_n n)) T.F__with_part sc__with_part fun cdv A outer s H E hr => (show DSs _ _ _ (g__with_part (F__with_part_n n)) from
    (dss_cons (ds_if (db_c (opd_eq (Deep.of hr.room)) (DE.dv (de_callB cd_len (by rfl) T.z_len PySem.boot_len (da_cons (DE.dv (de_v (pv 1))) da_nil))) (DE.dv de_int) (nomark _))
    (dss_one (ds_ret (de_v (pv 2))))
    dss_nil)
    (dss_cons (ds_par (i := 3) (j := 4) rfl sc__with_part.nd rfl rfl (by decide) rfl rfl (de_ix (DE.dv (de_v (pv 1))) (DE.dv de_int) (fun _ _ => rfl)) (de_ix (DE.dv (de_v (pv 0))) (DE.dv de_int) (fun _ _ => rfl)) (by rfl))
    (dss_one (ds_ret (de_tup (dc_cons (de_ix (DE.dv (de_v (pv 0))) (DE.dv de_int) (fun _ _ => rfl)) (dc_cons (de_op opd_add (DE.dv (de_op opd_add (DE.dv (de_sl (DE.dv (de_v (pv 4))) do_n (do_s (de_v (pv 3))))) (DE.dv (de_tup (dc_cons (de_clG (fn__with_part_n T n) (hr.mono (Nat.le_refl _)) (by rfl) T.m__with_part T.k__with_part T.b__with_part (takes_of rfl rfl rfl rfl) (dc_cons (de_ix (DE.dv (de_v (pv 4))) (DE.dv (de_v (pv 3))) (fun _ _ => rfl)) (dc_cons (de_sl (DE.dv (de_v (pv 1))) (do_s de_int) do_n) (dc_cons (de_v (pv 2)) dc_nil)))) dc_nil))))) (DE.dv (de_sl (DE.dv (de_v (pv 4))) (do_s (de_op opd_add (DE.dv (de_v (pv 3))) (DE.dv de_int))) do_n))) dc_nil))))))))
theorem fn__with_part (T : Tx K mg) : FnDG P w K mg base 12 T.f__with_part T.fd__with_part ["part", "path", "new"] F__with_part := fn__with_part_n T 12
theorem sc_all_paths : FnScope ["group"] ["group"] (defScope s_all_paths) := ⟨rfl, rfl, rfl, by decide +kernel, rfl, by decide +kernel, by decide +kernel⟩
theorem fn_all_paths (T : Tx K mg) : FnDG P w K mg base 13 T.f_all_paths T.fd_all_paths ["group"] F_all_paths := fnDG_of (N := ["group"]) (k := 12) (g := g_all_paths) T.F_all_paths sc_all_paths fun cdv A outer s H E hr => (show DSs _ _ _ g_all_paths from
    (dss_one (ds_ret (de_op opd_add (DE.dv (DF.de (df_lst (dc_cons (de_tup dc_nil) dc_nil)))) (DE.dv (de_clG (fn__paths T) (hr.mono (by decide)) (by rfl) T.m__paths T.k__paths T.b__paths (takes_of rfl rfl rfl rfl) (dc_cons (de_ix (DE.dv (de_v (pv 0))) (DE.dv de_int) (fun _ _ => rfl)) (dc_cons (de_tup dc_nil) dc_nil))))))))
theorem sc__total : FnScope ["part", "one"] ["part"] (defScope s__total) := ⟨rfl, rfl, rfl, by decide +kernel, rfl, by decide +kernel, by decide +kernel⟩
theorem fn__total_n (T : Tx K mg) : ∀ n : Nat, FnDG P w K mg base (1 + n) T.f__total T.fd__total ["part"] (F__total_n n)
  | 0 => fnDG_bad
  | n + 1 => show FnDG P w K mg base (1 + n + 1) T.f__total T.fd__total ["part"] (fun ds => fin (g__total (F__total_n n) (startE 2 ds))) from fnDG_of (N := ["part", "one"]) (k := 1 + n) (g := g__total (F__total_n n)) T.F__total sc__total fun cdv A outer s H E hr => (show DSs _ _ _ (g__total (F__total_n n)) from
    (dss_one (ds_ret (de_op opd_add (DE.dv (de_clG (fn_number_by T) (hr.mono (by omega)) (by rfl) T.m_number_by T.k_number_by T.b_number_by (takes_of rfl rfl rfl rfl) (dc_cons (de_clG (fn_figures_on T) (hr.mono (by omega)) (by rfl) T.m_figures_on T.k_figures_on T.b_figures_on (takes_of rfl rfl rfl rfl) (dc_cons (de_ix (DE.dv (de_v (pv 0))) (DE.dv de_int) (fun _ _ => rfl)) dc_nil)) dc_nil))) (DE.dv (de_callB (cd_sum rfl) (by rfl) T.z_sum PyProof.Rows.boot_sum (da_cons (DE.dv (DF.de (df_K (cLc_K tge_n) (df_lc (own := [("one", 1)]) (vs := [1]) rfl sc__total.nd (di_seq (de_ix (DE.dv (de_v (pv 0))) (DE.dv de_int) (fun _ _ => rfl))) (blkOk_by (by kernel_rfl)) (by decide) (fun _ _ _ _ _ => (dg_name (i := 1) sc__total.nd rfl (by first | exact .inl rfl | exact .inr rfl))) (fun _ _ _ _ _ => dt_nil) (fun _ _ _ _ _ => (de_clG (fn__total_n T n) (hr.mono (Nat.le_refl _)) (by rfl) T.m__total T.k__total T.b__total takesW0 (dc_cons (de_v (pv 1)) dc_nil))))))) da_nil)))))))
theorem fn__total (T : Tx K mg) : FnDG P w K mg base 13 T.f__total T.fd__total ["part"] F__total := fn__total_n T 12
theorem sc__law_tree : FnScope ["rows", "at", "k"] ["rows", "at"] (defScope s__law_tree) := ⟨rfl, rfl, rfl, by decide +kernel, rfl, by decide +kernel, by decide +kernel⟩
theorem fn__law_tree_n (T : Tx K mg) : ∀ n : Nat, FnDG P w K mg base (1 + n) T.f__law_tree T.fd__law_tree ["rows", "at"] (F__law_tree_n n)
  | 0 => fnDG_bad
  | n + 1 => show FnDG P w K mg base (1 + n + 1) T.f__law_tree T.fd__law_tree ["rows", "at"] (fun ds => fin (g__law_tree (F__law_tree_n n) (startE 3 ds))) from fnDG_of (N := ["rows", "at", "k"]) (k := 1 + n) (g := g__law_tree (F__law_tree_n n)) T.F__law_tree sc__law_tree fun cdv A outer s H E hr => (show DSs _ _ _ (g__law_tree (F__law_tree_n n)) from
    (dss_one (ds_ret (de_callTy cd_tuple (by rfl) T.z_tuple PyProof.Rows.boot_tuple (da_cons (DE.dv (DF.de (df_K (cLc_K tge_n) (df_lc (own := [("k", 2)]) (vs := [2]) rfl sc__law_tree.nd (di_r2 (by rfl) T.z_range (de_op opd_add (DE.dv (de_v (pv 1))) (DE.dv de_int)) (de_callB cd_len (by rfl) T.z_len PySem.boot_len (da_cons (DE.dv (de_v (pv 0))) da_nil))) (blkOk_by (by kernel_rfl)) (by decide) (fun _ _ _ _ _ => (dg_name (i := 2) sc__law_tree.nd rfl (by first | exact .inl rfl | exact .inr rfl))) (fun _ _ _ _ _ => (dt_one (db_c (opd_eq (Deep.of hr.room)) (DE.dv (de_clG (fn__law_parent T) (hr.mono (by omega)) (by rfl) T.m__law_parent T.k__law_parent T.b__law_parent takesW0 (dc_cons (de_v (pv 0)) (dc_cons (de_v (pv 2)) dc_nil)))) (DE.dv (de_v (pv 1))) (nomark _)))) (fun _ _ _ _ _ => (de_tup (dc_cons (de_clG (fn__law_cord T) (hr.mono (by omega)) (by rfl) T.m__law_cord T.k__law_cord T.b__law_cord takesW0 (dc_cons (de_ix (DE.dv (de_ix (DE.dv (de_v (pv 0))) (DE.dv (de_v (pv 2))) (fun _ _ => rfl))) (DE.dv de_int) (fun _ _ => rfl)) dc_nil)) (dc_cons (de_clG (fn__law_tree_n T n) (hr.mono (Nat.le_refl _)) (by rfl) T.m__law_tree T.k__law_tree T.b__law_tree takesW0 (dc_cons (de_v (pv 0)) (dc_cons (de_v (pv 2)) dc_nil))) dc_nil)))))))) da_nil)))))
theorem fn__law_tree (T : Tx K mg) : FnDG P w K mg base 13 T.f__law_tree T.fd__law_tree ["rows", "at"] F__law_tree := fn__law_tree_n T 12
theorem sc__are_hung : FnScope ["value", "deep", "one"] ["value", "deep"] (defScope s__are_hung) := ⟨rfl, rfl, rfl, by decide +kernel, rfl, by decide +kernel, by decide +kernel⟩
theorem fn__are_hung_n (T : Tx K mg) : ∀ n : Nat, FnDG P w K mg base (2 + n) T.f__are_hung T.fd__are_hung ["value", "deep"] (F__are_hung_n n)
  | 0 => fnDG_bad
  | n + 1 => show FnDG P w K mg base (2 + n + 1) T.f__are_hung T.fd__are_hung ["value", "deep"] (fun ds => fin (g__are_hung (F__are_hung_n n) (startE 3 ds))) from fnDG_of (N := ["value", "deep", "one"]) (k := 2 + n) (g := g__are_hung (F__are_hung_n n)) T.F__are_hung sc__are_hung fun cdv A outer s H E hr => (show DSs _ _ _ (g__are_hung (F__are_hung_n n)) from
    (dss_cons (ds_if (db_w (dw_or (db_not (db_t (DE.dv (de_isa isa_tuple (by rfl) T.z_isinstance (by rfl) T.z_tuple PyProof.Rows.boot_tuple (DE.dv (de_v (pv 0))))) (fun _ => rfl))) (dw_or (db_c (opd_gt (Deep.of hr.room)) (DE.dv (de_callB cd_len (by rfl) T.z_len PySem.boot_len (da_cons (DE.dv (de_v (pv 0))) da_nil))) (DE.dv (de_mc T.c_MOST_HUNG (by rfl))) (nomark _)) (dw_or1 (db_w (dw_and (db_c (opd_gt (Deep.of hr.room)) (DE.dv (de_callB cd_len (by rfl) T.z_len PySem.boot_len (da_cons (DE.dv (de_v (pv 0))) da_nil))) (DE.dv de_int) (nomark _)) (dw_and1 (db_c (opd_eq (Deep.of hr.room)) (DE.dv (de_v (pv 1))) (DE.dv de_int) (nomark _)))))))))
    (dss_one (ds_ret de_bl))
    dss_nil)
    (dss_cons (ds_for (passes_of rfl) rfl (di_seq (de_v (pv 0))) (dg_name (i := 2) sc__are_hung.nd rfl (by first | exact .inl rfl | exact .inr rfl))
    (dss_one (ds_if (db_w (dw_or (db_not (db_t (DE.dv (de_isa isa_tuple (by rfl) T.z_isinstance (by rfl) T.z_tuple PyProof.Rows.boot_tuple (DE.dv (de_v (pv 2))))) (fun _ => rfl))) (dw_or (db_c (opd_ne (Deep.of hr.room)) (DE.dv (de_callB cd_len (by rfl) T.z_len PySem.boot_len (da_cons (DE.dv (de_v (pv 2))) da_nil))) (DE.dv de_int) (nomark _)) (dw_or (db_not (db_t (DE.dv (de_clG (fn_is_cord T) (hr.mono (by omega)) (by rfl) T.m_is_cord T.k_is_cord T.b_is_cord (takes_of rfl rfl rfl rfl) (dc_cons (de_ix (DE.dv (de_v (pv 2))) (DE.dv de_int) (fun _ _ => rfl)) dc_nil))) (fun _ => rfl))) (dw_or1 (db_not (db_t (DE.dv (de_clG (fn__are_hung_n T n) (hr.mono (Nat.le_refl _)) (by rfl) T.m__are_hung T.k__are_hung T.b__are_hung (takes_of rfl rfl rfl rfl) (dc_cons (de_ix (DE.dv (de_v (pv 2))) (DE.dv de_int) (fun _ _ => rfl)) (dc_cons (de_op opd_sub (DE.dv (de_v (pv 1))) (DE.dv de_int)) dc_nil)))) (fun _ => rfl))))))))
    (dss_one (ds_ret de_bl))
    dss_nil)))
    (dss_one (ds_ret de_bl)))))
theorem fn__are_hung (T : Tx K mg) : FnDG P w K mg base 14 T.f__are_hung T.fd__are_hung ["value", "deep"] F__are_hung := fn__are_hung_n T 12
theorem sc_check_path : FnScope ["group", "path", "one"] ["group", "path"] (defScope s_check_path) := ⟨rfl, rfl, rfl, by decide +kernel, rfl, by decide +kernel, by decide +kernel⟩
theorem fn_check_path (T : Tx K mg) : FnDG P w K mg base 14 T.f_check_path T.fd_check_path ["group", "path"] F_check_path := fnDG_of (N := ["group", "path", "one"]) (k := 13) (g := g_check_path) T.F_check_path sc_check_path fun cdv A outer s H E hr => (show DSs _ _ _ g_check_path from
    (dss_cons (ds_if (db_w (dw_or (db_not (db_t (DE.dv (de_isa isa_tuple (by rfl) T.z_isinstance (by rfl) T.z_tuple PyProof.Rows.boot_tuple (DE.dv (de_v (pv 1))))) (fun _ => rfl))) (dw_or1 (db_c (opd_gt (Deep.of hr.room)) (DE.dv (de_callB cd_len (by rfl) T.z_len PySem.boot_len (da_cons (DE.dv (de_v (pv 1))) da_nil))) (DE.dv (de_mc T.c_MOST_DEEP (by rfl))) (nomark _)))))
    (dss_one (ds_raise rfl (takes_of rfl rfl rfl rfl) PySem.F.excBase_ValueError T.x_BadPath T.g_BadPath T.k_BadPath (raises_own T.s_BadPath T.t_BadPath) (by rfl)))
    dss_nil)
    (dss_one (ds_if (db_w (dw_or (db_not (db_t (DE.dv (de_callB (cd_all rfl) (by rfl) T.z_all PyProof.Rows.boot_all (da_cons (DE.dv (DF.de (df_K (cLc_K tge_n) (df_lc (own := [("one", 2)]) (vs := [2]) rfl sc_check_path.nd (di_seq (de_v (pv 1))) (blkOk_by (by kernel_rfl)) (by decide) (fun _ _ _ _ _ => (dg_name (i := 2) sc_check_path.nd rfl (by first | exact .inl rfl | exact .inr rfl))) (fun _ _ _ _ _ => dt_nil) (fun _ _ _ _ _ => (de_clG (fn_is_whole T) (hr.mono (by decide)) (by rfl) T.m_is_whole T.k_is_whole T.b_is_whole takesW0 (dc_cons (de_v (pv 2)) (dc_cons de_int (dc_cons (de_mc T.c_MOST_HUNG (by rfl)) dc_nil))))))))) da_nil))) (fun _ => rfl))) (dw_or1 (db_c (opd_notinS (Deep.of hr.room)) (DE.dv (de_v (pv 1))) (DE.dv (de_clG (fn_all_paths T) (hr.mono (by decide)) (by rfl) T.m_all_paths T.k_all_paths T.b_all_paths (takes_of rfl rfl rfl rfl) (dc_cons (de_v (pv 0)) dc_nil))) (by with_unfolding_all rfl)))))
    (dss_one (ds_raise rfl (takes_of rfl rfl rfl rfl) PySem.F.excBase_ValueError T.x_BadPath T.g_BadPath T.k_BadPath (raises_own T.s_BadPath T.t_BadPath) (by rfl)))
    dss_nil))))
theorem sc_gap_in : FnScope ["group", "one"] ["group"] (defScope s_gap_in) := ⟨rfl, rfl, rfl, by decide +kernel, rfl, by decide +kernel, by decide +kernel⟩
theorem fn_gap_in (T : Tx K mg) : FnDG P w K mg base 14 T.f_gap_in T.fd_gap_in ["group"] F_gap_in := fnDG_of (N := ["group", "one"]) (k := 13) (g := g_gap_in) T.F_gap_in sc_gap_in fun cdv A outer s H E hr => (show DSs _ _ _ g_gap_in from
    (dss_one (ds_ret (de_op opd_sub (DE.dv (de_clG (fn_number_by T) (hr.mono (by decide)) (by rfl) T.m_number_by T.k_number_by T.b_number_by (takes_of rfl rfl rfl rfl) (dc_cons (de_clG (fn_figures_on T) (hr.mono (by decide)) (by rfl) T.m_figures_on T.k_figures_on T.b_figures_on (takes_of rfl rfl rfl rfl) (dc_cons (de_ix (DE.dv (de_v (pv 0))) (DE.dv de_int) (fun _ _ => rfl)) dc_nil)) dc_nil))) (DE.dv (de_callB (cd_sum rfl) (by rfl) T.z_sum PyProof.Rows.boot_sum (da_cons (DE.dv (DF.de (df_K (cLc_K tge_n) (df_lc (own := [("one", 1)]) (vs := [1]) rfl sc_gap_in.nd (di_seq (de_ix (DE.dv (de_v (pv 0))) (DE.dv de_int) (fun _ _ => rfl))) (blkOk_by (by kernel_rfl)) (by decide) (fun _ _ _ _ _ => (dg_name (i := 1) sc_gap_in.nd rfl (by first | exact .inl rfl | exact .inr rfl))) (fun _ _ _ _ _ => dt_nil) (fun _ _ _ _ _ => (de_clG (fn__total T) (hr.mono (by decide)) (by rfl) T.m__total T.k__total T.b__total takesW0 (dc_cons (de_v (pv 1)) dc_nil))))))) da_nil)))))))
theorem sc__law_made : FnScope ["rows"] ["rows"] (defScope s__law_made) := ⟨rfl, rfl, rfl, by decide +kernel, rfl, by decide +kernel, by decide +kernel⟩
theorem fn__law_made (T : Tx K mg) : FnDG P w K mg base 14 T.f__law_made T.fd__law_made ["rows"] F__law_made := fnDG_of (N := ["rows"]) (k := 13) (g := g__law_made) T.F__law_made sc__law_made fun cdv A outer s H E hr => (show DSs _ _ _ g__law_made from
    (dss_one (ds_ret (de_tup (dc_cons (de_clG (fn__law_cord T) (hr.mono (by decide)) (by rfl) T.m__law_cord T.k__law_cord T.b__law_cord (takes_of rfl rfl rfl rfl) (dc_cons (de_ix (DE.dv (de_ix (DE.dv (de_v (pv 0))) (DE.dv de_int) (fun _ _ => rfl))) (DE.dv de_int) (fun _ _ => rfl)) dc_nil)) (dc_cons (de_clG (fn__law_tree T) (hr.mono (by decide)) (by rfl) T.m__law_tree T.k__law_tree T.b__law_tree (takes_of rfl rfl rfl rfl) (dc_cons (de_v (pv 0)) (dc_cons de_int dc_nil))) dc_nil))))))
theorem sc_is_group : FnScope ["value"] ["value"] (defScope s_is_group) := ⟨rfl, rfl, rfl, by decide +kernel, rfl, by decide +kernel, by decide +kernel⟩
theorem fn_is_group (T : Tx K mg) : FnDG P w K mg base 15 T.f_is_group T.fd_is_group ["value"] F_is_group := fnDG_of (N := ["value"]) (k := 14) (g := g_is_group) T.F_is_group sc_is_group fun cdv A outer s H E hr => (show DSs _ _ _ g_is_group from
    (dss_cons (ds_if (db_w (dw_or (db_not (db_t (DE.dv (de_isa isa_tuple (by rfl) T.z_isinstance (by rfl) T.z_tuple PyProof.Rows.boot_tuple (DE.dv (de_v (pv 0))))) (fun _ => rfl))) (dw_or (db_c (opd_ne (Deep.of hr.room)) (DE.dv (de_callB cd_len (by rfl) T.z_len PySem.boot_len (da_cons (DE.dv (de_v (pv 0))) da_nil))) (DE.dv de_int) (nomark _)) (dw_or1 (db_not (db_t (DE.dv (de_clG (fn_is_cord T) (hr.mono (by decide)) (by rfl) T.m_is_cord T.k_is_cord T.b_is_cord (takes_of rfl rfl rfl rfl) (dc_cons (de_ix (DE.dv (de_v (pv 0))) (DE.dv de_int) (fun _ _ => rfl)) dc_nil))) (fun _ => rfl)))))))
    (dss_one (ds_ret de_bl))
    dss_nil)
    (dss_cons (ds_if (db_w (dw_or (db_not (db_t (DE.dv (de_clG (fn__are_hung T) (hr.mono (by decide)) (by rfl) T.m__are_hung T.k__are_hung T.b__are_hung (takes_of rfl rfl rfl rfl) (dc_cons (de_ix (DE.dv (de_v (pv 0))) (DE.dv de_int) (fun _ _ => rfl)) (dc_cons (de_mc T.c_MOST_DEEP (by rfl)) dc_nil)))) (fun _ => rfl))) (dw_or1 (db_c (opd_eq (Deep.of hr.room)) (DE.dv (de_callB cd_len (by rfl) T.z_len PySem.boot_len (da_cons (DE.dv (de_ix (DE.dv (de_v (pv 0))) (DE.dv de_int) (fun _ _ => rfl))) da_nil))) (DE.dv de_int) (nomark _)))))
    (dss_one (ds_ret de_bl))
    dss_nil)
    (dss_one (ds_ret (de_cmp (opd_le (Deep.of hr.room)) (DE.dv (de_callB cd_len (by rfl) T.z_len PySem.boot_len (da_cons (DE.dv (de_clG (fn__paths T) (hr.mono (by decide)) (by rfl) T.m__paths T.k__paths T.b__paths (takes_of rfl rfl rfl rfl) (dc_cons (de_ix (DE.dv (de_v (pv 0))) (DE.dv de_int) (fun _ _ => rfl)) (dc_cons (de_tup dc_nil) dc_nil)))) da_nil))) (DE.dv (de_mc T.c_MOST_IN_ALL (by rfl))) (nomark _)))))))
theorem sc__law_due : FnScope ["rows", "at", "to", "end", "own", "last", "left", "new", "sons", "k", "row"] ["rows", "at", "to"] (defScope s__law_due) := ⟨rfl, rfl, rfl, by decide +kernel, rfl, by decide +kernel, by decide +kernel⟩
theorem fn__law_due (T : Tx K mg) : FnDG P w K mg base 15 T.f__law_due T.fd__law_due ["rows", "at", "to"] F__law_due := fnDG_of (N := ["rows", "at", "to", "end", "own", "last", "left", "new", "sons", "k", "row"]) (k := 14) (g := g__law_due) T.F__law_due sc__law_due fun cdv A outer s H E hr => (show DSs _ _ _ g__law_due from
    (dss_cons (ds_set (i := 3) sc__law_due.nd rfl (by first | exact .inl rfl | exact .inr rfl) (de_op opd_add (DE.dv (de_op opd_add (DE.dv (de_v (pv 1))) (DE.dv de_int))) (DE.dv (de_callB cd_len (by rfl) T.z_len PySem.boot_len (da_cons (DE.dv (DF.de (df_K (cLc_K tge_n) (df_lc (own := [("k", 9)]) (vs := [9]) rfl sc__law_due.nd (di_r2 (by rfl) T.z_range (de_op opd_add (DE.dv (de_v (pv 1))) (DE.dv de_int)) (de_callB cd_len (by rfl) T.z_len PySem.boot_len (da_cons (DE.dv (de_v (pv 0))) da_nil))) (blkOk_by (by kernel_rfl)) (by decide) (fun _ _ _ _ _ => (dg_name (i := 9) sc__law_due.nd rfl (by first | exact .inl rfl | exact .inr rfl))) (fun _ _ _ _ _ => (dt_one (db_t (DE.dv (de_callB (cd_all rfl) (by rfl) T.z_all PyProof.Rows.boot_all (da_cons (DE.dv (DF.de (df_K (cLc_K tge_n) (df_lc (own := [("row", 10)]) (vs := [10]) rfl sc__law_due.nd (di_seq (de_sl (DE.dv (de_v (pv 0))) (do_s (de_op opd_add (DE.dv (de_v (pv 1))) (DE.dv de_int))) (do_s (de_op opd_add (DE.dv (de_v (pv 9))) (DE.dv de_int))))) (blkOk_by (by kernel_rfl)) (by decide) (fun _ _ _ _ _ => (dg_name (i := 10) sc__law_due.nd rfl (by first | exact .inl rfl | exact .inr rfl))) (fun _ _ _ _ _ => dt_nil) (fun _ _ _ _ _ => (de_cmp (opd_gt (Deep.of hr.room)) (DE.dv (de_ix (DE.dv (de_v (pv 10))) (DE.dv de_int) (fun _ _ => rfl))) (DE.dv (de_ix (DE.dv (de_ix (DE.dv (de_v (pv 0))) (DE.dv (de_v (pv 1))) (fun _ _ => rfl))) (DE.dv de_int) (fun _ _ => rfl))) (nomark _))))))) da_nil))) (fun _ => rfl)))) (fun _ _ _ _ _ => (de_v (pv 9))))))) da_nil)))))
    (dss_cons (ds_if (db_chain (opd_le (Deep.of hr.room)) (opd_lt (Deep.of hr.room)) (DE.dv (de_v (pv 1))) (DE.dv (de_v (pv 2))) (DE.dv (de_v (pv 3))))
    (dss_one (ds_ret (de_tup (dc_cons de_str dc_nil))))
    dss_nil)
    (dss_cons (ds_K (congrArg (fun z => sSet 4 (cL z)) (cLc_K tge_n)) (ds_setLcV (i := 4) (own := [("row", 10)]) (vs := [10]) rfl sc__law_due.nd rfl rfl (sw_true rfl rfl rfl (by kernel_rfl)) (di_seq (de_sl (DE.dv (de_v (pv 0))) (do_s (de_v (pv 1))) (do_s (de_v (pv 3))))) (blkOk_by (by kernel_rfl)) (by decide) (fun _ _ _ _ _ => (dg_name (i := 10) sc__law_due.nd rfl (by first | exact .inl rfl | exact .inr rfl))) (fun _ _ _ _ _ => dt_nil) (fun _ _ _ _ _ => (de_tup (dc_cons (de_op opd_add (DE.dv (de_op opd_add (DE.dv (de_op opd_sub (DE.dv (de_ix (DE.dv (de_v (pv 10))) (DE.dv de_int) (fun _ _ => rfl))) (DE.dv (de_ix (DE.dv (de_ix (DE.dv (de_v (pv 0))) (DE.dv (de_v (pv 1))) (fun _ _ => rfl))) (DE.dv de_int) (fun _ _ => rfl))))) (DE.dv (de_ix (DE.dv (de_ix (DE.dv (de_v (pv 0))) (DE.dv (de_v (pv 2))) (fun _ _ => rfl))) (DE.dv de_int) (fun _ _ => rfl))))) (DE.dv de_int)) (dc_cons (de_ix (DE.dv (de_v (pv 10))) (DE.dv de_int) (fun _ _ => rfl)) dc_nil))))))
    (dss_cons (ds_set (i := 5) sc__law_due.nd rfl (by first | exact .inl rfl | exact .inr rfl) (de_op opd_add (DE.dv (de_op opd_add (DE.dv (de_v (pv 2))) (DE.dv de_int))) (DE.dv (de_callB cd_len (by rfl) T.z_len PySem.boot_len (da_cons (DE.dv (DF.de (df_K (cLc_K tge_n) (df_lc (own := [("k", 9)]) (vs := [9]) rfl sc__law_due.nd (di_r2 (by rfl) T.z_range (de_op opd_add (DE.dv (de_v (pv 2))) (DE.dv de_int)) (de_callB cd_len (by rfl) T.z_len PySem.boot_len (da_cons (DE.dv (de_v (pv 0))) da_nil))) (blkOk_by (by kernel_rfl)) (by decide) (fun _ _ _ _ _ => (dg_name (i := 9) sc__law_due.nd rfl (by first | exact .inl rfl | exact .inr rfl))) (fun _ _ _ _ _ => (dt_one (db_t (DE.dv (de_callB (cd_all rfl) (by rfl) T.z_all PyProof.Rows.boot_all (da_cons (DE.dv (DF.de (df_K (cLc_K tge_n) (df_lc (own := [("row", 10)]) (vs := [10]) rfl sc__law_due.nd (di_seq (de_sl (DE.dv (de_v (pv 0))) (do_s (de_op opd_add (DE.dv (de_v (pv 2))) (DE.dv de_int))) (do_s (de_op opd_add (DE.dv (de_v (pv 9))) (DE.dv de_int))))) (blkOk_by (by kernel_rfl)) (by decide) (fun _ _ _ _ _ => (dg_name (i := 10) sc__law_due.nd rfl (by first | exact .inl rfl | exact .inr rfl))) (fun _ _ _ _ _ => dt_nil) (fun _ _ _ _ _ => (de_cmp (opd_gt (Deep.of hr.room)) (DE.dv (de_ix (DE.dv (de_v (pv 10))) (DE.dv de_int) (fun _ _ => rfl))) (DE.dv (de_ix (DE.dv (de_ix (DE.dv (de_v (pv 0))) (DE.dv (de_v (pv 2))) (fun _ _ => rfl))) (DE.dv de_int) (fun _ _ => rfl))) (nomark _))))))) da_nil))) (fun _ => rfl)))) (fun _ _ _ _ _ => (de_v (pv 9))))))) da_nil)))))
    (dss_cons (ds_K (congrArg (fun z => sSet 6 (cL z)) (cLc_K tge_n)) (ds_setLcV (i := 6) (own := [("k", 9)]) (vs := [9]) rfl sc__law_due.nd rfl rfl (sw_true rfl rfl rfl (by kernel_rfl)) (di_r1 (by rfl) T.z_range (de_v (pv 5))) (blkOk_by (by kernel_rfl)) (by decide) (fun _ _ _ _ _ => (dg_name (i := 9) sc__law_due.nd rfl (by first | exact .inl rfl | exact .inr rfl))) (fun _ _ _ _ _ => (dt_one (db_w (dw_or (db_c (opd_lt (Deep.of hr.room)) (DE.dv (de_v (pv 9))) (DE.dv (de_v (pv 1))) (nomark _)) (dw_or1 (db_c (opd_ge (Deep.of hr.room)) (DE.dv (de_v (pv 9))) (DE.dv (de_v (pv 3))) (nomark _))))))) (fun _ _ _ _ _ => (de_ix (DE.dv (de_v (pv 0))) (DE.dv (de_v (pv 9))) (fun _ _ => rfl)))))
    (dss_cons (ds_set (i := 7) sc__law_due.nd rfl (by first | exact .inl rfl | exact .inr rfl) (de_op opd_add (DE.dv (de_op opd_add (DE.dv (de_v (pv 6))) (DE.dv (de_v (pv 4))))) (DE.dv (DF.de (df_K (cLc_K tge_n) (df_lc (own := [("k", 9)]) (vs := [9]) rfl sc__law_due.nd (di_r2 (by rfl) T.z_range (de_v (pv 5)) (de_callB cd_len (by rfl) T.z_len PySem.boot_len (da_cons (DE.dv (de_v (pv 0))) da_nil))) (blkOk_by (by kernel_rfl)) (by decide) (fun _ _ _ _ _ => (dg_name (i := 9) sc__law_due.nd rfl (by first | exact .inl rfl | exact .inr rfl))) (fun _ _ _ _ _ => (dt_one (db_w (dw_or (db_c (opd_lt (Deep.of hr.room)) (DE.dv (de_v (pv 9))) (DE.dv (de_v (pv 1))) (nomark _)) (dw_or1 (db_c (opd_ge (Deep.of hr.room)) (DE.dv (de_v (pv 9))) (DE.dv (de_v (pv 3))) (nomark _))))))) (fun _ _ _ _ _ => (de_ix (DE.dv (de_v (pv 0))) (DE.dv (de_v (pv 9))) (fun _ _ => rfl)))))))))
    (dss_cons (ds_K (congrArg (fun z => sSet 8 (cL z)) (cLc_K tge_n)) (ds_setLcV (i := 8) (own := [("k", 9)]) (vs := [9]) rfl sc__law_due.nd rfl rfl (sw_true rfl rfl rfl (by kernel_rfl)) (di_r2 (by rfl) T.z_range de_int (de_callB cd_len (by rfl) T.z_len PySem.boot_len (da_cons (DE.dv (de_v (pv 7))) da_nil))) (blkOk_by (by kernel_rfl)) (by decide) (fun _ _ _ _ _ => (dg_name (i := 9) sc__law_due.nd rfl (by first | exact .inl rfl | exact .inr rfl))) (fun _ _ _ _ _ => (dt_one (db_c (opd_eq (Deep.of hr.room)) (DE.dv (de_clG (fn__law_parent T) (hr.mono (by decide)) (by rfl) T.m__law_parent T.k__law_parent T.b__law_parent takesW0 (dc_cons (de_v (pv 7)) (dc_cons (de_v (pv 9)) dc_nil)))) (DE.dv (de_if (db_c (opd_lt (Deep.of hr.room)) (DE.dv (de_v (pv 2))) (DE.dv (de_v (pv 1))) (nomark _)) (de_v (pv 2)) (de_op opd_sub (DE.dv (de_v (pv 2))) (DE.dv (de_op opd_sub (DE.dv (de_v (pv 3))) (DE.dv (de_v (pv 1)))))))) (nomark _)))) (fun _ _ _ _ _ => (de_v (pv 9)))))
    (dss_one (ds_ret (de_if (db_w (dw_and (db_c (opd_lt (Deep.of hr.room)) (DE.dv (de_callB (cd_max rfl (Deep.of hr.room)) (by rfl) T.z_max PyProof.Rows.boot_max (da_cons (DE.dv (DF.de (df_K (cLc_K tge_n) (df_lc (own := [("row", 10)]) (vs := [10]) rfl sc__law_due.nd (di_seq (de_v (pv 7))) (blkOk_by (by kernel_rfl)) (by decide) (fun _ _ _ _ _ => (dg_name (i := 10) sc__law_due.nd rfl (by first | exact .inl rfl | exact .inr rfl))) (fun _ _ _ _ _ => dt_nil) (fun _ _ _ _ _ => (de_ix (DE.dv (de_v (pv 10))) (DE.dv de_int) (fun _ _ => rfl))))))) da_nil))) (DE.dv de_int) (nomark _)) (dw_and1 (db_c (opd_lt (Deep.of hr.room)) (DE.dv (de_callB cd_len (by rfl) T.z_len PySem.boot_len (da_cons (DE.dv (de_v (pv 8))) da_nil))) (DE.dv de_int) (nomark _))))) (de_tup (dc_cons de_str (dc_cons (de_clG (fn__law_made T) (hr.mono (by decide)) (by rfl) T.m__law_made T.k__law_made T.b__law_made (takes_of rfl rfl rfl rfl) (dc_cons (de_v (pv 7)) dc_nil)) dc_nil))) (de_tup (dc_cons de_str dc_nil)))))))))))))
theorem sc_check_group : FnScope ["group"] ["group"] (defScope s_check_group) := ⟨rfl, rfl, rfl, by decide +kernel, rfl, by decide +kernel, by decide +kernel⟩
theorem fn_check_group (T : Tx K mg) : FnDG P w K mg base 16 T.f_check_group T.fd_check_group ["group"] F_check_group := fnDG_of (N := ["group"]) (k := 15) (g := g_check_group) T.F_check_group sc_check_group fun cdv A outer s H E hr => (show DSs _ _ _ g_check_group from
    (dss_one (ds_if (db_not (db_t (DE.dv (de_clG (fn_is_group T) (hr.mono (by decide)) (by rfl) T.m_is_group T.k_is_group T.b_is_group (takes_of rfl rfl rfl rfl) (dc_cons (de_v (pv 0)) dc_nil))) (fun _ => rfl)))
    (dss_one (ds_raise rfl (takes_of rfl rfl rfl rfl) PySem.F.excBase_ValueError T.x_BadGroup T.g_BadGroup T.k_BadGroup (raises_own T.s_BadGroup T.t_BadGroup) (by rfl)))
    dss_nil)))
theorem sc_gap_of : FnScope ["group"] ["group"] (defScope s_gap_of) := ⟨rfl, rfl, rfl, by decide +kernel, rfl, by decide +kernel, by decide +kernel⟩
theorem fn_gap_of (T : Tx K mg) : FnDG P w K mg base 17 T.f_gap_of T.fd_gap_of ["group"] F_gap_of := fnDG_of (N := ["group"]) (k := 16) (g := g_gap_of) T.F_gap_of sc_gap_of fun cdv A outer s H E hr => (show DSs _ _ _ g_gap_of from
    (dss_cons (ds_expr (de_clG (fn_check_group T) (hr.mono (by decide)) (by rfl) T.m_check_group T.k_check_group T.b_check_group (takes_of rfl rfl rfl rfl) (dc_cons (de_v (pv 0)) dc_nil)))
    (dss_one (ds_ret (de_clG (fn_gap_in T) (hr.mono (by decide)) (by rfl) T.m_gap_in T.k_gap_in T.b_gap_in (takes_of rfl rfl rfl rfl) (dc_cons (de_v (pv 0)) dc_nil))))))
theorem sc_with_head : FnScope ["group", "number", "places", "one"] ["group"] (defScope s_with_head) := ⟨rfl, rfl, rfl, by decide +kernel, rfl, by decide +kernel, by decide +kernel⟩
theorem fn_with_head (T : Tx K mg) : FnDG P w K mg base 17 T.f_with_head T.fd_with_head ["group"] F_with_head := fnDG_of (N := ["group", "number", "places", "one"]) (k := 16) (g := g_with_head) T.F_with_head sc_with_head fun cdv A outer s H E hr => (show DSs _ _ _ g_with_head from
    (dss_cons (ds_expr (de_clG (fn_check_group T) (hr.mono (by decide)) (by rfl) T.m_check_group T.k_check_group T.b_check_group (takes_of rfl rfl rfl rfl) (dc_cons (de_v (pv 0)) dc_nil)))
    (dss_cons (ds_set (i := 1) sc_with_head.nd rfl (by first | exact .inl rfl | exact .inr rfl) (de_callB (cd_sum rfl) (by rfl) T.z_sum PyProof.Rows.boot_sum (da_cons (DE.dv (DF.de (df_K (cLc_K tge_n) (df_lc (own := [("one", 3)]) (vs := [3]) rfl sc_with_head.nd (di_seq (de_ix (DE.dv (de_v (pv 0))) (DE.dv de_int) (fun _ _ => rfl))) (blkOk_by (by kernel_rfl)) (by decide) (fun _ _ _ _ _ => (dg_name (i := 3) sc_with_head.nd rfl (by first | exact .inl rfl | exact .inr rfl))) (fun _ _ _ _ _ => dt_nil) (fun _ _ _ _ _ => (de_clG (fn__total T) (hr.mono (by decide)) (by rfl) T.m__total T.k__total T.b__total takesW0 (dc_cons (de_v (pv 3)) dc_nil))))))) da_nil)))
    (dss_cons (ds_set (i := 2) sc_with_head.nd rfl (by first | exact .inl rfl | exact .inr rfl) (de_callB (cd_max rfl (Deep.of hr.room)) (by rfl) T.z_max PyProof.Rows.boot_max (da_cons (DE.dv (de_callB cd_len (by rfl) T.z_len PySem.boot_len (da_cons (DE.dv (de_clG (fn_figures_on T) (hr.mono (by decide)) (by rfl) T.m_figures_on T.k_figures_on T.b_figures_on (takes_of rfl rfl rfl rfl) (dc_cons (de_ix (DE.dv (de_v (pv 0))) (DE.dv de_int) (fun _ _ => rfl)) dc_nil))) da_nil))) (da_cons (DE.dv (de_callB cd_len (by rfl) T.z_len PySem.boot_len (da_cons (DE.dv (de_callTy cd_str (by rfl) T.z_str PyProof.Rows.boot_str (da_cons (DE.dv (de_v (pv 1))) da_nil))) da_nil))) da_nil))))
    (dss_cons (ds_if (db_c (opd_gt (Deep.of hr.room)) (DE.dv (de_v (pv 2))) (DE.dv (de_mc T.c_MOST_PLACES (by rfl))) (nomark _))
    (dss_one (ds_raise rfl (takes_of rfl rfl rfl rfl) PySem.F.excBase_ValueError T.x_TooMany T.g_TooMany T.k_TooMany (raises_own T.s_TooMany T.t_TooMany) (by rfl)))
    dss_nil)
    (dss_one (ds_ret (de_tup (dc_cons (de_clG (fn_cord_with T) (hr.mono (by decide)) (by rfl) T.m_cord_with T.k_cord_with T.b_cord_with (takes_of rfl rfl rfl rfl) (dc_cons (de_clG (fn_figures_for T) (hr.mono (by decide)) (by rfl) T.m_figures_for T.k_figures_for T.b_figures_for (takes_of rfl rfl rfl rfl) (dc_cons (de_v (pv 1)) (dc_cons (de_v (pv 2)) dc_nil))) dc_nil)) (dc_cons (de_ix (DE.dv (de_v (pv 0))) (DE.dv de_int) (fun _ _ => rfl)) dc_nil))))))))))
theorem sc_moved_cord : FnScope ["group", "path", "place", "cord", "hung", "new"] ["group", "path", "place"] (defScope s_moved_cord) := ⟨rfl, rfl, rfl, by decide +kernel, rfl, by decide +kernel, by decide +kernel⟩
theorem fn_moved_cord (T : Tx K mg) : FnDG P w K mg base 17 T.f_moved_cord T.fd_moved_cord ["group", "path", "place"] F_moved_cord := fnDG_of (N := ["group", "path", "place", "cord", "hung", "new"]) (k := 16) (g := g_moved_cord) T.F_moved_cord sc_moved_cord fun cdv A outer s H E hr => (show DSs _ _ _ g_moved_cord from
    (dss_cons (ds_expr (de_clG (fn_check_group T) (hr.mono (by decide)) (by rfl) T.m_check_group T.k_check_group T.b_check_group (takes_of rfl rfl rfl rfl) (dc_cons (de_v (pv 0)) dc_nil)))
    (dss_cons (ds_expr (de_clG (fn_check_path T) (hr.mono (by decide)) (by rfl) T.m_check_path T.k_check_path T.b_check_path (takes_of rfl rfl rfl rfl) (dc_cons (de_v (pv 0)) (dc_cons (de_v (pv 1)) dc_nil))))
    (dss_cons (ds_expr (de_clG (fn_check_path T) (hr.mono (by decide)) (by rfl) T.m_check_path T.k_check_path T.b_check_path (takes_of rfl rfl rfl rfl) (dc_cons (de_v (pv 0)) (dc_cons (de_v (pv 2)) dc_nil))))
    (dss_cons (ds_if (db_c (opd_eq (Deep.of hr.room)) (DE.dv (de_callB cd_len (by rfl) T.z_len PySem.boot_len (da_cons (DE.dv (de_v (pv 1))) da_nil))) (DE.dv de_int) (nomark _))
    (dss_one (ds_raise rfl (takes_of rfl rfl rfl rfl) PySem.F.excBase_ValueError T.x_BadPath T.g_BadPath T.k_BadPath (raises_own T.s_BadPath T.t_BadPath) (by rfl)))
    dss_nil)
    (dss_cons (ds_if (db_c (opd_eq (Deep.of hr.room)) (DE.dv (de_sl (DE.dv (de_v (pv 2))) do_n (do_s (de_callB cd_len (by rfl) T.z_len PySem.boot_len (da_cons (DE.dv (de_v (pv 1))) da_nil))))) (DE.dv (de_v (pv 1))) (nomark _))
    (dss_one (ds_raise rfl (takes_of rfl rfl rfl rfl) PySem.F.excBase_ValueError T.x_Within T.g_Within T.k_Within (raises_own T.s_Within T.t_Within) (by rfl)))
    dss_nil)
    (dss_cons (ds_asg (de_clG (fn_part_at T) (hr.mono (by decide)) (by rfl) T.m_part_at T.k_part_at T.b_part_at (takes_of rfl rfl rfl rfl) (dc_cons (de_v (pv 0)) (dc_cons (de_v (pv 2)) dc_nil))) (dg_tup (n := 2) rfl (dgs_cons (dg_name (i := 3) sc_moved_cord.nd rfl (by first | exact .inl rfl | exact .inr rfl)) (dgs_cons (dg_name (i := 4) sc_moved_cord.nd rfl (by first | exact .inl rfl | exact .inr rfl)) dgs_nil))))
    (dss_cons (ds_set (i := 5) sc_moved_cord.nd rfl (by first | exact .inl rfl | exact .inr rfl) (de_clG (fn__with_part T) (hr.mono (by decide)) (by rfl) T.m__with_part T.k__with_part T.b__with_part (takes_of rfl rfl rfl rfl) (dc_cons (de_v (pv 0)) (dc_cons (de_v (pv 2)) (dc_cons (de_tup (dc_cons (de_v (pv 3)) (dc_cons (de_op opd_add (DE.dv (de_v (pv 4))) (DE.dv (de_tup (dc_cons (de_clG (fn_part_at T) (hr.mono (by decide)) (by rfl) T.m_part_at T.k_part_at T.b_part_at (takes_of rfl rfl rfl rfl) (dc_cons (de_v (pv 0)) (dc_cons (de_v (pv 1)) dc_nil))) dc_nil)))) dc_nil))) dc_nil)))))
    (dss_cons (ds_asg (de_clG (fn_part_at T) (hr.mono (by decide)) (by rfl) T.m_part_at T.k_part_at T.b_part_at (takes_of rfl rfl rfl rfl) (dc_cons (de_v (pv 5)) (dc_cons (de_sl (DE.dv (de_v (pv 1))) do_n (do_s (de_un und_neg de_int))) dc_nil))) (dg_tup (n := 2) rfl (dgs_cons (dg_name (i := 3) sc_moved_cord.nd rfl (by first | exact .inl rfl | exact .inr rfl)) (dgs_cons (dg_name (i := 4) sc_moved_cord.nd rfl (by first | exact .inl rfl | exact .inr rfl)) dgs_nil))))
    (dss_cons (ds_set (i := 5) sc_moved_cord.nd rfl (by first | exact .inl rfl | exact .inr rfl) (de_clG (fn__with_part T) (hr.mono (by decide)) (by rfl) T.m__with_part T.k__with_part T.b__with_part (takes_of rfl rfl rfl rfl) (dc_cons (de_v (pv 5)) (dc_cons (de_sl (DE.dv (de_v (pv 1))) do_n (do_s (de_un und_neg de_int))) (dc_cons (de_tup (dc_cons (de_v (pv 3)) (dc_cons (de_op opd_add (DE.dv (de_sl (DE.dv (de_v (pv 4))) do_n (do_s (de_ix (DE.dv (de_v (pv 1))) (DE.dv (de_un und_neg de_int)) (fun _ _ => rfl))))) (DE.dv (de_sl (DE.dv (de_v (pv 4))) (do_s (de_op opd_add (DE.dv (de_ix (DE.dv (de_v (pv 1))) (DE.dv (de_un und_neg de_int)) (fun _ _ => rfl))) (DE.dv de_int))) do_n))) dc_nil))) dc_nil)))))
    (dss_cons (ds_expr (de_clG (fn_check_group T) (hr.mono (by decide)) (by rfl) T.m_check_group T.k_check_group T.b_check_group (takes_of rfl rfl rfl rfl) (dc_cons (de_v (pv 5)) dc_nil)))
    (dss_one (ds_ret (de_v (pv 5)))))))))))))))
theorem sc__law_told : FnScope ["call", "group", "path", "place"] ["call", "group", "path", "place"] (defScope s__law_told) := ⟨rfl, rfl, rfl, by decide +kernel, rfl, by decide +kernel, by decide +kernel⟩
theorem fn__law_told (T : Tx K mg) : FnDG P w K mg base 18 T.f__law_told T.fd__law_told ["call", "group", "path", "place"] F__law_told := fnDG_of (N := ["call", "group", "path", "place"]) (k := 17) (g := g__law_told) T.F__law_told sc__law_told fun cdv A outer s H E hr => (show DSs _ _ _ g__law_told from
    (dss_one (ds_try (cs := excs) rfl rfl (takes_of rfl rfl rfl rfl) T.ap (fun W2 pn xe tk2 po2 => (dss_one (ds_ret (de_tup (dc_cons de_str (dc_cons (de_if (db_c (opd_eq (Deep.of hr.room)) (DE.dv (de_v (pv 0))) (DE.dv de_int) (nomark _)) (de_clG (fn_with_head T) (hr.mono (by decide)) (by rfl) T.m_with_head T.k_with_head T.b_with_head tk2 (dc_cons (de_v (pv 1)) dc_nil)) (de_clG (fn_moved_cord T) (hr.mono (by decide)) (by rfl) T.m_moved_cord T.k_moved_cord T.b_moved_cord tk2 (dc_cons (de_v (pv 1)) (dc_cons (de_v (pv 2)) (dc_cons (de_v (pv 3)) dc_nil))))) dc_nil))))))
    (.cons (by rfl) T.g_BadGroup (fun a oe cls d pn => (dss_one (ds_ret (de_tup (dc_cons de_str dc_nil))))) (.cons (by rfl) T.g_BadPath (fun a oe cls d pn => (dss_one (ds_ret (de_tup (dc_cons de_str dc_nil))))) (.cons (by rfl) T.g_Within (fun a oe cls d pn => (dss_one (ds_ret (de_tup (dc_cons de_str dc_nil))))) (.cons (by rfl) T.g_TooMany (fun a oe cls d pn => (dss_one (ds_ret (de_tup (dc_cons de_str dc_nil))))) .nil)))) (by intro p hp; simp only [List.mem_cons, List.not_mem_nil, or_false] at hp; rcases hp with rfl | rfl | rfl | rfl <;> decide +kernel))))
theorem sc__law_refuses : FnScope ["group", "wrong", "nine", "call"] ["group"] (defScope s__law_refuses) := ⟨rfl, rfl, rfl, by decide +kernel, rfl, by decide +kernel, by decide +kernel⟩
theorem fn__law_refuses (T : Tx K mg) : FnDG P w K mg base 19 T.f__law_refuses T.fd__law_refuses ["group"] F__law_refuses := fnDG_of (N := ["group", "wrong", "nine", "call"]) (k := 18) (g := g__law_refuses) T.F__law_refuses sc__law_refuses fun cdv A outer s H E hr => (show DSs _ _ _ g__law_refuses from
    (dss_cons (ds_for (passes_of rfl) rfl (di_seq (de_clG0 (fn__law_wrong_groups T) (hr.mono (by decide)) (by rfl) T.m__law_wrong_groups T.k__law_wrong_groups T.b__law_wrong_groups (takes_of rfl rfl rfl rfl))) (dg_name (i := 1) sc__law_refuses.nd rfl (by first | exact .inl rfl | exact .inr rfl))
    (dss_one (ds_if (db_c (opd_ne (Deep.of hr.room)) (DE.dv (DF.de (df_K (cLc_K tge_n) (df_lc (own := [("call", 3)]) (vs := [3]) rfl sc__law_refuses.nd (di_seq (de_tup (dc_cons de_int (dc_cons de_int dc_nil)))) (blkOk_by (by kernel_rfl)) (by decide) (fun _ _ _ _ _ => (dg_name (i := 3) sc__law_refuses.nd rfl (by first | exact .inl rfl | exact .inr rfl))) (fun _ _ _ _ _ => dt_nil) (fun _ _ _ _ _ => (de_clG (fn__law_told T) (hr.mono (by decide)) (by rfl) T.m__law_told T.k__law_told T.b__law_told takesW0 (dc_cons (de_v (pv 3)) (dc_cons (de_v (pv 1)) (dc_cons de_non (dc_cons de_non dc_nil)))))))))) (DE.dv (DF.de (df_repL (df_lst (dc_cons (de_tup (dc_cons de_str dc_nil)) dc_nil)) de_int))) (nomark _))
    (dss_one (ds_ret de_bl))
    dss_nil)))
    (dss_cons (ds_for (passes_of rfl) rfl (di_seq (de_tup (dc_cons de_non (dc_cons (DF.de (df_lst dc_nil)) (dc_cons (DF.de (df_lst (dc_cons de_int dc_nil))) (dc_cons (de_tup (dc_cons (de_un und_neg de_int) dc_nil)) (dc_cons (de_tup (dc_cons de_bl dc_nil)) (dc_cons (de_tup (dc_cons de_int dc_nil)) (dc_cons (de_tup (dc_cons de_int (dc_cons de_int (dc_cons de_int (dc_cons de_int (dc_cons de_int dc_nil)))))) (dc_cons de_int (dc_cons de_str dc_nil))))))))))) (dg_name (i := 1) sc__law_refuses.nd rfl (by first | exact .inl rfl | exact .inr rfl))
    (dss_one (ds_if (db_w (dw_or (db_c (opd_ne (Deep.of hr.room)) (DE.dv (de_clG (fn__law_told T) (hr.mono (by decide)) (by rfl) T.m__law_told T.k__law_told T.b__law_told (takes_of rfl rfl rfl rfl) (dc_cons de_int (dc_cons (de_v (pv 0)) (dc_cons (de_v (pv 1)) (dc_cons de_non dc_nil)))))) (DE.dv (de_tup (dc_cons de_str dc_nil))) (nomark _)) (dw_or1 (db_c (opd_ne (Deep.of hr.room)) (DE.dv (de_clG (fn__law_told T) (hr.mono (by decide)) (by rfl) T.m__law_told T.k__law_told T.b__law_told (takes_of rfl rfl rfl rfl) (dc_cons de_int (dc_cons (de_v (pv 0)) (dc_cons (de_tup (dc_cons de_int dc_nil)) (dc_cons (de_v (pv 1)) dc_nil)))))) (DE.dv (de_tup (dc_cons de_str dc_nil))) (nomark _)))))
    (dss_one (ds_ret de_bl))
    dss_nil)))
    (dss_cons (ds_if (db_w (dw_or (db_c (opd_ne (Deep.of hr.room)) (DE.dv (de_clG (fn__law_told T) (hr.mono (by decide)) (by rfl) T.m__law_told T.k__law_told T.b__law_told (takes_of rfl rfl rfl rfl) (dc_cons de_int (dc_cons (de_v (pv 0)) (dc_cons (de_tup dc_nil) (dc_cons (de_tup dc_nil) dc_nil)))))) (DE.dv (de_tup (dc_cons de_str dc_nil))) (nomark _)) (dw_or (db_c (opd_ne (Deep.of hr.room)) (DE.dv (de_clG (fn__law_told T) (hr.mono (by decide)) (by rfl) T.m__law_told T.k__law_told T.b__law_told (takes_of rfl rfl rfl rfl) (dc_cons de_int (dc_cons (de_v (pv 0)) (dc_cons (de_tup dc_nil) (dc_cons (de_tup (dc_cons de_int dc_nil)) dc_nil)))))) (DE.dv (de_tup (dc_cons de_str dc_nil))) (nomark _)) (dw_or1 (db_c (opd_ne (Deep.of hr.room)) (DE.dv (de_clG (fn__law_told T) (hr.mono (by decide)) (by rfl) T.m__law_told T.k__law_told T.b__law_told (takes_of rfl rfl rfl rfl) (dc_cons de_int (dc_cons (de_v (pv 0)) (dc_cons (de_tup (dc_cons de_int dc_nil)) (dc_cons (de_tup (dc_cons de_int dc_nil)) dc_nil)))))) (DE.dv (de_tup (dc_cons de_str dc_nil))) (nomark _))))))
    (dss_one (ds_ret de_bl))
    dss_nil)
    (dss_cons (ds_set (i := 2) sc__law_refuses.nd rfl (by first | exact .inl rfl | exact .inr rfl) (de_sm PySem.F.slot_str_join PySem.F.type_str_join ms_join de_str (DE.dv (de_op opd_add (DE.dv (DF.de (df_repL (df_lst (dc_cons (de_op opd_mulS (DE.dv de_str) (DE.dv de_int)) dc_nil)) de_int))) (DE.dv (DF.de (df_lst (dc_cons (de_op opd_mulS (DE.dv de_str) (DE.dv de_int)) dc_nil))))))))
    (dss_cons (ds_if (db_c (opd_ne (Deep.of hr.room)) (DE.dv (de_clG (fn__law_told T) (hr.mono (by decide)) (by rfl) T.m__law_told T.k__law_told T.b__law_told (takes_of rfl rfl rfl rfl) (dc_cons de_int (dc_cons (de_tup (dc_cons de_str (dc_cons (de_tup (dc_cons (de_tup (dc_cons (de_v (pv 2)) (dc_cons (de_tup dc_nil) dc_nil))) (dc_cons (de_tup (dc_cons de_str (dc_cons (de_tup dc_nil) dc_nil))) dc_nil))) dc_nil))) (dc_cons de_non (dc_cons de_non dc_nil)))))) (DE.dv (de_tup (dc_cons de_str dc_nil))) (nomark _))
    (dss_one (ds_ret de_bl))
    dss_nil)
    (dss_cons (ds_if (db_not (db_t (DE.dv (de_clG (fn__law_same T) (hr.mono (by decide)) (by rfl) T.m__law_same T.k__law_same T.b__law_same (takes_of rfl rfl rfl rfl) (dc_cons (de_clG (fn__law_told T) (hr.mono (by decide)) (by rfl) T.m__law_told T.k__law_told T.b__law_told (takes_of rfl rfl rfl rfl) (dc_cons de_int (dc_cons (de_tup (dc_cons de_str (dc_cons (de_tup (dc_cons (de_tup (dc_cons de_str (dc_cons (de_tup dc_nil) dc_nil))) (dc_cons (de_tup (dc_cons de_str (dc_cons (de_tup dc_nil) dc_nil))) dc_nil))) dc_nil))) (dc_cons de_non (dc_cons de_non dc_nil))))) (dc_cons (de_tup (dc_cons de_str (dc_cons (de_tup (dc_cons de_str (dc_cons (de_tup (dc_cons (de_tup (dc_cons de_str (dc_cons (de_tup dc_nil) dc_nil))) (dc_cons (de_tup (dc_cons de_str (dc_cons (de_tup dc_nil) dc_nil))) dc_nil))) dc_nil))) dc_nil))) dc_nil)))) (fun _ => rfl)))
    (dss_one (ds_ret de_bl))
    dss_nil)
    (dss_one (ds_ret (de_clG (fn__law_same T) (hr.mono (by decide)) (by rfl) T.m__law_same T.k__law_same T.b__law_same (takes_of rfl rfl rfl rfl) (dc_cons (de_clG (fn__law_told T) (hr.mono (by decide)) (by rfl) T.m__law_told T.k__law_told T.b__law_told (takes_of rfl rfl rfl rfl) (dc_cons de_int (dc_cons (de_tup (dc_cons de_str (dc_cons (de_tup (dc_cons (de_tup (dc_cons de_str (dc_cons (de_tup dc_nil) dc_nil))) dc_nil)) dc_nil))) (dc_cons de_non (dc_cons de_non dc_nil))))) (dc_cons (de_tup (dc_cons de_str (dc_cons (de_tup (dc_cons de_str (dc_cons (de_tup (dc_cons (de_tup (dc_cons de_str (dc_cons (de_tup dc_nil) dc_nil))) dc_nil)) dc_nil))) dc_nil))) dc_nil))))))))))))
theorem sc_law : FnScope ["script", "draws", "rows", "group", "total", "size", "head", "paths", "at", "to", "told", "row", "j", "k"] ["script"] (defScope s_law) := ⟨rfl, rfl, rfl, by decide +kernel, rfl, by decide +kernel, by decide +kernel⟩
theorem fn_law (T : Tx K mg) : FnG P w K mg base 20 T.f_law T.fd_law ["script"] (spLaw K F_law) := fnLawG_of (N := ["script", "draws", "rows", "group", "total", "size", "head", "paths", "at", "to", "told", "row", "j", "k"]) (k := 19) (g := g_law) T.F_law sc_law rfl fun cdv A outer s H E hr => (show DSs _ _ _ g_law from
    (dss_cons (ds_set (i := 1) sc_law.nd rfl (by first | exact .inl rfl | exact .inr rfl) (de_drG (fn__law_draws T).g (hr.mono (by decide)) (by rfl) T.m__law_draws T.k__law_draws T.b__law_draws (takes_of rfl rfl rfl rfl) (pv 0)))
    (dss_cons (ds_set (i := 2) sc_law.nd rfl (by first | exact .inl rfl | exact .inr rfl) (de_clG (fn__law_rows T) (hr.mono (by decide)) (by rfl) T.m__law_rows T.k__law_rows T.b__law_rows (takes_of rfl rfl rfl rfl) (dc_cons (de_sl (DE.dv (de_v (pv 1))) do_n (do_s de_int)) (dc_cons de_int (dc_cons (de_ix (DE.dv (DF.de (df_lst (dc_cons de_int (dc_cons de_int dc_nil))))) (DE.dv (de_op opd_mod (DE.dv (de_callTy cd_int (by rfl) T.z_int PyProof.Rows.boot_int (da_cons (DE.dv (de_ix (DE.dv (de_v (pv 1))) (DE.dv de_int) (fun _ _ => rfl))) da_nil))) (DE.dv de_int))) (fun _ _ => rfl)) dc_nil)))))
    (dss_cons (ds_set (i := 3) sc_law.nd rfl (by first | exact .inl rfl | exact .inr rfl) (de_clG (fn__law_made T) (hr.mono (by decide)) (by rfl) T.m__law_made T.k__law_made T.b__law_made (takes_of rfl rfl rfl rfl) (dc_cons (de_v (pv 2)) dc_nil)))
    (dss_cons (ds_set (i := 4) sc_law.nd rfl (by first | exact .inl rfl | exact .inr rfl) (de_callB (cd_sum rfl) (by rfl) T.z_sum PyProof.Rows.boot_sum (da_cons (DE.dv (DF.de (df_K (cLc_K tge_n) (df_lc (own := [("row", 11)]) (vs := [11]) rfl sc_law.nd (di_seq (de_sl (DE.dv (de_v (pv 2))) (do_s de_int) do_n)) (blkOk_by (by kernel_rfl)) (by decide) (fun _ _ _ _ _ => (dg_name (i := 11) sc_law.nd rfl (by first | exact .inl rfl | exact .inr rfl))) (fun _ _ _ _ _ => dt_nil) (fun _ _ _ _ _ => (de_clG (fn__law_number T) (hr.mono (by decide)) (by rfl) T.m__law_number T.k__law_number T.b__law_number takesW0 (dc_cons (de_ix (DE.dv (de_v (pv 11))) (DE.dv de_int) (fun _ _ => rfl)) dc_nil))))))) da_nil)))
    (dss_cons (ds_set (i := 5) sc_law.nd rfl (by first | exact .inl rfl | exact .inr rfl) (de_callB (cd_max rfl (Deep.of hr.room)) (by rfl) T.z_max PyProof.Rows.boot_max (da_cons (DE.dv (de_callB cd_len (by rfl) T.z_len PySem.boot_len (da_cons (DE.dv (de_ix (DE.dv (de_ix (DE.dv (de_v (pv 2))) (DE.dv de_int) (fun _ _ => rfl))) (DE.dv de_int) (fun _ _ => rfl))) da_nil))) (da_cons (DE.dv (de_callB cd_len (by rfl) T.z_len PySem.boot_len (da_cons (DE.dv (de_callTy cd_str (by rfl) T.z_str PyProof.Rows.boot_str (da_cons (DE.dv (de_v (pv 4))) da_nil))) da_nil))) da_nil))))
    (dss_cons (ds_set (i := 6) sc_law.nd rfl (by first | exact .inl rfl | exact .inr rfl) (de_if (db_c (opd_lt (Deep.of hr.room)) (DE.dv (de_v (pv 5))) (DE.dv de_int) (nomark _)) (DF.de (df_K (cLc_K tge_n) (df_lc (own := [("j", 12)]) (vs := [12]) rfl sc_law.nd (di_r1 (by rfl) T.z_range (de_v (pv 5))) (blkOk_by (by kernel_rfl)) (by decide) (fun _ _ _ _ _ => (dg_name (i := 12) sc_law.nd rfl (by first | exact .inl rfl | exact .inr rfl))) (fun _ _ _ _ _ => dt_nil) (fun _ _ _ _ _ => (de_op opd_mod (DE.dv (de_op opd_fdiv (DE.dv (de_v (pv 4))) (DE.dv (de_ix (DE.dv (DF.de (df_lst (dc_cons de_int (dc_cons de_int (dc_cons de_int (dc_cons de_int (dc_cons de_int dc_nil)))))))) (DE.dv (de_op opd_sub (DE.dv (de_op opd_sub (DE.dv (de_v (pv 5))) (DE.dv de_int))) (DE.dv (de_v (pv 12))))) (fun _ _ => rfl))))) (DE.dv de_int)))))) (DF.de (df_lst dc_nil))))
    (dss_cons (ds_if (db_not (db_t (DE.dv (de_clG (fn__law_same T) (hr.mono (by decide)) (by rfl) T.m__law_same T.k__law_same T.b__law_same (takes_of rfl rfl rfl rfl) (dc_cons (de_clG (fn__law_told T) (hr.mono (by decide)) (by rfl) T.m__law_told T.k__law_told T.b__law_told (takes_of rfl rfl rfl rfl) (dc_cons de_int (dc_cons (de_v (pv 3)) (dc_cons de_non (dc_cons de_non dc_nil))))) (dc_cons (de_if (db_c (opd_lt (Deep.of hr.room)) (DE.dv (de_v (pv 5))) (DE.dv de_int) (nomark _)) (de_tup (dc_cons de_str (dc_cons (de_clG (fn__law_made T) (hr.mono (by decide)) (by rfl) T.m__law_made T.k__law_made T.b__law_made (takes_of rfl rfl rfl rfl) (dc_cons (de_op opd_add (DE.dv (DF.de (df_lst (dc_cons (de_tup (dc_cons de_int (dc_cons (de_v (pv 6)) dc_nil))) dc_nil)))) (DE.dv (de_sl (DE.dv (de_v (pv 2))) (do_s de_int) do_n))) dc_nil)) dc_nil))) (de_tup (dc_cons de_str dc_nil))) dc_nil)))) (fun _ => rfl)))
    (dss_one (ds_ret de_bl))
    dss_nil)
    (dss_cons (ds_K (congrArg (fun z => sSet 7 (cL z)) (cLc_K tge_n)) (ds_setLcV (i := 7) (own := [("k", 13)]) (vs := [13]) rfl sc_law.nd rfl rfl (sw_true rfl rfl rfl (by kernel_rfl)) (di_r1 (by rfl) T.z_range (de_callB cd_len (by rfl) T.z_len PySem.boot_len (da_cons (DE.dv (de_v (pv 2))) da_nil))) (blkOk_by (by kernel_rfl)) (by decide) (fun _ _ _ _ _ => (dg_name (i := 13) sc_law.nd rfl (by first | exact .inl rfl | exact .inr rfl))) (fun _ _ _ _ _ => dt_nil) (fun _ _ _ _ _ => (de_clG (fn__law_path T) (hr.mono (by decide)) (by rfl) T.m__law_path T.k__law_path T.b__law_path takesW0 (dc_cons (de_v (pv 2)) (dc_cons (de_v (pv 13)) dc_nil))))))
    (dss_cons (ds_for (passes_of rfl) rfl (di_r2 (by rfl) T.z_range de_int (de_callB cd_len (by rfl) T.z_len PySem.boot_len (da_cons (DE.dv (de_v (pv 2))) da_nil))) (dg_name (i := 8) sc_law.nd rfl (by first | exact .inl rfl | exact .inr rfl))
    (dss_one (ds_for (passes_of rfl) rfl (di_r1 (by rfl) T.z_range (de_callB cd_len (by rfl) T.z_len PySem.boot_len (da_cons (DE.dv (de_v (pv 2))) da_nil))) (dg_name (i := 9) sc_law.nd rfl (by first | exact .inl rfl | exact .inr rfl))
    (dss_cons (ds_set (i := 10) sc_law.nd rfl (by first | exact .inl rfl | exact .inr rfl) (de_clG (fn__law_told T) (hr.mono (by decide)) (by rfl) T.m__law_told T.k__law_told T.b__law_told (takes_of rfl rfl rfl rfl) (dc_cons de_int (dc_cons (de_v (pv 3)) (dc_cons (de_ix (DE.dv (de_v (pv 7))) (DE.dv (de_v (pv 8))) (fun _ _ => rfl)) (dc_cons (de_ix (DE.dv (de_v (pv 7))) (DE.dv (de_v (pv 9))) (fun _ _ => rfl)) dc_nil))))))
    (dss_cons (ds_if (db_not (db_t (DE.dv (de_clG (fn__law_same T) (hr.mono (by decide)) (by rfl) T.m__law_same T.k__law_same T.b__law_same (takes_of rfl rfl rfl rfl) (dc_cons (de_v (pv 10)) (dc_cons (de_clG (fn__law_due T) (hr.mono (by decide)) (by rfl) T.m__law_due T.k__law_due T.b__law_due (takes_of rfl rfl rfl rfl) (dc_cons (de_v (pv 2)) (dc_cons (de_v (pv 8)) (dc_cons (de_v (pv 9)) dc_nil)))) dc_nil)))) (fun _ => rfl)))
    (dss_one (ds_ret de_bl))
    dss_nil)
    (dss_one (ds_if (db_w (dw_and (db_c (opd_eq (Deep.of hr.room)) (DE.dv (de_ix (DE.dv (de_v (pv 10))) (DE.dv de_int) (fun _ _ => rfl))) (DE.dv de_str) (nomark _)) (dw_and1 (db_w (dw_or (db_c opd_isn (DE.dv (de_clG (fn_is_group T) (hr.mono (by decide)) (by rfl) T.m_is_group T.k_is_group T.b_is_group (takes_of rfl rfl rfl rfl) (dc_cons (de_ix (DE.dv (de_v (pv 10))) (DE.dv de_int) (fun _ _ => rfl)) dc_nil))) (DE.dv de_bl) (nomark _)) (dw_or1 (db_not (db_t (DE.dv (de_clG (fn__law_same T) (hr.mono (by decide)) (by rfl) T.m__law_same T.k__law_same T.b__law_same (takes_of rfl rfl rfl rfl) (dc_cons (de_clG (fn_gap_of T) (hr.mono (by decide)) (by rfl) T.m_gap_of T.k_gap_of T.b_gap_of (takes_of rfl rfl rfl rfl) (dc_cons (de_ix (DE.dv (de_v (pv 10))) (DE.dv de_int) (fun _ _ => rfl)) dc_nil)) (dc_cons (de_clG (fn_gap_of T) (hr.mono (by decide)) (by rfl) T.m_gap_of T.k_gap_of T.b_gap_of (takes_of rfl rfl rfl rfl) (dc_cons (de_v (pv 3)) dc_nil)) dc_nil)))) (fun _ => rfl)))))))))
    (dss_one (ds_ret de_bl))
    dss_nil)))))))
    (dss_one (ds_ret (de_clG (fn__law_refuses T) (hr.mono (by decide)) (by rfl) T.m__law_refuses T.k__law_refuses T.b__law_refuses (takes_of rfl rfl rfl rfl) (dc_cons (de_v (pv 3)) dc_nil))))))))))))))
end
end K52
namespace K52
open PySem PySem.Spec L2 DL
theorem mul_r (i j : Int) (h : -18446744073709551616 < j ∧ j < 18446744073709551616) : mulD (.int i) (.int j) = .ok (.int (i * j)) := by
  rw [a_mulI, chk_of (decide_eq_true (.inr h))]
theorem mul_l (i j : Int) (h : -18446744073709551616 < i ∧ i < 18446744073709551616) : mulD (.int i) (.int j) = .ok (.int (i * j)) := by
  rw [a_mulI, chk_of (decide_eq_true (.inl h))]
theorem whole_eq (v a b : Int) : F_is_whole [.int v, .int a, .int b] = .ok (.bool (decide (a ≤ v) && decide (v ≤ b))) := by
  rw [e_is_whole]; unfold P_is_whole
  by_cases h : a ≤ v <;> simp [PyData.isInt, PyData.isBool, h]
theorem slash : (Str.ofString "/" : Str) = ⟨#[47]⟩ := by decide +kernel
/-! ### words -/
def hi (f : Int) : Str := if f = 0 then "-" else Txt.mul "s" f
def lo (f : Int) : Str := if f = 0 then "-" else if f = 1 then "e" else Txt.mul "l" f
def fg (w : Str) : Int := if w = "-" then 0 else (w.length : Int)
theorem hi_facts : ∀ i : Nat, i < 10 → (hi i).length ≤ 9 ∧ 47 ∉ chars (hi i) ∧ fg (hi i) = i ∧ ((hi i).cps.toList.all fun c => decide (c < 16 ^ 8)) = true := by decide +kernel
theorem lo_facts : ∀ i : Nat, i < 10 → (lo i).length ≤ 9 ∧ 47 ∉ chars (lo i) ∧ fg (lo i) = i ∧ ((lo i).cps.toList.all fun c => decide (c < 16 ^ 8)) = true := by decide +kernel
def Dig (f : Int) : Prop := 0 ≤ f ∧ f ≤ 9
theorem Dig.nat {f : Int} (h : Dig f) : ∃ i : Nat, i < 10 ∧ f = (i : Int) := ⟨f.toNat, by have := h.1; have := h.2; omega, by have := h.1; omega⟩
theorem hi_f {f : Int} (h : Dig f) : (hi f).length ≤ 9 ∧ 47 ∉ chars (hi f) ∧ fg (hi f) = f ∧ ((hi f).cps.toList.all fun c => decide (c < 16 ^ 8)) = true := by
  obtain ⟨i, hi', rfl⟩ := h.nat
  exact hi_facts i hi'
theorem lo_f {f : Int} (h : Dig f) : (lo f).length ≤ 9 ∧ 47 ∉ chars (lo f) ∧ fg (lo f) = f ∧ ((lo f).cps.toList.all fun c => decide (c < 16 ^ 8)) = true := by
  obtain ⟨i, hi', rfl⟩ := h.nat
  exact lo_facts i hi'
def ws (ini : List Int) (l : Int) : List Str := ini.map hi ++ [lo l]
def cordS (ini : List Int) (l : Int) : Str := Txt.join "/" (ws ini l)
/-- figures of a cord -/
structure Fg (ini : List Int) (l : Int) : Prop where
  few : ini.length ≤ 5
  dig : ∀ f ∈ ini, Dig f
  las : Dig l
theorem ws_all {ini : List Int} {l : Int} (F : Fg ini l) : ∀ w ∈ ws ini l, w.length ≤ 9 ∧ 47 ∉ chars w ∧ (w.cps.toList.all fun c => decide (c < 16 ^ 8)) = true := fun w hw => by
  rcases List.mem_append.mp hw with h | h
  · obtain ⟨f, hf, rfl⟩ := List.mem_map.mp h
    have := hi_f (F.dig f hf)
    exact ⟨this.1, this.2.1, this.2.2.2⟩
  · rw [List.mem_singleton.mp h]
    have := lo_f F.las
    exact ⟨this.1, this.2.1, this.2.2.2⟩
theorem sum_le {ys : List Str} {n : Nat} (h : ∀ w ∈ ys, w.length ≤ n) : (ys.map (·.length)).sum ≤ ys.length * n := by
  induction ys with
  | nil => simp
  | cons y ys ih =>
    have h1 := ih fun w hw => h w (List.mem_cons_of_mem _ hw)
    have h2 := h y List.mem_cons_self
    rw [List.map_cons, List.sum_cons, List.length_cons, Nat.add_mul]; omega
theorem ws_len (ini : List Int) (l : Int) : (ws ini l).length = ini.length + 1 := by simp [ws]
theorem ws_join {ini : List Int} {l : Int} (F : Fg ini l) : joinD (.str "/") (.list ((ws ini l).map .str)) = .ok (.str (cordS ini l)) := by
  refine join_ok ?_
  have h1 := sum_le (n := 9) fun w hw => (ws_all F w hw).1
  have h2 := F.few
  rw [ws_len] at h1 ⊢
  rw [slash]
  show _ + (ini.length + 1) * 1 ≤ _
  omega
theorem cord_split {ini : List Int} {l : Int} (F : Fg ini l) : Txt.split (cordS ini l) "/" = ws ini l := by
  unfold cordS
  rw [slash]
  exact split_join 47 (ws ini l) (by simp [ws]) fun w hw => (ws_all F w hw).2.1
theorem J_len (c : Nat) : ∀ ws : List (List Nat), (∀ w ∈ ws, w.length ≤ 9) → (J c ws).length ≤ 10 * ws.length
  | [], _ => by simp [J]
  | [w], h => by have := h w List.mem_cons_self; show w.length ≤ _; simp; omega
  | w :: v :: ws, h => by
    have h1 := J_len c (v :: ws) fun x hx => h x (List.mem_cons_of_mem _ hx)
    have h2 := h w List.mem_cons_self
    show (w ++ c :: J c (v :: ws)).length ≤ _
    rw [List.length_append, List.length_cons, List.length_cons]; omega
theorem J_mem (c : Nat) : ∀ (ws : List (List Nat)) (x : Nat), x ∈ J c ws → x = c ∨ ∃ w ∈ ws, x ∈ w
  | [], x, h => by cases h
  | [w], x, h => .inr ⟨w, List.mem_cons_self, h⟩
  | w :: v :: ws, x, h => by
    rcases List.mem_append.mp (show x ∈ w ++ c :: J c (v :: ws) from h) with h | h
    · exact .inr ⟨w, List.mem_cons_self, h⟩
    · rcases List.mem_cons.mp h with h | h
      · exact .inl h
      · rcases J_mem c (v :: ws) x h with h | ⟨u, hu, h⟩
        · exact .inl h
        · exact .inr ⟨u, List.mem_cons_of_mem _ hu, h⟩
theorem cord_chars {ini : List Int} {l : Int} : chars (cordS ini l) = J 47 ((ws ini l).map chars) := by
  unfold cordS
  rw [slash, show Txt.join ⟨#[47]⟩ (ws ini l) = Str.join ⟨#[47]⟩ (ws ini l) from StrLaws.glued_eq_join _ _, chars_join]
theorem cord_len {ini : List Int} {l : Int} (F : Fg ini l) : (cordS ini l).length ≤ 60 := by
  rw [← chars_len, cord_chars]
  have h1 := J_len 47 ((ws ini l).map chars) fun w hw => by
    obtain ⟨x, hx, rfl⟩ := List.mem_map.mp hw
    rw [chars_len]; exact (ws_all F x hx).1
  rw [List.length_map, ws_len] at h1
  have := F.few
  omega
theorem cord_plain {ini : List Int} {l : Int} (F : Fg ini l) : plainOk (.str (cordS ini l)) = true := by
  rw [plainOk, List.all_eq_true]
  intro c hc
  have hc : c ∈ chars (cordS ini l) := hc
  rw [cord_chars] at hc
  rw [decide_eq_true_eq]
  rcases J_mem 47 _ c hc with rfl | ⟨w, hw, h⟩
  · decide
  · obtain ⟨x, hx, rfl⟩ := List.mem_map.mp hw
    have := (ws_all F x hx).2.2
    rw [List.all_eq_true] at this
    exact of_decide_eq_true (this c h)
/-! ### the last and all but the last -/
theorem cutL_init {α : Type} (xs : List α) (x : α) : cutL (xs ++ [x]) none (some (-1)) = xs := by
  unfold cutL
  rw [HT.sIx_none, List.drop_zero]
  have : HT.sIx (xs ++ [x]).length (xs ++ [x]).length (some (-1)) = xs.length := by
    unfold HT.sIx
    simp
    try omega
  rw [this]
  simp
theorem sl_initL {α : Type} (enc : α → PD) (xs : List α) (x : α) : slD (.list ((xs ++ [x]).map enc)) none (some (-1)) = .ok (.list (xs.map enc)) := by
  show R.ok (PyData.list (cutL _ _ _)) = _
  rw [List.map_append, List.map_cons, List.map_nil, cutL_init]
end K52
namespace K52
open PySem PySem.Spec L2 DL
/-! ### numbers -/
def numOf (fs : List Int) : Int := fs.foldl (fun n f => 10 * n + f) 0
theorem number_by_eq (fs : List Int) : F_number_by [.list (fs.map PyData.int)] = .ok (.int (numOf fs)) := by
  rw [e_number_by]; unfold P_number_by
  rw [a_itL, R.ok_bind, forK_fold PyData.int PyData.int (fun n f => 10 * n + f) fs 0 fun x hx b next brk => by
    unfold P_number_by_l1
    rw [a_mulS, mul_l 10 b (by decide), R.ok_bind, a_addI, R.ok_bind]]
  rfl
theorem law_number_eq (fs : List Int) : F__law_number [.list (fs.map PyData.int)] = .ok (.int (numOf fs)) := by
  rw [e__law_number]; unfold P__law_number
  rw [a_itL, R.ok_bind, forK_fold PyData.int PyData.int (fun n f => 10 * n + f) fs 0 fun x hx b next brk => by
    unfold P__law_number_l1
    rw [a_mulS, mul_l 10 b (by decide), R.ok_bind, a_addI, R.ok_bind]]
  rfl
/-! ### cords with figures -/
theorem hiW {f : Int} (h : Dig f) : mulS (.str "s") (.int f) = .ok (.str (Txt.mul "s" f)) := a_mulSs _ _ ⟨h.1, by have := h.2; omega⟩ (by decide +kernel)
theorem loW {f : Int} (h : Dig f) : mulS (.str "l") (.int f) = .ok (.str (Txt.mul "l" f)) := a_mulSs _ _ ⟨h.1, by have := h.2; omega⟩ (by decide +kernel)
theorem ix_last {α : Type} (enc : α → PD) (xs : List α) (x : α) : ixD (.list ((xs ++ [x]).map enc)) (.int (-1)) = .ok (enc x) := ix_lastL enc xs x
theorem map_ws (ini : List Int) (l : Int) : (ini.map hi).map PyData.str ++ [PyData.str (lo l)] = (ws ini l).map PyData.str := by simp [ws]
theorem law_cord_eq {ini : List Int} {l : Int} (F : Fg ini l) : F__law_cord [.list ((ini ++ [l]).map PyData.int)] = .ok (.str (cordS ini l)) := by
  have few := F.few
  rw [e__law_cord]; unfold P__law_cord
  rw [neg1, R.ok_bind, optI_i, R.ok_bind, sl_initL, R.ok_bind, a_itL, R.ok_bind]
  rw [lcP_all PyData.int PyData.str hi ini (by omega) fun f hf => by
    have hd := F.dig f hf
    unfold hi
    by_cases h : f = 0
    · simp [h]
    · have : 0 < f := by have := hd.1; omega
      simp [h, this, hiW hd]]
  rw [R.ok_bind, R.ok_bind, R.ok_bind, ix_last, R.ok_bind]
  have e : (((eqD (.int l) (.int 0)).bind asB).bind fun b_9 => if b_9 = true then R.ok (PyData.str "-") else ((eqD (.int l) (.int 1)).bind asB).bind fun b_10 => if b_10 = true then R.ok (PyData.str "e") else mulS (.str "l") (.int l)) = .ok (.str (lo l)) := by
    unfold lo
    by_cases h : l = 0
    · simp [h]
    · by_cases h1 : l = 1
      · simp [h1]
      · simp [h, h1, loW F.las]
  rw [e, R.ok_bind, R.ok_bind, a_mkL, chk_of (by simp [big_eq]), R.ok_bind, R.ok_bind, a_addL, chk_of (by simp [big_eq]; omega), R.ok_bind, map_ws, ws_join F]
/-! ### a text is read -/
def figs (z : Str) : List Int := (Txt.split z "/").map fg
theorem split_of {z : Str} (h : z.length ≤ 1000) : splitD (.str z) (.str "/") = .ok ((Txt.split z "/").map .str) := by
  rw [slash]; exact split_ok 47 (by omega)
theorem split_len {z : Str} (h : z.length ≤ 1000) : (Txt.split z "/").length ≤ 1002 := by
  have := PyProof.Rows.split_le z "/"; omega
theorem word_len {z w : Str} (h : z.length ≤ 1000) (hw : w ∈ Txt.split z "/") : w.length ≤ 1000 := Nat.le_trans (PyProof.Rows.part_short hw) h
theorem len_str {w : Str} (h : w.length ≤ 1000) : lenD [.str w] = .ok (.int w.length) := by
  show chk _ _ = _
  rw [chk_of (decide_eq_true (by rw [big_eq]; omega))]
theorem fg_word {w : Str} (h : w.length ≤ 1000) : (((eqD (.str w) (.str "-")).bind asB).bind fun b_5 => if b_5 = true then R.ok (PyData.int 0) else lenD [.str w]) = .ok (.int (fg w)) := by
  unfold fg
  rw [a_eqS, R.ok_bind, a_asB, R.ok_bind, len_str h]
  by_cases e : w = ("-" : Str)
  · simp [e]
  · simp [e]
theorem figures_on_eq {z : Str} (h : z.length ≤ 1000) : F_figures_on [.str z] = .ok (.list ((figs z).map PyData.int)) := by
  rw [e_figures_on]; unfold P_figures_on
  rw [a_isS, chk_t, split_of h, R.ok_bind, R.ok_bind, a_itL, R.ok_bind, lcP_all PyData.str PyData.int fg _ (by have := split_len h; omega) fun w hw => by rw [fg_word (word_len h hw)]; rfl]
  rfl
theorem cord_figs {ini : List Int} {l : Int} (F : Fg ini l) : figs (cordS ini l) = ini ++ [l] := by
  unfold figs
  rw [cord_split F]
  unfold ws
  rw [List.map_append, List.map_map]
  congr 1
  · rw [show ini = ini.map id by simp]
    simp only [List.map_map]
    exact List.map_congr_left fun f hf => (hi_f (F.dig f hf)).2.2.1
  · simp [(lo_f F.las).2.2.1]
/-! words that are good -/
def his : List Str := "-" :: (rng 1 9).map fun k => Txt.mul "s" k
def los : List Str := "-" :: "e" :: (rng 2 8).map fun k => Txt.mul "l" k
theorem mul_len : ∀ i : Nat, i < 10 → (Txt.mul "s" (i : Int)).length = i ∧ (Txt.mul "l" (i : Int)).length = i := by decide +kernel
theorem mem_his {w : Str} (h0 : w ≠ "-") : w ∈ his ↔ (1 ≤ w.length ∧ w.length ≤ 9 ∧ w = Txt.mul "s" (w.length : Int)) := by
  unfold his
  rw [List.mem_cons, or_iff_right h0, List.mem_map]
  constructor
  · rintro ⟨k, hk, rfl⟩
    have hk := mem_rng.mp hk
    obtain ⟨i, rfl⟩ : ∃ i : Nat, k = (i : Int) := ⟨k.toNat, by omega⟩
    have := (mul_len i (by omega)).1
    rw [this]
    exact ⟨by omega, by omega, rfl⟩
  · rintro ⟨h1, h2, h3⟩
    exact ⟨w.length, mem_rng.mpr (by omega), h3.symm⟩
theorem mem_los {w : Str} (h0 : w ≠ "-") (h1 : w ≠ "e") : w ∈ los ↔ (2 ≤ w.length ∧ w.length ≤ 9 ∧ w = Txt.mul "l" (w.length : Int)) := by
  unfold los
  rw [List.mem_cons, or_iff_right h0, List.mem_cons, or_iff_right h1, List.mem_map]
  constructor
  · rintro ⟨k, hk, rfl⟩
    have hk := mem_rng.mp hk
    obtain ⟨i, rfl⟩ : ∃ i : Nat, k = (i : Int) := ⟨k.toNat, by omega⟩
    have := (mul_len i (by omega)).2
    rw [this]
    exact ⟨by omega, by omega, rfl⟩
  · rintro ⟨h1, h2, h3⟩
    exact ⟨w.length, mem_rng.mpr (by omega), h3.symm⟩
theorem is_high_eq {w : Str} (h : w.length ≤ 1000) : F__is_high [.str w] = .ok (.bool (decide (w ∈ his))) := by
  rw [e__is_high]; unfold P__is_high
  rw [a_eqS, len_str h]
  by_cases e : w = ("-" : Str)
  · subst e
    have : ("-" : Str) ∈ his := List.mem_cons_self
    simp [this]
  · have hm := mem_his e
    have m := a_mulSs "s" (w.length : Int) (by omega) (by decide +kernel)
    have e1 : (w == ("-" : Str)) = false := by simpa using e
    by_cases c1 : 1 ≤ w.length
    · by_cases c2 : w.length ≤ 9
      · have : decide (w ∈ his) = (w == Txt.mul "s" (w.length : Int)) := by
          rw [decide_eq_decide.mpr hm]
          by_cases q : w = Txt.mul "s" (w.length : Int)
          · have q2 : (w == Txt.mul "s" (w.length : Int)) = true := by simpa using q
            rw [q2, decide_eq_true ⟨c1, c2, q⟩]
          · have q2 : (w == Txt.mul "s" (w.length : Int)) = false := by simpa using q
            rw [q2, decide_eq_false fun z => q z.2.2]
        rw [this]
        simp [e1, show (1 : Int) ≤ (w.length : Int) by omega, show (w.length : Int) ≤ 9 by omega, m, a_eqS]
      · have : decide (w ∈ his) = false := decide_eq_false fun z => c2 (hm.mp z).2.1
        rw [this]
        simp [e1, show (1 : Int) ≤ (w.length : Int) by omega, show ¬ (w.length : Int) ≤ 9 by omega]
    · have : decide (w ∈ his) = false := decide_eq_false fun z => c1 (hm.mp z).1
      rw [this]
      simp [e1, show ¬ (1 : Int) ≤ (w.length : Int) by omega]
theorem are_units_eq {w : Str} (h : w.length ≤ 1000) : F__are_units [.str w] = .ok (.bool (decide (w ∈ los))) := by
  rw [e__are_units]; unfold P__are_units
  rw [a_eqS, a_eqS, len_str h]
  by_cases e : w = ("-" : Str)
  · subst e
    have : ("-" : Str) ∈ los := List.mem_cons_self
    simp [this]
  · by_cases e' : w = ("e" : Str)
    · subst e'
      have : ("e" : Str) ∈ los := List.mem_cons_of_mem _ List.mem_cons_self
      have e1 : (("e" : Str) == ("-" : Str)) = false := by simpa using e
      simp [this, e1]
    have hm := mem_los e e'
    have m := a_mulSs "l" (w.length : Int) (by omega) (by decide +kernel)
    have e1 : (w == ("-" : Str)) = false := by simpa using e
    have e2 : (w == ("e" : Str)) = false := by simpa using e'
    by_cases c1 : 2 ≤ w.length
    · by_cases c2 : w.length ≤ 9
      · have : decide (w ∈ los) = (w == Txt.mul "l" (w.length : Int)) := by
          rw [decide_eq_decide.mpr hm]
          by_cases q : w = Txt.mul "l" (w.length : Int)
          · have q2 : (w == Txt.mul "l" (w.length : Int)) = true := by simpa using q
            rw [q2, decide_eq_true ⟨c1, c2, q⟩]
          · have q2 : (w == Txt.mul "l" (w.length : Int)) = false := by simpa using q
            rw [q2, decide_eq_false fun z => q z.2.2]
        rw [this]
        simp [e1, e2, show (2 : Int) ≤ (w.length : Int) by omega, show (w.length : Int) ≤ 9 by omega, m, a_eqS]
      · have : decide (w ∈ los) = false := decide_eq_false fun z => c2 (hm.mp z).2.1
        rw [this]
        simp [e1, e2, show (2 : Int) ≤ (w.length : Int) by omega, show ¬ (w.length : Int) ≤ 9 by omega]
    · have : decide (w ∈ los) = false := decide_eq_false fun z => c1 (hm.mp z).1
      rw [this]
      simp [e1, e2, show ¬ (2 : Int) ≤ (w.length : Int) by omega]
end K52
namespace K52
open PySem PySem.Spec L2 DL
/-! ### is a text a cord -/
theorem tw_ne (z : Str) : ∃ wi wl, Txt.split z "/" = wi ++ [wl] := by
  have h : Txt.split z "/" ≠ [] := by
    intro h
    have := PyProof.Rows.split_pos z "/"
    rw [h] at this
    simp at this
  exact ⟨_, _, (List.dropLast_concat_getLast h).symm⟩
def isC (z : Str) : Bool := decide ((Txt.split z "/").length ≤ 5) && (((Txt.split z "/").dropLast.all fun w => decide (w ∈ his)) && decide ((Txt.split z "/").getLastD "" ∈ los))
theorem isC_of {z : Str} {wi : List Str} {wl : Str} (h : Txt.split z "/" = wi ++ [wl]) : isC z = (decide (wi.length + 1 ≤ 5) && ((wi.all fun w => decide (w ∈ his)) && decide (wl ∈ los))) := by
  unfold isC; rw [h]; simp
theorem len_list (ds : List PD) : lenD [.list ds] = .ok (.int ds.length) := rfl
theorem is_cord_eq {z : Str} (h : z.length ≤ 1000) : F_is_cord [.str z] = .ok (.bool (isC z)) := by
  obtain ⟨wi, wl, e⟩ := tw_ne z
  rw [isC_of e, e_is_cord]; unfold P_is_cord
  have hl := split_len h
  rw [if_neg (show ¬ ((!(PyData.str z).isStr) = true) from nofun), a_isS, chk_t, split_of h, R.ok_bind, R.ok_bind, len_list, R.ok_bind, List.length_map, a_gtI, R.ok_bind, a_asB, R.ok_bind]
  rw [e] at hl ⊢
  rw [List.length_append, List.length_singleton] at hl ⊢
  by_cases c : wi.length + 1 ≤ 5
  · have hw : ∀ w ∈ wi, w.length ≤ 1000 := fun w hw => word_len h (by rw [e]; exact List.mem_append.mpr (.inl hw))
    have hw' : wl.length ≤ 1000 := word_len h (by rw [e]; exact List.mem_append.mpr (.inr List.mem_cons_self))
    rw [if_neg (by rw [decide_eq_true_eq]; omega), neg1, R.ok_bind, optI_i, R.ok_bind, sl_initL, R.ok_bind, a_itL, R.ok_bind,
      lcP_all PyData.str PyData.bool (fun w => decide (w ∈ his)) wi (by omega) fun w hw2 => by rw [is_high_eq (hw w hw2)]; rfl]
    rw [R.ok_bind, R.ok_bind, R.ok_bind, all_bools, R.ok_bind, R.ok_bind, ix_last, decide_eq_true c]
    simp only [R.ok_bind, List.all_map, Bool.true_and, a_truB]
    cases hb : (wi.all (id ∘ fun w => decide (w ∈ his)))
    · have : (wi.all fun w => decide (w ∈ his)) = false := hb
      simp [this]
    · have : (wi.all fun w => decide (w ∈ his)) = true := hb
      rw [this, if_pos rfl]
      show chk true _ = _
      rw [chk_t, are_units_eq hw', Bool.true_and]
  · rw [if_pos (by rw [decide_eq_true_eq]; omega), decide_eq_false c]; rfl
/-! ### number_on, knots_on -/
theorem cord_isC {ini : List Int} {l : Int} (F : Fg ini l) (h4 : ini.length ≤ 4) : isC (cordS ini l) = true := by
  rw [isC_of (show Txt.split (cordS ini l) "/" = ini.map hi ++ [lo l] from cord_split F), List.length_map, decide_eq_true (by omega), Bool.true_and, Bool.and_eq_true]
  refine ⟨List.all_eq_true.mpr fun w hw => ?_, ?_⟩
  · obtain ⟨f, hf, rfl⟩ := List.mem_map.mp hw
    obtain ⟨i, h1, rfl⟩ := (F.dig f hf).nat
    have : ∀ i : Nat, i < 10 → decide (hi i ∈ his) = true := by decide +kernel
    exact this i h1
  · obtain ⟨i, h1, rfl⟩ := F.las.nat
    have : ∀ i : Nat, i < 10 → decide (lo i ∈ los) = true := by decide +kernel
    exact this i h1
end K52
namespace K52
open PySem PySem.Spec L2 DL
theorem iteT {α : Type} {x y : R α} {b : Bool} (h : b = true) : (if b = true then x else y) = x := if_pos h
theorem iteF {α : Type} {x y : R α} {b : Bool} (h : b = false) : (if b = true then x else y) = y := by rw [h]; rfl
/-- a cord's figures, at most five -/
structure Cd (ini : List Int) (l : Int) : Prop extends Fg ini l where
  four : ini.length ≤ 4
theorem Cd.len {ini : List Int} {l : Int} (C : Cd ini l) : (cordS ini l).length ≤ 1000 := by have := cord_len C.toFg; omega
theorem Cd.is {ini : List Int} {l : Int} (C : Cd ini l) : F_is_cord [.str (cordS ini l)] = .ok (.bool true) := by
  rw [is_cord_eq C.len, cord_isC C.toFg C.four]
theorem Cd.figs {ini : List Int} {l : Int} (C : Cd ini l) : F_figures_on [.str (cordS ini l)] = .ok (.list ((ini ++ [l]).map PyData.int)) := by
  rw [figures_on_eq C.len, cord_figs C.toFg]
/-! ### hung cords -/
inductive Tr where
  | nd (ini : List Int) (l : Int) (kids : List Tr)
def Tr.ini : Tr → List Int | .nd i _ _ => i
def Tr.l : Tr → Int | .nd _ l _ => l
def Tr.kids : Tr → List Tr | .nd _ _ k => k
mutual
def encT : Tr → PD
  | .nd i l k => .tuple [.str (cordS i l), .tuple (encL k)]
def encL : List Tr → List PD
  | [] => []
  | t :: ts => encT t :: encL ts
end
theorem encL_map : ∀ ts : List Tr, encL ts = ts.map encT
  | [] => by rw [encL]; rfl
  | t :: ts => by rw [encL, encL_map ts, List.map_cons]
theorem encT_eq (t : Tr) : encT t = .tuple [.str (cordS t.ini t.l), .tuple (t.kids.map encT)] := by
  cases t with
  | nd i l k => rw [encT, encL_map]; rfl
/-- at most so many deep, at most five beside each other -/
def okL : Nat → List Tr → Prop
  | 0, ks => ks = []
  | d + 1, ks => ks.length ≤ 5 ∧ ∀ t ∈ ks, Cd t.ini t.l ∧ okL d t.kids
theorem len_tup (ds : List PD) : lenD [.tuple ds] = .ok (.int ds.length) := rfl
theorem hung_ok : ∀ (d : Nat) (ks : List Tr), okL d ks → ∀ n : Nat, d < n → F__are_hung_n n [.tuple (ks.map encT), .int d] = .ok (.bool true)
  | 0, ks, h, n + 1, _ => by
    have e : ks = [] := h
    subst e
    rw [e__are_hung]; rfl
  | d + 1, ks, h, n + 1, hn => by
    obtain ⟨h5, hk⟩ := h
    rw [e__are_hung]; unfold P__are_hung
    rw [iteF (show (!(PyData.tuple (ks.map encT)).isTuple) = false from rfl), len_tup, R.ok_bind, List.length_map, a_gtI, R.ok_bind, a_asB, R.ok_bind, iteF (decide_eq_false (by omega)), R.ok_bind, a_gtI, R.ok_bind, a_asB, R.ok_bind]
    have e0 : (if decide ((ks.length : Int) > 0) = true then (eqD (.int ((d + 1 : Nat) : Int)) (.int 0)).bind asB else R.ok false) = .ok false := by
      rw [a_eqI, R.ok_bind, a_asB, decide_eq_false (show ¬ (((d + 1 : Nat) : Int) = 0) by omega)]
      split <;> rfl
    rw [e0, R.ok_bind, iteF rfl, a_itT, R.ok_bind]
    rw [forK_skip encT () ks fun t ht next brk => by
      obtain ⟨C, hok⟩ := hk t ht
      have ih := hung_ok d t.kids hok n (by omega)
      unfold P__are_hung_l1
      rw [encT_eq, iteF (show (!(PyData.tuple [.str (cordS t.ini t.l), .tuple (t.kids.map encT)]).isTuple) = false from rfl), len_tup, R.ok_bind]
      rw [show neD (.int ([PyData.str (cordS t.ini t.l), PyData.tuple (t.kids.map encT)].length : Nat)) (.int 2) = .ok (.bool false) by rw [a_neI]; rfl, R.ok_bind, a_asB, R.ok_bind, iteF rfl]
      rw [show ixD (.tuple [.str (cordS t.ini t.l), .tuple (t.kids.map encT)]) (.int 0) = .ok (.str (cordS t.ini t.l)) from rfl, show ixD (.tuple [.str (cordS t.ini t.l), .tuple (t.kids.map encT)]) (.int 1) = .ok (.tuple (t.kids.map encT)) from rfl]
      rw [a_subI, show (((d + 1 : Nat) : Int) - 1) = (d : Int) by omega]
      simp only [R.ok_bind, List.length_cons, List.length_nil]
      rw [show (0 + 1 == 1) = true from rfl, show (0 + 1 + 1 == 2) = true from rfl, chk_t, chk_t, C.is, ih]
      rfl]
/-! ### totals -/
def numT (t : Tr) : Int := numOf (t.ini ++ [t.l])
def tot : Nat → Tr → Int
  | 0, t => numT t
  | d + 1, t => numT t + (t.kids.map (tot d)).sum
theorem sum_ok (ns : List Int) : sumD [.list (ns.map PyData.int)] = .ok (.int ns.sum) := by
  show (match intsOf (ns.map PyData.int) with | some ns => R.ok (PyData.int ns.sum) | none => R.bad) = _
  rw [intsOf_map]
theorem total_ok : ∀ (d : Nat) (t : Tr), Cd t.ini t.l → okL d t.kids → ∀ n : Nat, d < n → F__total_n n [encT t] = .ok (.int (tot d t))
  | d, t, C, h, n + 1, hn => by
    rw [e__total]; unfold P__total
    rw [encT_eq]
    rw [show ixD (.tuple [.str (cordS t.ini t.l), .tuple (t.kids.map encT)]) (.int 0) = .ok (.str (cordS t.ini t.l)) from rfl, show ixD (.tuple [.str (cordS t.ini t.l), .tuple (t.kids.map encT)]) (.int 1) = .ok (.tuple (t.kids.map encT)) from rfl]
    simp only [R.ok_bind, List.length_cons, List.length_nil]
    rw [show (0 + 1 == 1) = true from rfl, chk_t, C.figs]
    simp only [R.ok_bind, List.length_cons, List.length_nil]
    rw [show (0 + 1 == 1) = true from rfl, chk_t, number_by_eq, R.ok_bind, a_itT, R.ok_bind]
    match d, h with
    | 0, h =>
      have e : t.kids = [] := h
      rw [e]
      have z : ∀ q : PD → R (Option PD), lcP (([] : List Tr).map encT) q = .ok [] := fun q => by
        unfold lcP
        rw [chk_of (decide_eq_true (by simp))]; rfl
      rw [z, R.ok_bind, R.ok_bind, R.ok_bind, show sumD [.list []] = .ok (.int 0) from rfl, R.ok_bind, a_addI, Int.add_zero]; rfl
    | d + 1, h =>
      obtain ⟨h5, hk⟩ := h
      rw [lcP_all encT PyData.int (tot d) t.kids (by omega) fun k hk2 => by
        rw [total_ok d k (hk k hk2).1 (hk k hk2).2 n (by omega)]; rfl]
      rw [R.ok_bind, R.ok_bind, R.ok_bind, sum_ok, R.ok_bind, a_addI]; rfl
end K52
namespace K52
open PySem PySem.Spec L2 DL
def encP (p : List Int) : PD := .tuple (p.map PyData.int)
/-- the trees with their numbers -/
def nums : Int → List Tr → List (Int × Tr)
  | _, [] => []
  | i, t :: ts => (i, t) :: nums (i + 1) ts
theorem enum_eq : ∀ (i : Nat) (ks : List Tr), enumL i (ks.map encT) = (nums i ks).map fun x => .tuple [.int x.1, encT x.2]
  | _, [] => rfl
  | i, t :: ts => by
    have := enum_eq (i + 1) ts
    show PyData.tuple [.int i, encT t] :: enumL (i + 1) (ts.map encT) = .tuple [.int i, encT t] :: (nums ((i : Int) + 1) ts).map _
    rw [this]; rfl
theorem nums_len : ∀ (i : Int) (ks : List Tr), (nums i ks).length = ks.length
  | _, [] => rfl
  | i, t :: ts => by show (nums (i + 1) ts).length + 1 = _; rw [nums_len (i + 1) ts]; rfl
theorem nums_mem : ∀ {i : Int} {ks : List Tr} {x : Int × Tr}, x ∈ nums i ks → x.2 ∈ ks
  | _, [], x, h => by cases h
  | i, t :: ts, x, h => by
    rcases List.mem_cons.mp (show x ∈ (i, t) :: nums (i + 1) ts from h) with e | h
    · rw [e]; exact List.mem_cons_self
    · exact List.mem_cons_of_mem _ (nums_mem h)
def pathsL : Nat → List Tr → List Int → List (List Int)
  | 0, _, _ => []
  | d + 1, ks, p => (nums 0 ks).flatMap fun x => (p ++ [x.1]) :: pathsL d x.2.kids (p ++ [x.1])
def pl : Nat → Nat
  | 0 => 0
  | d + 1 => 5 * (1 + pl d)
theorem paths_len : ∀ (d : Nat) (ks : List Tr) (p : List Int), okL d ks → (pathsL d ks p).length ≤ pl d
  | 0, _, _, _ => Nat.le_refl 0
  | d + 1, ks, p, h => by
    obtain ⟨h5, hk⟩ := h
    have : ∀ xs : List (Int × Tr), (∀ x ∈ xs, okL d x.2.kids) → (xs.flatMap fun x => (p ++ [x.1]) :: pathsL d x.2.kids (p ++ [x.1])).length ≤ xs.length * (1 + pl d) := fun xs => by
      induction xs with
      | nil => intro _; simp
      | cons x xs ih =>
        intro hx
        have h1 := paths_len d x.2.kids (p ++ [x.1]) (hx x List.mem_cons_self)
        have h2 := ih fun y hy => hx y (List.mem_cons_of_mem _ hy)
        rw [List.flatMap_cons, List.length_append, List.length_cons, List.length_cons, Nat.add_mul]; omega
    have h1 := this (nums 0 ks) fun x hx => (hk x.2 (nums_mem hx)).2
    rw [nums_len] at h1
    exact Nat.le_trans h1 (Nat.mul_le_mul_right _ h5)
theorem forK_appB {α γ δ : Type} {body : PD → List PD → (List PD → R γ) → (List PD → R γ) → R γ} {k : List PD → R γ} (B : Nat) (enc : α → PD) (dec : δ → PD) (G : α → List δ) : ∀ (xs : List α) (acc : List PD), acc.length + B * xs.length ≤ 1000000 → (∀ x ∈ xs, (G x).length ≤ B) →
    (∀ x ∈ xs, ∀ acc next brk, acc.length + B ≤ 1000000 → body (enc x) acc next brk = next (acc ++ (G x).map dec)) → forK body (xs.map enc) acc k = k (acc ++ (xs.flatMap G).map dec)
  | [], acc, _, _, _ => by simp [forK]
  | x :: xs, acc, hl, hg, h => by
    rw [List.length_cons, Nat.mul_add] at hl
    have g1 := hg x List.mem_cons_self
    rw [List.map_cons]
    show body (enc x) acc _ _ = _
    rw [h x List.mem_cons_self acc _ _ (by omega), forK_appB B enc dec G xs (acc ++ (G x).map dec) (by rw [List.length_append, List.length_map]; omega) (fun y hy => hg y (List.mem_cons_of_mem _ hy)) fun y hy => h y (List.mem_cons_of_mem _ hy)]
    rw [List.flatMap_cons, List.map_append, List.append_assoc]
theorem ext_lt {α : Type} {l es : List PD} {k : List PD → R α} (h : l.length + es.length ≤ big) : extK l (.list es) k = k (l ++ es) := if_pos h
theorem pl_le : ∀ d : Nat, d ≤ 4 → pl d ≤ 780 := by
  intro d h
  have : ∀ d : Nat, d < 5 → pl d ≤ 780 := by decide
  exact this d (by omega)
theorem paths_ok : ∀ (d : Nat) (ks : List Tr) (p : List Int), okL d ks → d ≤ 4 → p.length ≤ 10 → d + p.length ≤ 10 → ∀ n : Nat, d < n → F__paths_n n [.tuple (ks.map encT), encP p] = .ok (.list ((pathsL d ks p).map encP))
  | 0, ks, p, h, _, _, _, n + 1, _ => by
    have e : ks = [] := h
    subst e
    rw [e__paths]; rfl
  | d + 1, ks, p, h, h4, hp, hdp, n + 1, hn => by
    obtain ⟨h5, hk⟩ := h
    have pd := pl_le d (by omega)
    rw [e__paths]; unfold P__paths
    rw [show enmL (.tuple (ks.map encT)) = .ok (enumL 0 (ks.map encT)) from rfl, R.ok_bind, enum_eq 0 ks]
    have gl : ∀ x ∈ nums 0 ks, ((p ++ [x.1]) :: pathsL d x.2.kids (p ++ [x.1])).length ≤ 800 := fun x hx => by
      have := paths_len d x.2.kids (p ++ [x.1]) (hk x.2 (nums_mem hx)).2
      rw [List.length_cons]; omega
    have nl := nums_len 0 ks
    rw [show (((0 : Nat) : Int)) = 0 from rfl, forK_appB 800 (fun x : Int × Tr => PyData.tuple [.int x.1, encT x.2]) encP (fun x => (p ++ [x.1]) :: pathsL d x.2.kids (p ++ [x.1])) (nums 0 ks) [] (by rw [List.length_nil]; omega) gl fun x hx acc next brk ha => by
      have hg := gl x hx
      have ih := paths_ok d x.2.kids (p ++ [x.1]) (hk x.2 (nums_mem hx)).2 (by omega) (by rw [List.length_append, List.length_singleton]; omega) (by rw [List.length_append, List.length_singleton]; omega) n (by omega)
      have ap : addD (encP p) (.tuple [.int x.1]) = .ok (encP (p ++ [x.1])) := by
        unfold encP
        rw [a_addT, chk_of (decide_eq_true (by rw [List.length_map, big_eq]; simp; omega)), List.map_append]; rfl
      unfold P__paths_l1
      rw [un2_t, ap, encT_eq]
      rw [show ixD (.tuple [.str (cordS x.2.ini x.2.l), .tuple (x.2.kids.map encT)]) (.int 1) = .ok (.tuple (x.2.kids.map encT)) from rfl]
      simp only [R.ok_bind, List.length_cons, List.length_nil, a_mkL]
      rw [chk_of (show decide (0 + 1 ≤ big) = true by simp [big_eq]), show (0 + 1 + 1 == 2) = true from rfl, chk_t, ih]
      simp only [R.ok_bind]
      rw [a_addL, chk_of (decide_eq_true (by rw [List.length_map, big_eq]; rw [List.length_cons] at hg; simp; omega)), R.ok_bind]
      rw [List.length_cons] at hg
      rw [ext_lt (by rw [List.length_append, List.length_map, big_eq]; simp; omega)]
      rfl]
    rfl
end K52
namespace K52
open PySem PySem.Spec L2 DL
/-- a group -/
structure Grp (t : Tr) : Prop where
  cd : Cd t.ini t.l
  ok : okL 4 t.kids
  some : t.kids ≠ []
  few : (pathsL 4 t.kids []).length ≤ 12
theorem hd_T (t : Tr) : ixD (encT t) (.int 0) = .ok (.str (cordS t.ini t.l)) := by rw [encT_eq]; rfl
theorem kd_T (t : Tr) : ixD (encT t) (.int 1) = .ok (.tuple (t.kids.map encT)) := by rw [encT_eq]; rfl
theorem F_hung (d : Nat) (ks : List Tr) (h : okL d ks) (hd : d ≤ 4) : F__are_hung [.tuple (ks.map encT), .int d] = .ok (.bool true) := hung_ok d ks h 12 (by omega)
theorem F_pth (d : Nat) (ks : List Tr) (p : List Int) (h : okL d ks) (hd : d ≤ 4) (hp : p.length ≤ 5) : F__paths [.tuple (ks.map encT), encP p] = .ok (.list ((pathsL d ks p).map encP)) := paths_ok d ks p h hd (by omega) (by omega) 12 (by omega)
theorem F_tot (d : Nat) (t : Tr) (C : Cd t.ini t.l) (h : okL d t.kids) (hd : d ≤ 4) : F__total [encT t] = .ok (.int (tot d t)) := total_ok d t C h 12 (by omega)
theorem isT (t : Tr) : (encT t).isTuple = true := by rw [encT_eq]; rfl
theorem lenT (t : Tr) : lenD [encT t] = .ok (.int 2) := by rw [encT_eq]; rfl
theorem is_group_ok {t : Tr} (G : Grp t) : F_is_group [encT t] = .ok (.bool true) := by
  have hn : 0 < t.kids.length := List.length_pos_iff.mpr G.some
  rw [e_is_group]; unfold P_is_group
  rw [isT, iteF (show (!true) = false from rfl), lenT, R.ok_bind, a_neI, R.ok_bind, a_asB, R.ok_bind, iteF (show decide ((2 : Int) ≠ 2) = false from rfl), hd_T, kd_T]
  simp only [R.ok_bind, List.length_cons, List.length_nil]
  rw [show (0 + 1 == 1) = true from rfl, chk_t, G.cd.is, R.ok_bind, a_truB, R.ok_bind, R.ok_bind, iteF (show (!true) = false from rfl)]
  rw [show (0 + 1 + 1 == 2) = true from rfl, chk_t, chk_t]
  rw [show F__are_hung [.tuple (t.kids.map encT), .int 4] = .ok (.bool true) from F_hung 4 t.kids G.ok (Nat.le_refl 4), R.ok_bind, a_truB, R.ok_bind, R.ok_bind, iteF (show (!true) = false from rfl)]
  rw [len_tup, R.ok_bind, List.length_map, a_eqI, R.ok_bind, a_asB, R.ok_bind, iteF (decide_eq_false (by omega))]
  rw [show F__paths [.tuple (t.kids.map encT), .tuple []] = .ok (.list ((pathsL 4 t.kids []).map encP)) from F_pth 4 t.kids [] G.ok (Nat.le_refl 4) (by decide), R.ok_bind, R.ok_bind, len_list, R.ok_bind, List.length_map, a_leI]
  have := G.few
  rw [decide_eq_true (by omega)]
theorem check_group_ok {t : Tr} (G : Grp t) : F_check_group [encT t] = .ok .none := by
  rw [e_check_group]; unfold P_check_group
  rw [is_group_ok G]; rfl
def allP (t : Tr) : List (List Int) := [] :: pathsL 4 t.kids []
theorem all_paths_ok {t : Tr} (G : Grp t) : F_all_paths [encT t] = .ok (.list ((allP t).map encP)) := by
  have := G.few
  rw [e_all_paths]; unfold P_all_paths
  rw [kd_T]
  simp only [R.ok_bind, List.length_cons, List.length_nil]
  rw [show (0 + 1 + 1 == 2) = true from rfl, chk_t, show F__paths [.tuple (t.kids.map encT), .tuple []] = .ok (.list ((pathsL 4 t.kids []).map encP)) from F_pth 4 t.kids [] G.ok (Nat.le_refl 4) (by decide), R.ok_bind, a_addL, chk_of (decide_eq_true (by rw [List.length_map, big_eq]; simp; omega))]
  rfl
theorem gap_ok {t : Tr} (G : Grp t) : F_gap_of [encT t] = .ok (.int (numT t - (t.kids.map (tot 3)).sum)) := by
  obtain ⟨h5, hk⟩ := G.ok
  rw [e_gap_of]; unfold P_gap_of
  rw [check_group_ok G, R.ok_bind, e_gap_in]; unfold P_gap_in
  rw [hd_T, kd_T]
  simp only [R.ok_bind, List.length_cons, List.length_nil]
  rw [show (0 + 1 == 1) = true from rfl, chk_t, G.cd.figs]
  simp only [R.ok_bind, List.length_cons, List.length_nil]
  rw [show (0 + 1 == 1) = true from rfl, chk_t, number_by_eq, R.ok_bind, a_itT, R.ok_bind]
  rw [lcP_all encT PyData.int (tot 3) t.kids (by omega) fun k hk2 => by
    rw [F_tot 3 k (hk k hk2).1 (hk k hk2).2 (by decide)]; rfl]
  rw [R.ok_bind, R.ok_bind, R.ok_bind, sum_ok, R.ok_bind, a_subI]; rfl
/-! ### a part at a path -/
def partAt : Tr → List Int → Option Tr
  | t, [] => some t
  | t, i :: p => match t.kids[i.toNat]? with
    | some k => if 0 ≤ i then partAt k p else none
    | none => none
theorem part_at_ok : ∀ (p : List Int) (t r : Tr), partAt t p = some r → F_part_at [encT t, encP p] = .ok (encT r) := fun p t r h => by
  rw [e_part_at]; unfold P_part_at encP
  rw [a_itT, R.ok_bind]
  have : ∀ (p : List Int) (t r : Tr), partAt t p = some r → forK P_part_at_l1 (p.map PyData.int) (encT t) (fun s_20 => R.ok s_20) = .ok (encT r) := fun p => by
    induction p with
    | nil => intro t r h; cases h; rfl
    | cons i p ih =>
      intro t r h
      unfold partAt at h
      split at h
      · rename_i k e
        split at h
        · rename_i hi
          obtain ⟨j, rfl⟩ : ∃ j : Nat, i = (j : Int) := ⟨i.toNat, by omega⟩
          rw [Int.toNat_natCast] at e
          rw [List.map_cons]
          show P_part_at_l1 (.int (j : Int)) (encT t) _ _ = _
          unfold P_part_at_l1
          rw [kd_T]
          simp only [R.ok_bind]
          rw [ix_T encT e]
          simp only [R.ok_bind]
          exact ih k r h
        · cases h
      · cases h
  exact this p t r h
end K52
namespace K52
open PySem PySem.Spec L2 DL
theorem encP_tupI : encP = tupI := rfl
/-- a path whose form is right -/
structure Pth (p : List Int) : Prop where
  few : p.length ≤ 4
  num : ∀ i ∈ p, 0 ≤ i ∧ i ≤ 5
theorem check_path_eq {t : Tr} (G : Grp t) {p : List Int} (P : Pth p) : F_check_path [encT t, encP p] = if p ∈ allP t then .ok .none else .ex "BadPath" [] := by
  have h4 := P.few
  rw [e_check_path]; unfold P_check_path
  rw [show (encP p).isTuple = true from rfl, iteF (show (!true) = false from rfl)]
  rw [show lenD [encP p] = .ok (.int ((p.map PyData.int).length : Nat)) from rfl, R.ok_bind, a_gtI, R.ok_bind, a_asB, R.ok_bind, iteF (decide_eq_false (by rw [List.length_map]; omega))]
  rw [show itD (encP p) = .ok (p.map PyData.int) from rfl, R.ok_bind]
  rw [lcP_all PyData.int PyData.bool (fun _ => true) p (by omega) fun i hi => by
    have := P.num i hi
    rw [whole_eq, decide_eq_true this.1, decide_eq_true this.2]; rfl]
  rw [R.ok_bind, R.ok_bind, R.ok_bind, all_bools, R.ok_bind, a_truB, R.ok_bind, R.ok_bind]
  have al : (p.map fun _ => true).all id = true := by rw [List.all_map]; exact List.all_eq_true.mpr fun _ _ => rfl
  rw [al, iteF (show (!true) = false from rfl), all_paths_ok G, R.ok_bind, encP_tupI, (in_tupI p (allP t)).2, R.ok_bind, a_asB, R.ok_bind]
  by_cases c : p ∈ allP t
  · rw [decide_eq_true c, iteF (show (!true) = false from rfl), if_pos c]
  · rw [decide_eq_false c, iteT (show (!false) = true from rfl), if_neg c]
/-! ### a cord moved in -/
def putT : Tr → List Int → Tr → Tr
  | _, [], new => new
  | t, i :: p, new => match t.kids[i.toNat]? with
    | some k => .nd t.ini t.l (t.kids.set i.toNat (putT k p new))
    | none => t
end K52
namespace K52
open PySem PySem.Spec L2 DL
theorem with_part_ok : ∀ (p : List Int) (t r new : Tr), partAt t p = some r → (∀ d, okL d t.kids → t.kids.length ≤ 5) → (∃ d, okL d t.kids) → p.length ≤ 5 → ∀ n : Nat, p.length < n → F__with_part_n n [encT t, encP p, encT new] = .ok (encT (putT t p new))
  | [], t, r, new, _, _, _, _, n + 1, _ => by
    rw [e__with_part]; rfl
  | i :: p, t, r, new, h, hl, ⟨d, hd⟩, h5, n + 1, hn => by
    have kl := hl d hd
    unfold partAt at h
    split at h
    · rename_i k e
      split at h
      · rename_i hi
        obtain ⟨j, rfl⟩ : ∃ j : Nat, i = (j : Int) := ⟨i.toNat, by omega⟩
        rw [Int.toNat_natCast] at e
        have hj := (List.getElem?_eq_some_iff.mp e).1
        rw [List.length_cons] at h5 hn
        obtain ⟨d', hd'⟩ : ∃ d', okL d' k.kids := by
          match d, hd with
          | 0, hd =>
            have : t.kids = [] := hd
            rw [this] at hj; simp at hj
          | d + 1, hd => exact ⟨d, (hd.2 k (List.mem_of_getElem? e)).2⟩
        have ih := with_part_ok p k r new h (fun d h => by
          match d, h with
          | 0, h =>
            have : k.kids = [] := h
            rw [this]; simp
          | d + 1, h => exact h.1) ⟨d', hd'⟩ (by omega) n (by omega)
        rw [e__with_part]; unfold P__with_part
        rw [show lenD [encP ((j : Int) :: p)] = .ok (.int ((((j : Int) :: p).map PyData.int).length : Nat)) from rfl, R.ok_bind, a_eqI, R.ok_bind, a_asB, R.ok_bind, iteF (decide_eq_false (by rw [List.length_map, List.length_cons]; omega))]
        rw [show ixD (encP ((j : Int) :: p)) (.int 0) = .ok (.int (j : Int)) from ix_T (i := 0) PyData.int rfl, R.ok_bind, kd_T, R.ok_bind, hd_T, R.ok_bind, optI_i, R.ok_bind, sl_takeT, R.ok_bind, ix_T encT e, R.ok_bind]
        rw [show slD (encP ((j : Int) :: p)) (some 1) none = .ok (encP p) from sl_dropT PyData.int ((j : Int) :: p) 1]
        simp only [R.ok_bind, List.length_cons, List.length_nil]
        rw [show (0 + 1 + 1 + 1 == 3) = true from rfl, chk_t, ih]
        simp only [R.ok_bind, a_mkT, List.length_cons, List.length_nil]
        rw [chk_of (show decide (0 + 1 ≤ big) = true by simp [big_eq]), R.ok_bind, a_addT, chk_of (decide_eq_true (by rw [List.length_map, big_eq, List.length_take]; simp; omega)), R.ok_bind]
        rw [a_addI, R.ok_bind, optI_i, R.ok_bind, show (j : Int) + 1 = ((j + 1 : Nat) : Int) by omega, sl_dropT, R.ok_bind, a_addT, chk_of (decide_eq_true (by rw [List.length_append, List.length_map, List.length_map, big_eq, List.length_take, List.length_drop]; simp; omega))]
        simp only [R.ok_bind, a_mkT, List.length_cons, List.length_nil]
        rw [chk_of (show decide (0 + 1 + 1 ≤ big) = true by simp [big_eq])]
        have es : putT t ((j : Int) :: p) new = .nd t.ini t.l (t.kids.set j (putT k p new)) := by
          rw [putT, Int.toNat_natCast, e]
        rw [es, encT_eq (.nd t.ini t.l (t.kids.set j (putT k p new)))]
        show R.ok (PyData.tuple [_, PyData.tuple _]) = .ok (.tuple [.str (cordS t.ini t.l), .tuple ((t.kids.set j (putT k p new)).map encT)])
        rw [List.set_eq_take_append_cons_drop, if_pos hj, List.map_append, List.map_cons, List.append_assoc]
        rfl
      · cases h
    · cases h
end K52
namespace K52
open PySem PySem.Spec L2 DL
/-! ### rows: a tree from its head on -/
abbrev Row := Int × List Int
def encRow (r : Row) : PD := .tuple [.int r.1, .list (r.2.map PyData.int)]
mutual
def flatT : Int → Tr → List Row
  | d, .nd i l k => (d, i ++ [l]) :: flatL (d + 1) k
def flatL : Int → List Tr → List Row
  | _, [] => []
  | d, t :: ts => flatT d t ++ flatL d ts
end
theorem flatL_app (d : Int) : ∀ a b : List Tr, flatL d (a ++ b) = flatL d a ++ flatL d b
  | [], b => by rw [flatL]; rfl
  | t :: a, b => by rw [List.cons_append, flatL, flatL, flatL_app d a b, List.append_assoc]
mutual
theorem flatT_ge : ∀ (d : Int) (t : Tr), ∀ r ∈ flatT d t, d ≤ r.1
  | d, .nd i l k, r, h => by
    rw [flatT] at h
    rcases List.mem_cons.mp h with e | h
    · rw [e]; exact Int.le_refl d
    · have := flatL_ge (d + 1) k r h; omega
theorem flatL_ge : ∀ (d : Int) (ts : List Tr), ∀ r ∈ flatL d ts, d ≤ r.1
  | d, [], r, h => by rw [flatL] at h; cases h
  | d, t :: ts, r, h => by
    rw [flatL] at h
    rcases List.mem_append.mp h with h | h
    · exact flatT_ge d t r h
    · exact flatL_ge d ts r h
end
/-! ### the row above: the last one before with a smaller number -/
def above (rows : List Row) (k : Nat) : Option Nat := ((List.range k).filter fun j => decide ((rows.getD j (0, [])).1 < (rows.getD k (0, [])).1)).getLast?
end K52
namespace K52
open PySem PySem.Spec L2 DL
def dep (rows : List Row) (k : Nat) : Int := (rows.getD k (0, [])).1
/-- j is the row above k -/
structure Ab (rows : List Row) (k j : Nat) : Prop where
  lt : j < k
  less : dep rows j < dep rows k
  most : ∀ m : Nat, j < m → m < k → dep rows k ≤ dep rows m
def encRows (rows : List Row) : PD := .list (rows.map encRow)
theorem row_ix {rows : List Row} {k : Nat} (h : k < rows.length) : (ixD (encRows rows) (.int (k : Int))).bind (fun a => ixD a (.int 0)) = .ok (.int (dep rows k)) := by
  unfold encRows
  rw [ix_L encRow (List.getElem?_eq_getElem h), R.ok_bind]
  unfold dep
  rw [List.getD_eq_getElem?_getD, List.getElem?_eq_getElem h]; rfl
theorem parent_eq {rows : List Row} {k j : Nat} (hk : k < rows.length) (hl : rows.length ≤ 1000) (A : Ab rows k j) : F__law_parent [encRows rows, .int (k : Int)] = .ok (.int (j : Int)) := by
  rw [e__law_parent]; unfold P__law_parent
  rw [rg1_rng (n := k) (by omega), R.ok_bind]
  rw [lcP_fil PyData.int (fun m => decide (dep rows m.toNat < dep rows k)) (rng 0 k) (by rw [rng_len]; omega) fun m hm => by
    have hm := mem_rng.mp hm
    obtain ⟨i, rfl⟩ : ∃ i : Nat, m = (i : Int) := ⟨m.toNat, by omega⟩
    rw [row_ix (by omega), R.ok_bind, row_ix hk, R.ok_bind, a_ltI, R.ok_bind, a_asB, Int.toNat_natCast]
    cases decide (dep rows i < dep rows k) <;> rfl]
  rw [R.ok_bind, R.ok_bind, R.ok_bind]
  refine max_is ?_ fun y hy => ?_
  · rw [List.mem_filter, mem_rng, decide_eq_true_eq, Int.toNat_natCast]
    exact ⟨by have := A.lt; omega, A.less⟩
  · rw [List.mem_filter, mem_rng, decide_eq_true_eq] at hy
    obtain ⟨hy, h2⟩ := hy
    obtain ⟨i, rfl⟩ : ∃ i : Nat, y = (i : Int) := ⟨y.toNat, by omega⟩
    rw [Int.toNat_natCast] at h2
    by_cases c : j < i
    · have := A.most i c (by omega)
      omega
    · omega
end K52
namespace K52
open PySem PySem.Spec L2 DL
mutual
def sizeT : Tr → Nat
  | .nd _ _ k => 1 + sizeL k
def sizeL : List Tr → Nat
  | [] => 0
  | t :: ts => sizeT t + sizeL ts
end
mutual
theorem flatT_len : ∀ (d : Int) (t : Tr), (flatT d t).length = sizeT t
  | d, .nd i l k => by rw [flatT, sizeT, List.length_cons, flatL_len (d + 1) k, Nat.add_comm]
theorem flatL_len : ∀ (d : Int) (ts : List Tr), (flatL d ts).length = sizeL ts
  | d, [] => by rw [flatL, sizeL]; rfl
  | d, t :: ts => by rw [flatL, sizeL, List.length_append, flatT_len d t, flatL_len d ts]
end
theorem sizeT_pos (t : Tr) : 0 < sizeT t := by
  cases t with
  | nd i l k => rw [sizeT]; omega
theorem flatT_eq (d : Int) (t : Tr) : flatT d t = (d, t.ini ++ [t.l]) :: flatL (d + 1) t.kids := by
  cases t with
  | nd i l k => rw [flatT]; rfl
/-- where the trees' heads stand -/
def pos : Nat → List Tr → List (Nat × Tr)
  | _, [] => []
  | o, t :: ts => (o, t) :: pos (o + sizeT t) ts
theorem pos_ge : ∀ {o : Nat} {ts : List Tr} {x : Nat × Tr}, x ∈ pos o ts → o ≤ x.1 ∧ x.1 + sizeT x.2 ≤ o + sizeL ts ∧ x.2 ∈ ts
  | o, [], x, h => by cases h
  | o, t :: ts, x, h => by
    rw [sizeL]
    rcases List.mem_cons.mp (show x ∈ (o, t) :: pos (o + sizeT t) ts from h) with e | h
    · rw [e]; exact ⟨Nat.le_refl _, by simp only; omega, List.mem_cons_self⟩
    · obtain ⟨a, b, c⟩ := pos_ge h
      exact ⟨by omega, by omega, List.mem_cons_of_mem _ c⟩
end K52
namespace K52
open PySem PySem.Spec L2 DL
/-- seg stands in rows from o on -/
def At (rows : List Row) (o : Nat) (seg : List Row) : Prop := ∀ i : Nat, i < seg.length → rows[o + i]? = seg[i]?
theorem At.left {rows : List Row} {o : Nat} {a b : List Row} (h : At rows o (a ++ b)) : At rows o a := fun i hi => by
  rw [h i (by rw [List.length_append]; omega), List.getElem?_append_left hi]
theorem At.right {rows : List Row} {o : Nat} {a b : List Row} (h : At rows o (a ++ b)) : At rows (o + a.length) b := fun i hi => by
  have := h (a.length + i) (by rw [List.length_append]; omega)
  rw [List.getElem?_append_right (by omega)] at this
  rw [Nat.add_assoc, this]; congr 1; omega
theorem At.dep {rows : List Row} {o : Nat} {seg : List Row} (h : At rows o seg) {i : Nat} {r : Row} (hr : seg[i]? = some r) : K52.dep rows (o + i) = r.1 := by
  have hi := (List.getElem?_eq_some_iff.mp hr).1
  unfold K52.dep
  rw [List.getD_eq_getElem?_getD, h i hi, hr]; rfl
theorem At.ge {rows : List Row} {o : Nat} {d : Int} {ts : List Tr} (h : At rows o (flatL d ts)) {k : Nat} (h1 : o ≤ k) (h2 : k < o + sizeL ts) : d ≤ K52.dep rows k := by
  have hl : k - o < (flatL d ts).length := by rw [flatL_len]; omega
  have e := h.dep (List.getElem?_eq_getElem hl)
  rw [show o + (k - o) = k by omega] at e
  rw [e]
  exact flatL_ge d ts _ (List.getElem_mem hl)
theorem pos_dep {rows : List Row} {d : Int} : ∀ {ts : List Tr} {o : Nat}, At rows o (flatL d ts) → ∀ x ∈ pos o ts, dep rows x.1 = d ∧ At rows x.1 (flatT d x.2)
  | [], o, _, x, hx => by cases hx
  | t :: ts, o, h, x, hx => by
    rw [flatL] at h
    rcases List.mem_cons.mp (show x ∈ (o, t) :: pos (o + sizeT t) ts from hx) with e | hx
    · rw [e]
      refine ⟨?_, h.left⟩
      have h2 := h.left
      rw [flatT_eq] at h2
      exact h2.dep (i := 0) rfl
    · have h2 := h.right
      rw [flatT_len] at h2
      exact pos_dep h2 x hx
mutual
theorem aboveT : ∀ (t : Tr) (d : Int) (o : Nat) (rows : List Row), At rows o (flatT d t) → ∀ k : Nat, o < k → k < o + sizeT t → ∃ j, o ≤ j ∧ Ab rows k j
  | .nd i l ks, d, o, rows, h, k, h1, h2 => by
    rw [flatT] at h
    rw [sizeT] at h2
    have ho : dep rows o = d := h.dep (i := 0) rfl
    have hk : At rows (o + 1) (flatL (d + 1) ks) := (show At rows o ([(d, i ++ [l])] ++ flatL (d + 1) ks) from h).right
    rcases aboveL ks (d + 1) (o + 1) rows hk k (by omega) (by omega) with ⟨x, hx, e⟩ | ⟨j, j1, j2⟩
    · subst e
      have pd := (pos_dep hk x hx).1
      exact ⟨o, Nat.le_refl _, ⟨h1, by omega, fun m m1 m2 => by
        have := hk.ge (k := m) (by omega) (by omega)
        omega⟩⟩
    · exact ⟨j, by omega, j2⟩
theorem aboveL : ∀ (ts : List Tr) (d : Int) (o : Nat) (rows : List Row), At rows o (flatL d ts) → ∀ k : Nat, o ≤ k → k < o + sizeL ts → (∃ x ∈ pos o ts, x.1 = k) ∨ (∃ j, o ≤ j ∧ Ab rows k j)
  | [], d, o, rows, h, k, h1, h2 => by rw [sizeL] at h2; omega
  | t :: ts, d, o, rows, h, k, h1, h2 => by
    rw [flatL] at h
    rw [sizeL] at h2
    by_cases c : k < o + sizeT t
    · by_cases c2 : k = o
      · exact .inl ⟨(o, t), List.mem_cons_self, c2.symm⟩
      · exact .inr (aboveT t d o rows h.left k (by omega) c)
    · have hr := h.right
      rw [flatT_len] at hr
      rcases aboveL ts d (o + sizeT t) rows hr k (by omega) (by omega) with ⟨x, hx, e⟩ | ⟨j, j1, j2⟩
      · exact .inl ⟨x, List.mem_cons_of_mem _ hx, e⟩
      · exact .inr ⟨j, by omega, j2⟩
end
end K52
namespace K52
open PySem PySem.Spec L2 DL
theorem compP_app {q : PD → R (Option PD)} : ∀ (a b : List PD) {x y : List PD}, compP q a = .ok x → compP q b = .ok y → compP q (a ++ b) = .ok (x ++ y)
  | [], b, x, y, h1, h2 => by
    cases h1
    exact h2
  | d :: a, b, x, y, h1, h2 => by
    rw [cp_cons] at h1
    rw [List.cons_append, cp_cons]
    cases e : q d with
    | ok o =>
      rw [e] at h1
      cases o with
      | none =>
        have h1' : compP q a = .ok x := h1
        show compP q (a ++ b) = _
        exact compP_app a b h1' h2
      | some v =>
        have h1' : (compP q a).bind (fun r => R.ok (v :: r)) = .ok x := h1
        show (compP q (a ++ b)).bind (fun r => R.ok (v :: r)) = _
        cases e2 : compP q a with
        | ok z =>
          rw [e2] at h1'
          cases h1'
          rw [compP_app a b e2 h2]; rfl
        | ex c pl => rw [e2] at h1'; cases h1'
        | bad => rw [e2] at h1'; cases h1'
    | ex c pl => rw [e] at h1; cases h1
    | bad => rw [e] at h1; cases h1
theorem compP_none {q : PD → R (Option PD)} : ∀ (a : List PD), (∀ d ∈ a, q d = .ok none) → compP q a = .ok []
  | [], _ => rfl
  | d :: a, h => by
    rw [cp_cons, h d List.mem_cons_self]
    exact compP_none a fun x hx => h x (List.mem_cons_of_mem _ hx)
theorem Ab.uniq {rows : List Row} {k j j' : Nat} (a : Ab rows k j) (b : Ab rows k j') : j = j' := by
  rcases Nat.lt_trichotomy j j' with h | h | h
  · have := a.most j' h b.lt
    have := b.less
    omega
  · exact h
  · have := b.most j h a.lt
    have := a.less
    omega
/-- a row behind a tree has another row above it than the tree's head -/
theorem behind {rows : List Row} {o e k : Nat} {d : Int} (h0 : dep rows o = d) (he : o < e) (hd : dep rows e ≤ d) (hk : e ≤ k) : ¬ Ab rows k o := fun A => by
  have h1 := A.less
  by_cases c : k = e
  · subst c; omega
  · have := A.most e he (by omega)
    omega
end K52
namespace K52
open PySem PySem.Spec L2 DL
theorem rng_add (lo : Int) (a b : Nat) : rng lo (a + b) = rng lo a ++ rng (lo + (a : Int)) b := by
  refine List.ext_getElem? fun i => ?_
  by_cases h : i < a
  · rw [List.getElem?_append_left (by rw [rng_len]; exact h), rng_get (by omega), rng_get h]
  · by_cases h2 : i < a + b
    · rw [List.getElem?_append_right (by rw [rng_len]; omega), rng_len, rng_get h2, rng_get (by omega)]
      congr 1; omega
    · rw [List.getElem?_eq_none (by rw [rng_len]; omega), List.getElem?_eq_none (by rw [List.length_append, rng_len, rng_len]; omega)]
theorem kids_comp {q : PD → R (Option PD)} : ∀ (ts : List Tr) (o : Nat), (∀ x ∈ pos o ts, q (.int (x.1 : Int)) = .ok (some (encT x.2))) → (∀ k : Nat, o ≤ k → k < o + sizeL ts → (∀ x ∈ pos o ts, x.1 ≠ k) → q (.int (k : Int)) = .ok none) →
    compP q ((rng o (sizeL ts)).map PyData.int) = .ok (ts.map encT)
  | [], o, _, _ => by rw [sizeL]; rfl
  | t :: ts, o, h1, h2 => by
    have hp := sizeT_pos t
    have hd := h1 (o, t) List.mem_cons_self
    rw [sizeL, show sizeT t + sizeL ts = (1 + (sizeT t - 1)) + sizeL ts by omega, rng_add, rng_add, List.map_append, List.map_append]
    have e1 : compP q ((rng (o : Int) 1).map PyData.int) = .ok [encT t] := by
      show compP q [.int ((o : Int) + ((0 : Nat) : Int))] = _
      rw [show (o : Int) + ((0 : Nat) : Int) = (o : Int) by omega, cp_cons, hd]; rfl
    have e2 : compP q ((rng ((o : Int) + ((1 : Nat) : Int)) (sizeT t - 1)).map PyData.int) = .ok [] := compP_none _ fun d hd2 => by
      obtain ⟨k, hk, rfl⟩ := List.mem_map.mp hd2
      have hk := mem_rng.mp hk
      obtain ⟨m, rfl⟩ : ∃ m : Nat, k = (m : Int) := ⟨k.toNat, by omega⟩
      refine h2 m (by omega) (by rw [sizeL]; omega) fun x hx => ?_
      rcases List.mem_cons.mp (show x ∈ (o, t) :: pos (o + sizeT t) ts from hx) with e | hx
      · rw [e]; simp only; omega
      · have := (pos_ge hx).1; omega
    have e3 : compP q ((rng (((o + sizeT t : Nat)) : Int) (sizeL ts)).map PyData.int) = .ok (ts.map encT) := kids_comp ts (o + sizeT t) (fun x hx => h1 x (List.mem_cons_of_mem _ hx)) fun k k1 k2 hx => h2 k (by omega) (by rw [sizeL]; omega) fun x hx2 => by
      rcases List.mem_cons.mp (show x ∈ (o, t) :: pos (o + sizeT t) ts from hx2) with e | hx2
      · rw [e]; simp only; omega
      · exact hx x hx2
    have e4 : (o : Int) + ((1 + (sizeT t - 1) : Nat) : Int) = ((o + sizeT t : Nat) : Int) := by omega
    rw [e4]
    exact compP_app _ _ (compP_app _ _ e1 e2) e3
end K52
namespace K52
open PySem PySem.Spec L2 DL
theorem pos_next : ∀ {ts : List Tr} {o : Nat} {x : Nat × Tr}, x ∈ pos o ts → x.1 + sizeT x.2 = o + sizeL ts ∨ ∃ y ∈ pos o ts, y.1 = x.1 + sizeT x.2
  | [], o, x, hx => by cases hx
  | t :: ts, o, x, hx => by
    rw [sizeL]
    rcases List.mem_cons.mp (show x ∈ (o, t) :: pos (o + sizeT t) ts from hx) with e | hx
    · rw [e]
      cases ts with
      | nil => left; rw [sizeL]; rfl
      | cons u us => exact .inr ⟨(o + sizeT t, u), List.mem_cons_of_mem _ List.mem_cons_self, rfl⟩
    · rcases pos_next hx with h | ⟨y, hy, e⟩
      · left; omega
      · exact .inr ⟨y, List.mem_cons_of_mem _ hy, e⟩
/-- every row but the first has a row above -/
def Full (rows : List Row) : Prop := rows.length ≤ 1000 ∧ ∀ k : Nat, 0 < k → k < rows.length → ∃ j, Ab rows k j
theorem sizeT_eq (t : Tr) : sizeT t = 1 + sizeL t.kids := by
  cases t with
  | nd i l k => rw [sizeT]; rfl
theorem row_of {rows : List Row} {k : Nat} {r : Row} (h : rows[k]? = some r) : ixD (encRows rows) (.int (k : Int)) = .ok (encRow r) := ix_L encRow h
theorem tree_step {n : Nat} {t : Tr} {d : Int} {o : Nat} {rows : List Row} (hA : At rows o (flatT d t)) (hF : Full rows) (he : o + sizeT t = rows.length ∨ (o + sizeT t < rows.length ∧ dep rows (o + sizeT t) ≤ d))
    (H : ∀ x ∈ pos (o + 1) t.kids, Cd x.2.ini x.2.l ∧ F__law_tree_n n [encRows rows, .int (x.1 : Int)] = .ok (.tuple (x.2.kids.map encT))) : F__law_tree_n (n + 1) [encRows rows, .int (o : Int)] = .ok (.tuple (t.kids.map encT)) := by
  have hl := hF.1
  have st := sizeT_eq t
  rw [flatT_eq] at hA
  have ho : dep rows o = d := hA.dep (i := 0) rfl
  have hk : At rows (o + 1) (flatL (d + 1) t.kids) := (show At rows o ([(d, t.ini ++ [t.l])] ++ flatL (d + 1) t.kids) from hA).right
  have key : ∀ k j : Nat, k < rows.length → Ab rows k j → ((F__law_parent [encRows rows, .int (k : Int)]).bind fun a_7 => eqD a_7 (.int (o : Int))).bind asB = .ok (decide (j = o)) := fun k j h A => by
    rw [parent_eq h hl A, R.ok_bind, a_eqI, R.ok_bind, a_asB]
    congr 1
    by_cases c : j = o
    · rw [decide_eq_true c, decide_eq_true (by omega)]
    · rw [decide_eq_false c, decide_eq_false (by omega)]
  rw [e__law_tree]; unfold P__law_tree
  rw [a_addI, R.ok_bind, show lenD [encRows rows] = .ok (.int ((rows.map encRow).length : Nat)) from rfl, R.ok_bind, List.length_map, rg2_ok (by omega) (by omega) (by omega), R.ok_bind]
  have en : ((rows.length : Int) - ((o : Int) + 1)).toNat = sizeL t.kids + (rows.length - (o + sizeT t)) := by omega
  rw [en, show (o : Int) + 1 = ((o + 1 : Nat) : Int) by omega, rng_add, List.map_append]
  unfold lcP
  rw [chk_of (decide_eq_true (by rw [List.length_append, List.length_map, List.length_map, rng_len, rng_len, big_eq]; omega))]
  rw [compP_app (y := []) _ _ (kids_comp t.kids (o + 1) (fun x hx => ?_) fun k k1 k2 hx => ?_) (compP_none _ fun dd hd => ?_), List.append_nil]
  · rfl
  · obtain ⟨p1, p2, p3⟩ := pos_ge hx
    obtain ⟨q1, q2⟩ := pos_dep hk x hx
    obtain ⟨C, hS⟩ := H x hx
    have xp := sizeT_pos x.2
    have A : Ab rows x.1 o := ⟨by omega, by omega, fun m m1 m2 => by
      have := hk.ge (k := m) (by omega) (by omega)
      omega⟩
    rw [flatT_eq] at q2
    have r0 : rows[x.1]? = some (d + 1, x.2.ini ++ [x.2.l]) := by
      have := q2 0 (by simp)
      rwa [Nat.add_zero] at this
    rw [key x.1 o (by omega) A, decide_eq_true rfl, R.t_whn, row_of r0, R.ok_bind]
    rw [show ixD (encRow (d + 1, x.2.ini ++ [x.2.l])) (.int 1) = .ok (.list ((x.2.ini ++ [x.2.l]).map PyData.int)) from rfl]
    simp only [R.ok_bind, List.length_cons, List.length_nil]
    rw [show (0 + 1 == 1) = true from rfl, chk_t, law_cord_eq C.toFg, hS]
    simp only [R.ok_bind, a_mkT, List.length_cons, List.length_nil]
    rw [chk_of (show decide (0 + 1 + 1 ≤ big) = true by simp [big_eq]), encT_eq]; rfl
  · rcases aboveL t.kids (d + 1) (o + 1) rows hk k k1 k2 with ⟨x, hx1, e⟩ | ⟨j, j1, j2⟩
    · exact absurd e (hx x hx1)
    · rw [key k j (by omega) j2, decide_eq_false (by omega), R.f_whn]
  · obtain ⟨k, hk2, rfl⟩ := List.mem_map.mp hd
    have hk2 := mem_rng.mp hk2
    obtain ⟨m, rfl⟩ : ∃ m : Nat, k = (m : Int) := ⟨k.toNat, by omega⟩
    obtain ⟨j, A⟩ := hF.2 m (by omega) (by omega)
    have hb : j ≠ o := fun e => by
      rw [e] at A
      rcases he with he | ⟨he, he2⟩
      · omega
      · exact behind ho (by omega) he2 (show o + sizeT t ≤ m by omega) A
    rw [key m j (by omega) A, decide_eq_false hb, R.f_whn]
end K52
namespace K52
open PySem PySem.Spec L2 DL
/-- _law_tree gives the kids of the part that stands at o -/
theorem tree_ok : ∀ (D : Nat) (t : Tr), okL D t.kids → ∀ (d : Int) (o : Nat) (rows : List Row), At rows o (flatT d t) → Full rows → (o + sizeT t = rows.length ∨ (o + sizeT t < rows.length ∧ dep rows (o + sizeT t) ≤ d)) → ∀ n : Nat, D < n → F__law_tree_n n [encRows rows, .int (o : Int)] = .ok (.tuple (t.kids.map encT))
  | D, t, hk, d, o, rows, hA, hF, he, n + 1, hn => by
    have hk' : At rows (o + 1) (flatL (d + 1) t.kids) := by
      rw [flatT_eq] at hA
      exact (show At rows o ([(d, t.ini ++ [t.l])] ++ flatL (d + 1) t.kids) from hA).right
    have st := sizeT_eq t
    refine tree_step hA hF he fun x hx => ?_
    obtain ⟨p1, p2, p3⟩ := pos_ge hx
    match D, hk, hn with
    | 0, hk, _ =>
      have e : t.kids = [] := hk
      rw [e] at p3
      cases p3
    | D + 1, hk, hn =>
      obtain ⟨C, ok⟩ := hk.2 x.2 p3
      refine ⟨C, tree_ok D x.2 ok (d + 1) x.1 rows (pos_dep hk' x hx).2 hF ?_ n (by omega)⟩
      rcases pos_next hx with h | ⟨y, hy, e⟩
      · rcases he with he | ⟨he, he2⟩
        · exact .inl (by omega)
        · refine .inr ⟨by omega, ?_⟩
          rw [show x.1 + sizeT x.2 = o + sizeT t by omega]; omega
      · obtain ⟨y1, y2, y3⟩ := pos_ge hy
        have yp := sizeT_pos y.2
        refine .inr ⟨by rcases he with he | ⟨he, _⟩ <;> omega, ?_⟩
        rw [← e, (pos_dep hk' y hy).1]; exact Int.le_refl _
/-- rows of a whole tree -/
theorem full_flat (t : Tr) (h : sizeT t ≤ 1000) : Full (flatT 0 t) := by
  refine ⟨by rw [flatT_len]; exact h, fun k h0 h1 => ?_⟩
  rw [flatT_len] at h1
  obtain ⟨j, _, A⟩ := aboveT t 0 0 (flatT 0 t) (fun i hi => by rw [Nat.zero_add]) k h0 (by omega)
  exact ⟨j, A⟩
/-- _law_made gives the group -/
theorem made_ok {t : Tr} (F : Fg t.ini t.l) (D : Nat) (hD : D ≤ 10) (hk : okL D t.kids) (h : sizeT t ≤ 1000) : F__law_made [encRows (flatT 0 t)] = .ok (encT t) := by
  have hA : At (flatT 0 t) 0 (flatT 0 t) := fun i hi => by rw [Nat.zero_add]
  have tr : F__law_tree [encRows (flatT 0 t), .int 0] = .ok (.tuple (t.kids.map encT)) := tree_ok D t hk 0 0 (flatT 0 t) hA (full_flat t h) (.inl (by rw [flatT_len]; omega)) 12 (by omega)
  have r0 : ixD (encRows (flatT 0 t)) (.int 0) = .ok (encRow (0, t.ini ++ [t.l])) := by
    refine ix_L (i := 0) encRow ?_
    rw [flatT_eq]; rfl
  rw [e__law_made]; unfold P__law_made
  rw [r0, R.ok_bind, show ixD (encRow (0, t.ini ++ [t.l])) (.int 1) = .ok (.list ((t.ini ++ [t.l]).map PyData.int)) from rfl]
  simp only [R.ok_bind, List.length_cons, List.length_nil]
  rw [show (0 + 1 == 1) = true from rfl, chk_t, law_cord_eq F, tr]
  simp only [R.ok_bind, a_mkT, List.length_cons, List.length_nil]
  rw [chk_of (show decide (0 + 1 + 1 ≤ big) = true by simp [big_eq]), encT_eq]
end K52
namespace K52
open PySem PySem.Spec L2 DL
/-! ### a tree with one more part, at the right -/
def addL : Nat → List Tr → Tr → List Tr
  | 0, ts, new => ts ++ [new]
  | k + 1, ts, new => match ts.getLast? with
    | none => ts
    | some t => ts.dropLast ++ [.nd t.ini t.l (addL k t.kids new)]
/-- the right spine goes so deep -/
def spine : Nat → List Tr → Prop
  | 0, _ => True
  | k + 1, ts => ∃ t, ts.getLast? = some t ∧ spine k t.kids
theorem last_split {ts : List Tr} {t : Tr} (h : ts.getLast? = some t) : ts = ts.dropLast ++ [t] := by
  cases ts with
  | nil => cases h
  | cons a as =>
    rw [List.getLast?_eq_some_getLast (by simp)] at h
    have := Option.some.inj h
    rw [← this]
    exact (List.dropLast_concat_getLast (by simp)).symm
theorem flat_add : ∀ (k : Nat) (ts : List Tr) (d : Int) (ini : List Int) (l : Int), spine k ts → flatL d (addL k ts (.nd ini l [])) = flatL d ts ++ [(d + (k : Int), ini ++ [l])]
  | 0, ts, d, ini, l, _ => by
    rw [addL, flatL_app, flatL, flatL, flatT, flatL, List.append_nil]
    rw [show d + ((0 : Nat) : Int) = d by omega]
  | k + 1, ts, d, ini, l, ⟨t, ht, hs⟩ => by
    have e := last_split ht
    have ih := flat_add k t.kids (d + 1) ini l hs
    rw [addL, ht]
    show flatL d (ts.dropLast ++ [.nd t.ini t.l (addL k t.kids (.nd ini l []))]) = _
    rw [flatL_app, flatL, flatL, flatT, List.append_nil, ih]
    have e2 : flatL d ts = flatL d ts.dropLast ++ ((d, t.ini ++ [t.l]) :: flatL (d + 1) t.kids) := by
      have : flatL d ts = flatL d (ts.dropLast ++ [t]) := by rw [← e]
      rw [this, flatL_app, flatL, flatL, flatT_eq, List.append_nil]
    rw [e2, show d + 1 + (k : Int) = d + ((k + 1 : Nat) : Int) by omega]
    simp
end K52
namespace K52
open PySem PySem.Spec L2 DL
/-- how many stand beside the place on the right spine -/
def bro : Nat → List Tr → Nat
  | 0, ts => ts.length
  | k + 1, ts => match ts.getLast? with
    | none => 0
    | some t => bro k t.kids
theorem okL_leaf : ∀ D : Nat, okL D []
  | 0 => rfl
  | D + 1 => ⟨by simp, by simp⟩
theorem ok_add : ∀ (k D : Nat) (ts : List Tr) (ini : List Int) (l : Int), okL D ts → k < D → spine k ts → bro k ts < 5 → Cd ini l → okL D (addL k ts (.nd ini l []))
  | 0, D + 1, ts, ini, l, h, _, _, hb, C => by
    rw [addL]
    refine ⟨by rw [List.length_append, List.length_singleton]; exact hb, fun t ht => ?_⟩
    rcases List.mem_append.mp ht with ht | ht
    · exact h.2 t ht
    · rw [List.mem_singleton.mp ht]; exact ⟨C, okL_leaf D⟩
  | k + 1, D + 1, ts, ini, l, h, hk, ⟨t, ht, hs⟩, hb, C => by
    have e := last_split ht
    have hb2 : bro k t.kids < 5 := by
      rw [bro, ht] at hb
      exact hb
    have mt : t ∈ ts := by rw [e]; exact List.mem_append.mpr (.inr List.mem_cons_self)
    obtain ⟨Ct, ok⟩ := h.2 t mt
    have ih := ok_add k D t.kids ini l ok (by omega) hs hb2 C
    rw [addL, ht]
    show okL (D + 1) (ts.dropLast ++ [.nd t.ini t.l (addL k t.kids (.nd ini l []))])
    have hl : ts.length = ts.dropLast.length + 1 := by
      have := congrArg List.length e
      rwa [List.length_append, List.length_singleton] at this
    refine ⟨by rw [List.length_append, List.length_singleton, ← hl]; exact h.1, fun x hx => ?_⟩
    rcases List.mem_append.mp hx with hx | hx
    · exact h.2 x (by rw [e]; exact List.mem_append.mpr (.inl hx))
    · rw [List.mem_singleton.mp hx]; exact ⟨Ct, ih⟩
end K52
namespace K52
open PySem PySem.Spec L2 DL
theorem sizeL_app : ∀ a b : List Tr, sizeL (a ++ b) = sizeL a + sizeL b
  | [], b => by rw [sizeL]; simp
  | t :: a, b => by rw [List.cons_append, sizeL, sizeL, sizeL_app a b, Nat.add_assoc]
theorem size_add (k : Nat) (ts : List Tr) (ini : List Int) (l : Int) (h : spine k ts) : sizeL (addL k ts (.nd ini l [])) = sizeL ts + 1 := by
  have := congrArg List.length (flat_add k ts 0 ini l h)
  rw [flatL_len, List.length_append, flatL_len, List.length_singleton] at this
  exact this
/-- the depth of the last row: how deep the right spine goes -/
def deepL : Nat → List Tr → Nat
  | 0, _ => 0
  | n + 1, ts => match ts.getLast? with
    | none => 0
    | some t => 1 + deepL n t.kids
theorem spine_deep : ∀ (n k : Nat) (ts : List Tr), k ≤ deepL n ts → spine k ts
  | _, 0, _, _ => trivial
  | 0, k + 1, ts, h => by unfold deepL at h; omega
  | n + 1, k + 1, ts, h => by
    unfold deepL at h
    cases e : ts.getLast? with
    | none => rw [e] at h; simp at h
    | some t =>
      rw [e] at h
      exact ⟨t, e, spine_deep n k t.kids (by simp only at h; omega)⟩
end K52
namespace K52
open PySem PySem.Spec L2 DL
/-- the last row of trees that are at most n deep has the right spine's depth -/
theorem last_dep : ∀ (n : Nat) (ts : List Tr) (d : Int) (r : Row), okL n ts → (flatL d ts).getLast? = some r → r.1 = d + (deepL n ts : Int) - 1
  | 0, ts, d, r, h, e => by
    have : ts = [] := h
    rw [this, flatL] at e
    cases e
  | n + 1, ts, d, r, h, e => by
    cases e1 : ts.getLast? with
    | none =>
      have : ts = [] := List.getLast?_eq_none_iff.mp e1
      rw [this, flatL] at e
      cases e
    | some t =>
      have hs := last_split e1
      have e2 : flatL d ts = flatL d ts.dropLast ++ ((d, t.ini ++ [t.l]) :: flatL (d + 1) t.kids) := by
        have : flatL d ts = flatL d (ts.dropLast ++ [t]) := by rw [← hs]
        rw [this, flatL_app, flatL, flatL, flatT_eq, List.append_nil]
      have mt : t ∈ ts := by rw [hs]; exact List.mem_append.mpr (.inr List.mem_cons_self)
      have ok := (h.2 t mt).2
      unfold deepL
      rw [e1]
      simp only
      rw [e2, List.getLast?_append, List.getLast?_cons] at e
      cases e3 : (flatL (d + 1) t.kids).getLast? with
      | none =>
        rw [e3] at e
        have hk : flatL (d + 1) t.kids = [] := List.getLast?_eq_none_iff.mp e3
        have : t.kids = [] := by
          cases hk2 : t.kids with
          | nil => rfl
          | cons u us =>
            rw [hk2, flatL, flatT_eq] at hk
            simp at hk
        simp at e
        rw [← e, this]
        have z : ∀ n, deepL n [] = 0 := fun n => by cases n <;> rfl
        rw [z]; simp
      | some q =>
        rw [e3] at e
        have ih := last_dep n t.kids (d + 1) q ok e3
        simp at e
        rw [← e, ih]; push_cast; omega
end K52
namespace K52
open PySem PySem.Spec L2 DL
/-! ### spots: the k-th part of a tree, its path and itself -/
inductive Sp : Nat → Tr → List Int → Tr → Prop
  | here (t : Tr) : Sp 0 t [] t
  | down (t : Tr) (a : List Tr) (u : Tr) (b : List Tr) (q : List Int) (r : Tr) (k : Nat) : t.kids = a ++ u :: b → Sp k u q r → Sp (1 + sizeL a + k) t ((a.length : Int) :: q) r
mutual
theorem spot_ex : ∀ (t : Tr) (k : Nat), k < sizeT t → ∃ q r, Sp k t q r
  | .nd i l ks, k, h => by
    cases k with
    | zero => exact ⟨[], _, .here _⟩
    | succ k =>
      rw [sizeT] at h
      obtain ⟨a, u, b, m, e, ek, q, r, s⟩ := spot_exL ks k (by omega)
      refine ⟨(a.length : Int) :: q, r, ?_⟩
      rw [show k + 1 = 1 + sizeL a + m by omega]
      exact .down _ a u b q r m e s
theorem spot_exL : ∀ (ts : List Tr) (k : Nat), k < sizeL ts → ∃ a u b m, ts = a ++ u :: b ∧ k = sizeL a + m ∧ ∃ q r, Sp m u q r
  | [], k, h => by rw [sizeL] at h; omega
  | t :: ts, k, h => by
    rw [sizeL] at h
    by_cases c : k < sizeT t
    · obtain ⟨q, r, s⟩ := spot_ex t k c
      exact ⟨[], t, ts, k, rfl, by rw [sizeL]; omega, q, r, s⟩
    · obtain ⟨a, u, b, m, e, ek, s⟩ := spot_exL ts (k - sizeT t) (by omega)
      refine ⟨t :: a, u, b, m, by rw [e]; rfl, by rw [sizeL]; omega, s⟩
end
theorem Sp.part {k : Nat} {t r : Tr} {q : List Int} (s : Sp k t q r) : partAt t q = some r := by
  induction s with
  | here t => rfl
  | down t a u b q r k e s ih =>
    unfold partAt
    rw [Int.toNat_natCast, e, List.getElem?_append_right (Nat.le_refl _), Nat.sub_self]
    show (if 0 ≤ (a.length : Int) then partAt u q else none) = some r
    rw [if_pos (by omega), ih]
theorem Sp.deep {k : Nat} {t r : Tr} {q : List Int} (s : Sp k t q r) : ∀ D : Nat, okL D t.kids → ∃ D', D = q.length + D' ∧ okL D' r.kids ∧ (q ≠ [] → Cd r.ini r.l) ∧ ∀ i ∈ q, 0 ≤ i ∧ i < 5 := by
  induction s with
  | here t => intro D h; exact ⟨D, by simp, h, fun h => absurd rfl h, by simp⟩
  | down t a u b q r k e s ih =>
    intro D h
    match D, h with
    | 0, h =>
      have h : t.kids = [] := h
      rw [e] at h; simp at h
    | D + 1, h =>
      obtain ⟨h5, hk⟩ := h
      have mu : u ∈ t.kids := by rw [e]; simp
      obtain ⟨C, ok⟩ := hk u mu
      obtain ⟨D', e1, e2, e3, e4⟩ := ih D ok
      refine ⟨D', by rw [List.length_cons]; omega, e2, fun _ => ?_, fun i hi => ?_⟩
      · by_cases c : q = []
        · subst c
          cases s
          exact C
        · exact e3 c
      · rcases List.mem_cons.mp hi with rfl | hi
        · rw [e, List.length_append, List.length_cons] at h5; omega
        · exact e4 i hi
theorem Sp.lt {k : Nat} {t r : Tr} {q : List Int} (s : Sp k t q r) : k + sizeT r ≤ sizeT t := by
  induction s with
  | here t => omega
  | down t a u b q r k e s ih =>
    rw [sizeT_eq t, e, sizeL_app, sizeL]; omega
theorem Sp.zero {k : Nat} {t r : Tr} {q : List Int} (s : Sp k t q r) : k = 0 ↔ q = [] := by
  cases s with
  | here t => simp
  | down t a u b q r k e s => simp <;> omega
/-- the rows around a part -/
theorem Sp.rows {k : Nat} {t r : Tr} {q : List Int} (s : Sp k t q r) : ∀ d : Int, ∃ A B, A.length = k ∧ flatT d t = A ++ flatT (d + (q.length : Int)) r ++ B ∧ ∀ new, flatT d (putT t q new) = A ++ flatT (d + (q.length : Int)) new ++ B := by
  induction s with
  | here t => intro d; exact ⟨[], [], rfl, by simp, fun new => by simp [putT]⟩
  | down t a u b q r k e s ih =>
    intro d
    obtain ⟨A, B, e1, e2, e3⟩ := ih (d + 1)
    have ed : d + ((((a.length : Int) :: q).length : Nat) : Int) = d + 1 + (q.length : Int) := by rw [List.length_cons]; omega
    refine ⟨(d, t.ini ++ [t.l]) :: flatL (d + 1) a ++ A, B ++ flatL (d + 1) b, ?_, ?_, fun new => ?_⟩
    · rw [List.length_append, List.length_cons, flatL_len]; omega
    · rw [flatT_eq, e, flatL_app, flatL, e2, ed]; simp
    · have es : putT t ((a.length : Int) :: q) new = .nd t.ini t.l (a ++ putT u q new :: b) := by
        rw [putT, Int.toNat_natCast, e, List.getElem?_append_right (Nat.le_refl _), Nat.sub_self]
        simp
      rw [es, flatT, flatL_app, flatL, e3, ed]; simp
end K52
namespace K52
open PySem PySem.Spec L2 DL
/-! ### the path of a row -/
theorem heads_comp {q : PD → R (Option PD)} : ∀ (ts : List Tr) (o : Nat), (∀ x ∈ pos o ts, q (.int (x.1 : Int)) = .ok (some (.int (x.1 : Int)))) → (∀ k : Nat, o ≤ k → k < o + sizeL ts → (∀ x ∈ pos o ts, x.1 ≠ k) → q (.int (k : Int)) = .ok none) →
    ∃ l, compP q ((rng o (sizeL ts)).map PyData.int) = .ok l ∧ l.length = ts.length
  | [], o, _, _ => by rw [sizeL]; exact ⟨[], rfl, rfl⟩
  | t :: ts, o, h1, h2 => by
    have hp := sizeT_pos t
    have hd := h1 (o, t) List.mem_cons_self
    rw [sizeL, show sizeT t + sizeL ts = (1 + (sizeT t - 1)) + sizeL ts by omega, rng_add, rng_add, List.map_append, List.map_append]
    have e1 : compP q ((rng (o : Int) 1).map PyData.int) = .ok [.int (o : Int)] := by
      show compP q [.int ((o : Int) + ((0 : Nat) : Int))] = _
      rw [show (o : Int) + ((0 : Nat) : Int) = (o : Int) by omega, cp_cons, hd]; rfl
    have e2 : compP q ((rng ((o : Int) + ((1 : Nat) : Int)) (sizeT t - 1)).map PyData.int) = .ok [] := compP_none _ fun d hd2 => by
      obtain ⟨k, hk, rfl⟩ := List.mem_map.mp hd2
      have hk := mem_rng.mp hk
      obtain ⟨m, rfl⟩ : ∃ m : Nat, k = (m : Int) := ⟨k.toNat, by omega⟩
      refine h2 m (by omega) (by rw [sizeL]; omega) fun x hx => ?_
      rcases List.mem_cons.mp (show x ∈ (o, t) :: pos (o + sizeT t) ts from hx) with e | hx
      · rw [e]; simp only; omega
      · have := (pos_ge hx).1; omega
    obtain ⟨l, e3, el⟩ := heads_comp (q := q) ts (o + sizeT t) (fun x hx => h1 x (List.mem_cons_of_mem _ hx)) fun k k1 k2 hx => h2 k (by omega) (by rw [sizeL]; omega) fun x hx2 => by
      rcases List.mem_cons.mp (show x ∈ (o, t) :: pos (o + sizeT t) ts from hx2) with e | hx2
      · rw [e]; simp only; omega
      · exact hx x hx2
    have e4 : (o : Int) + ((1 + (sizeT t - 1) : Nat) : Int) = ((o + sizeT t : Nat) : Int) := by omega
    rw [e4]
    exact ⟨_, compP_app _ _ (compP_app _ _ e1 e2) e3, by simp [el]⟩
/-- row k hangs on row j as the c-th -/
structure Up (rows : List Row) (k j : Nat) (c : Int) : Prop where
  lt : j < k
  par : F__law_parent [encRows rows, .int (k : Int)] = .ok (.int (j : Int))
  cnt : ∃ l : List PD, lcP ((rng 1 (k - 1)).map PyData.int) (fun m => (((F__law_parent [encRows rows, m]).bind fun a => eqD a (.int (j : Int))).bind asB).whn (.ok (some m))) = .ok l ∧ (l.length : Int) = c
inductive Pa (rows : List Row) : Nat → List Int → Prop
  | zero : Pa rows 0 []
  | down (k j : Nat) (c : Int) (p : List Int) : Up rows k j c → Pa rows j p → Pa rows k (p ++ [c])
theorem path_zero (rows x acc : PD) (next brk : PD × PD → R PD) : P__law_path_l1 rows x (.int 0, acc) next brk = next (.int 0, acc) := by
  unfold P__law_path_l1
  rw [a_gtI, R.ok_bind, a_asB, R.ok_bind, iteF (show decide ((0 : Int) > 0) = false from rfl)]
theorem path_down {rows : List Row} {k j : Nat} {c : Int} (U : Up rows k j c) (hk : k ≤ 1000) (x : PD) (acc : List Int) (ha : acc.length ≤ 1000) (next brk : PD × PD → R PD) : P__law_path_l1 (encRows rows) x (.int (k : Int), .list (acc.map PyData.int)) next brk = next (.int (j : Int), .list ((c :: acc).map PyData.int)) := by
  have ul := U.lt
  obtain ⟨l, e1, e2⟩ := U.cnt
  unfold P__law_path_l1
  rw [a_gtI, R.ok_bind, a_asB, R.ok_bind, iteT (decide_eq_true (by omega))]
  rw [U.par, R.ok_bind, rg2_ok (by omega) (by omega) (by omega), R.ok_bind]
  rw [show ((k : Int) - 1).toNat = k - 1 by omega, e1]
  simp only [R.ok_bind, a_mkL, List.length_cons, List.length_nil, len_list]
  rw [chk_of (show decide (0 + 1 ≤ big) = true by simp [big_eq])]
  simp only [R.ok_bind]
  rw [e2, a_addL, chk_of (decide_eq_true (by rw [List.length_map, big_eq]; simp; omega))]
  rfl
theorem Pa.loop {rows : List Row} {k : Nat} {p : List Int} (h : Pa rows k p) (hk : k ≤ 1000) : ∀ (xs : List PD) (acc : List Int) (cont : PD × PD → R PD), p.length ≤ xs.length → p.length + acc.length ≤ 1000 → forK (P__law_path_l1 (encRows rows)) xs (.int (k : Int), .list (acc.map PyData.int)) cont = cont (.int 0, .list ((p ++ acc).map PyData.int)) := by
  induction h with
  | zero =>
    intro xs acc cont _ _
    induction xs with
    | nil => rfl
    | cons x xs ih =>
      show P__law_path_l1 (encRows rows) x (.int 0, .list (acc.map PyData.int)) _ _ = _
      rw [path_zero]
      exact ih (by simp)
  | down k j c p U A ih =>
    intro xs acc cont hx ha
    have ul := U.lt
    rw [List.length_append, List.length_singleton] at hx ha
    cases xs with
    | nil => simp at hx
    | cons x xs =>
      rw [List.length_cons] at hx
      show P__law_path_l1 (encRows rows) x (.int (k : Int), .list (acc.map PyData.int)) _ _ = _
      rw [path_down U hk x acc (by omega)]
      have := ih (by omega) xs (c :: acc) cont (by omega) (by rw [List.length_cons]; omega)
      rw [show (p ++ [c]) ++ acc = p ++ (c :: acc) by simp]
      exact this
theorem Pa.eq {rows : List Row} {k : Nat} {p : List Int} (h : Pa rows k p) (hk : k ≤ 1000) (hp : p.length ≤ 5) : F__law_path [encRows rows, .int (k : Int)] = .ok (encP p) := by
  rw [e__law_path]; unfold P__law_path
  rw [show rg1 (.int 5) = .ok [.int 0, .int 1, .int 2, .int 3, .int 4] from rfl, R.ok_bind]
  have := h.loop hk [.int 0, .int 1, .int 2, .int 3, .int 4] [] (fun s_31 => tupD [s_31.2]) hp (by rw [List.length_nil]; omega)
  rw [List.map_nil] at this
  rw [this, List.append_nil]; rfl
/-- a kid's row -/
theorem kid_up {rows : List Row} {t u : Tr} {a b : List Tr} {d : Int} {o : Nat} (hA : At rows o (flatT d t)) (hF : Full rows) (hs : o + sizeT t ≤ rows.length) (e : t.kids = a ++ u :: b) : Up rows (o + 1 + sizeL a) o (a.length : Int) ∧ At rows (o + 1 + sizeL a) (flatT (d + 1) u) := by
  have hl := hF.1
  have st := sizeT_eq t
  rw [e, sizeL_app, sizeL] at st
  have up := sizeT_pos u
  rw [flatT_eq] at hA
  have ho : dep rows o = d := hA.dep (i := 0) rfl
  have hk : At rows (o + 1) (flatL (d + 1) t.kids) := (show At rows o ([(d, t.ini ++ [t.l])] ++ flatL (d + 1) t.kids) from hA).right
  rw [e, flatL_app, flatL] at hk
  have ha : At rows (o + 1) (flatL (d + 1) a) := hk.left
  have hu : At rows (o + 1 + sizeL a) (flatT (d + 1) u) := by
    have := hk.right
    rw [flatL_len] at this
    exact this.left
  have hud : dep rows (o + 1 + sizeL a) = d + 1 := by
    have := hu
    rw [flatT_eq] at this
    exact this.dep (i := 0) rfl
  have hd : ∀ x ∈ pos (o + 1) a, Ab rows x.1 o := fun x hx => by
    obtain ⟨p1, p2, p3⟩ := pos_ge hx
    obtain ⟨q1, q2⟩ := pos_dep ha x hx
    have xp := sizeT_pos x.2
    exact ⟨by omega, by omega, fun m m1 m2 => by
      have := ha.ge (k := m) (by omega) (by omega)
      omega⟩
  have A : Ab rows (o + 1 + sizeL a) o := ⟨by omega, by omega, fun m m1 m2 => by
    have := ha.ge (k := m) (by omega) (by omega)
    omega⟩
  have key : ∀ k j : Nat, k < rows.length → Ab rows k j → ((F__law_parent [encRows rows, .int (k : Int)]).bind fun a_7 => eqD a_7 (.int (o : Int))).bind asB = .ok (decide (j = o)) := fun k j h A => by
    rw [parent_eq h hl A, R.ok_bind, a_eqI, R.ok_bind, a_asB]
    congr 1
    by_cases c : j = o
    · rw [decide_eq_true c, decide_eq_true (by omega)]
    · rw [decide_eq_false c, decide_eq_false (by omega)]
  refine ⟨⟨by omega, parent_eq (by omega) hl A, ?_⟩, hu⟩
  obtain ⟨l, e1, e2⟩ := heads_comp (q := fun m => (((F__law_parent [encRows rows, m]).bind fun a => eqD a (.int (o : Int))).bind asB).whn (.ok (some m))) a (o + 1) (fun x hx => by
    obtain ⟨p1, p2, p3⟩ := pos_ge hx
    have xp := sizeT_pos x.2
    rw [key x.1 o (by omega) (hd x hx), decide_eq_true rfl, R.t_whn]) (fun k k1 k2 hx => by
    rcases aboveL a (d + 1) (o + 1) rows ha k k1 k2 with ⟨x, hx1, e⟩ | ⟨j, j1, j2⟩
    · exact absurd e (hx x hx1)
    · rw [key k j (by omega) j2, decide_eq_false (by omega), R.f_whn])
  refine ⟨l, ?_, by rw [e2]⟩
  unfold lcP
  rw [chk_of (decide_eq_true (by rw [List.length_map, rng_len, big_eq]; omega))]
  rw [show o + 1 + sizeL a - 1 = o + sizeL a by omega, rng_add, List.map_append]
  have e0 : compP (fun m => (((F__law_parent [encRows rows, m]).bind fun a => eqD a (.int (o : Int))).bind asB).whn (.ok (some m))) ((rng 1 o).map PyData.int) = .ok [] := compP_none _ fun dd hd2 => by
    obtain ⟨k, hk2, rfl⟩ := List.mem_map.mp hd2
    have hk2 := mem_rng.mp hk2
    obtain ⟨m, rfl⟩ : ∃ m : Nat, k = (m : Int) := ⟨k.toNat, by omega⟩
    obtain ⟨j, A⟩ := hF.2 m (by omega) (by omega)
    have := A.lt
    rw [key m j (by omega) A, decide_eq_false (by omega), R.f_whn]
  rw [show (1 : Int) + (o : Int) = ((o + 1 : Nat) : Int) by omega]
  have := compP_app _ _ e0 e1
  rwa [List.nil_append] at this
theorem Sp.path {rows : List Row} {k : Nat} {t r : Tr} {q : List Int} (s : Sp k t q r) (hF : Full rows) : ∀ (d : Int) (o : Nat) (p : List Int), At rows o (flatT d t) → o + sizeT t ≤ rows.length → Pa rows o p → Pa rows (o + k) (p ++ q) := by
  induction s with
  | here t => intro d o p _ _ h; rw [List.append_nil]; exact h
  | down t a u b q r k e s ih =>
    intro d o p hA hs h
    obtain ⟨U, hu⟩ := kid_up hA hF hs e
    have st := sizeT_eq t
    rw [e, sizeL_app, sizeL] at st
    have := ih (d + 1) (o + 1 + sizeL a) (p ++ [(a.length : Int)]) hu (by omega) (.down _ _ _ _ U h)
    rwa [List.append_assoc, List.singleton_append, show o + 1 + sizeL a + k = o + (1 + sizeL a + k) by omega] at this
end K52
namespace K52
open PySem PySem.Spec L2 DL
/-! ### all paths, around a part -/
theorem nums_app : ∀ (i : Int) (a b : List Tr), nums i (a ++ b) = nums i a ++ nums (i + (a.length : Int)) b
  | i, [], b => by simp [nums]
  | i, t :: a, b => by
    show (i, t) :: nums (i + 1) (a ++ b) = (i, t) :: (nums (i + 1) a ++ _)
    rw [nums_app (i + 1) a b, List.length_cons, show i + 1 + (a.length : Int) = i + ((a.length + 1 : Nat) : Int) by omega]
theorem nums_num : ∀ {i : Int} {ks : List Tr} {x : Int × Tr}, x ∈ nums i ks → i ≤ x.1 ∧ x.1 < i + (ks.length : Int)
  | _, [], x, h => by cases h
  | i, t :: ts, x, h => by
    rw [List.length_cons]
    rcases List.mem_cons.mp (show x ∈ (i, t) :: nums (i + 1) ts from h) with e | h
    · rw [e]; simp only; omega
    · have := nums_num h; omega
/-- the paths of some trees from a number on -/
def pathsN (D : Nat) (i : Int) (ks : List Tr) (p : List Int) : List (List Int) := (nums i ks).flatMap fun x => (p ++ [x.1]) :: pathsL D x.2.kids (p ++ [x.1])
theorem pathsN_cons (D : Nat) (i : Int) (t : Tr) (ks : List Tr) (p : List Int) : pathsN D i (t :: ks) p = ((p ++ [i]) :: pathsL D t.kids (p ++ [i])) ++ pathsN D (i + 1) ks p := by
  unfold pathsN
  rw [nums, List.flatMap_cons]
theorem pathsN_app (D : Nat) (i : Int) (a b : List Tr) (p : List Int) : pathsN D i (a ++ b) p = pathsN D i a p ++ pathsN D (i + (a.length : Int)) b p := by
  unfold pathsN
  rw [nums_app, List.flatMap_append]
theorem paths_pref : ∀ (D : Nat) (ks : List Tr) (p x : List Int), x ∈ pathsL D ks p → ∃ c s, x = p ++ c :: s
  | 0, ks, p, x, h => by cases h
  | D + 1, ks, p, x, h => by
    obtain ⟨y, hy, hx⟩ := List.mem_flatMap.mp (show x ∈ (nums 0 ks).flatMap fun x => (p ++ [x.1]) :: pathsL D x.2.kids (p ++ [x.1]) from h)
    rcases List.mem_cons.mp hx with e | hx
    · exact ⟨y.1, [], e⟩
    · obtain ⟨c, s, e⟩ := paths_pref D _ _ _ hx
      exact ⟨y.1, c :: s, by rw [e]; simp⟩
theorem pathsN_pref {D : Nat} {i : Int} {ks : List Tr} {p x : List Int} (h : x ∈ pathsN D i ks p) : ∃ c s, x = p ++ c :: s ∧ i ≤ c ∧ c < i + (ks.length : Int) := by
  obtain ⟨y, hy, hx⟩ := List.mem_flatMap.mp h
  have := nums_num hy
  rcases List.mem_cons.mp hx with e | hx
  · exact ⟨y.1, [], e, this⟩
  · obtain ⟨c, s, e⟩ := paths_pref D _ _ _ hx
    exact ⟨y.1, c :: s, by rw [e]; simp, this⟩
theorem pathsN_size (D : Nat) (ih : ∀ (ks : List Tr) (p : List Int), okL D ks → (pathsL D ks p).length = sizeL ks) : ∀ (ks : List Tr) (i : Int) (p : List Int), (∀ t ∈ ks, okL D t.kids) → (pathsN D i ks p).length = sizeL ks
  | [], i, p, _ => by rw [sizeL]; rfl
  | t :: ts, i, p, h => by
    rw [pathsN_cons, List.length_append, List.length_cons, ih t.kids _ (h t List.mem_cons_self), pathsN_size D ih ts (i + 1) p fun x hx => h x (List.mem_cons_of_mem _ hx), sizeL, sizeT_eq t]; omega
theorem paths_size : ∀ (D : Nat) (ks : List Tr) (p : List Int), okL D ks → (pathsL D ks p).length = sizeL ks
  | 0, ks, p, h => by
    have e : ks = [] := h
    rw [e, sizeL]; rfl
  | D + 1, ks, p, h => pathsN_size D (paths_size D) ks 0 p fun t ht => (h.2 t ht).2
theorem no_pre {p q s : List Int} {i c : Int} (h : c ≠ i) : ¬ (p ++ i :: q) <+: (p ++ c :: s) := by
  rw [List.prefix_append_right_inj, List.cons_prefix_cons]
  exact fun e => h e.1.symm
theorem Sp.paths {k : Nat} {t r : Tr} {q : List Int} (s : Sp k t q r) : ∀ (D : Nat) (p : List Int), okL D t.kids → ∃ D' PA PB, D = q.length + D' ∧ PA.length = k ∧ p :: pathsL D t.kids p = PA ++ ((p ++ q) :: pathsL D' r.kids (p ++ q)) ++ PB ∧ (∀ x ∈ PA, ¬ (p ++ q) <+: x) ∧ ∀ x ∈ PB, ¬ (p ++ q) <+: x := by
  induction s with
  | here t => intro D p h; exact ⟨D, [], [], by simp, rfl, by simp, by simp, by simp⟩
  | down t a u b q r k e s ih =>
    intro D p h
    match D, h with
    | 0, h =>
      have h : t.kids = [] := h
      rw [e] at h; simp at h
    | D + 1, h =>
      obtain ⟨h5, hk⟩ := h
      have mu : u ∈ t.kids := by rw [e]; simp
      obtain ⟨D', PA, PB, e1, e2, e3, e4, e5⟩ := ih D (p ++ [(a.length : Int)]) (hk u mu).2
      have eq : (p ++ [(a.length : Int)]) ++ q = p ++ (a.length : Int) :: q := by simp
      rw [eq] at e3 e4 e5
      refine ⟨D', p :: pathsN D 0 a p ++ PA, PB ++ pathsN D (0 + (a.length : Int) + 1) b p, by rw [List.length_cons]; omega, ?_, ?_, ?_, ?_⟩
      · rw [List.length_append, List.length_cons, pathsN_size D (paths_size D) a 0 p fun x hx => (hk x (by rw [e]; simp [hx])).2]; omega
      · show p :: pathsN D 0 t.kids p = _
        rw [e, pathsN_app, pathsN_cons, Int.zero_add, e3]; simp
      · intro x hx
        rcases List.mem_append.mp hx with hx | hx
        · rcases List.mem_cons.mp hx with rfl | hx
          · intro hp
            have := hp.length_le
            rw [List.length_append, List.length_cons] at this; omega
          · obtain ⟨c, s, rfl, c1, c2⟩ := pathsN_pref hx
            exact no_pre (by omega)
        · exact e4 x hx
      · intro x hx
        rcases List.mem_append.mp hx with hx | hx
        · exact e5 x hx
        · obtain ⟨c, s, rfl, c1, c2⟩ := pathsN_pref hx
          exact no_pre (by omega)
/-! ### totals, a part moved in -/
def rnum (r : Row) : Int := numOf r.2
mutual
theorem tot_rows : ∀ (t : Tr) (D : Nat) (d : Int), okL D t.kids → ((flatT d t).map rnum).sum = tot D t
  | .nd i l ks, D, d, h => by
    rw [flatT, List.map_cons, List.sum_cons]
    match D, h with
    | 0, h =>
      have h : ks = [] := h
      rw [h, flatL]; simp [tot, rnum, numT, Tr.ini, Tr.l]
    | D + 1, h => rw [tot_rowsL ks D (d + 1) fun t ht => (h.2 t ht).2]; rfl
theorem tot_rowsL : ∀ (ks : List Tr) (D : Nat) (d : Int), (∀ t ∈ ks, okL D t.kids) → ((flatL d ks).map rnum).sum = (ks.map (tot D)).sum
  | [], D, d, _ => by rw [flatL]; rfl
  | t :: ts, D, d, h => by
    rw [flatL, List.map_append, List.sum_append, List.map_cons, List.sum_cons, tot_rows t D d (h t List.mem_cons_self), tot_rowsL ts D d fun x hx => h x (List.mem_cons_of_mem _ hx)]
end
theorem Sp.okput {k : Nat} {t r : Tr} {q : List Int} (s : Sp k t q r) {ini : List Int} {l : Int} (C : Cd ini l) : ∀ D : Nat, okL D t.kids → okL D (putT t q (.nd ini l r.kids)).kids := by
  induction s with
  | here t => intro D h; exact h
  | down t a u b q r k e s ih =>
    intro D h
    have es : putT t ((a.length : Int) :: q) (.nd ini l r.kids) = .nd t.ini t.l (a ++ putT u q (.nd ini l r.kids) :: b) := by
      rw [putT, Int.toNat_natCast, e, List.getElem?_append_right (Nat.le_refl _), Nat.sub_self]
      simp
    rw [es]
    match D, h with
    | 0, h =>
      have h : t.kids = [] := h
      rw [e] at h; simp at h
    | D + 1, h =>
      obtain ⟨h5, hk⟩ := h
      rw [e] at h5 hk
      obtain ⟨Cu, oku⟩ := hk u (by simp)
      refine ⟨by rw [List.length_append, List.length_cons] at h5; show (a ++ putT u q (.nd ini l r.kids) :: b).length ≤ 5; rw [List.length_append, List.length_cons]; exact h5, fun x hx => ?_⟩
      rcases List.mem_append.mp (show x ∈ a ++ putT u q (.nd ini l r.kids) :: b from hx) with hx | hx
      · exact hk x (by simp [hx])
      · rcases List.mem_cons.mp hx with rfl | hx
        · refine ⟨?_, ih D oku⟩
          cases s with
          | here => exact C
          | down _ a2 u2 b2 q2 _ k2 e2 s2 =>
            have : putT u ((a2.length : Int) :: q2) (.nd ini l r.kids) = .nd u.ini u.l (a2 ++ putT u2 q2 (.nd ini l r.kids) :: b2) := by
              rw [putT, Int.toNat_natCast, e2, List.getElem?_append_right (Nat.le_refl _), Nat.sub_self]
              simp
            rw [this]; exact Cu
        · exact hk x (by simp [hx])
theorem Sp.headput {k : Nat} {t r : Tr} {q : List Int} (s : Sp k t q r) {ini : List Int} {l : Int} (C : Cd ini l) (Ct : Cd t.ini t.l) : Cd (putT t q (.nd ini l r.kids)).ini (putT t q (.nd ini l r.kids)).l := by
  cases s with
  | here => exact C
  | down _ a u b q2 _ k2 e s =>
    have : putT t ((a.length : Int) :: q2) (.nd ini l r.kids) = .nd t.ini t.l (a ++ putT u q2 (.nd ini l r.kids) :: b) := by
      rw [putT, Int.toNat_natCast, e, List.getElem?_append_right (Nat.le_refl _), Nat.sub_self]
      simp
    rw [this]; exact Ct
end K52
namespace K52
open PySem PySem.Spec L2 DL
/-! ### brothers beside a place, as the law counts them -/
def brB (rows : List Row) (deep : Int) (j : Nat) : Bool := decide (dep rows j = deep) && (rows.drop j).all fun r => decide (r.1 ≥ deep)
def brQ (s deep : PD) (j_59 : PD) : R (Option PD) := (((((ixD s j_59).bind fun a_60 => ixD a_60 (.int 0)).bind fun a_61 => eqD a_61 deep).bind asB).bind fun b_62 => if b_62 = true then (((((((optI j_59).bind fun i_63 => slD s i_63 none).bind itD).bind fun items_64 => lcP items_64 fun row_65 => ((ixD row_65 (.int 0)).bind fun a_66 => geD a_66 deep).sm).bind fun l_67 => .ok (.list l_67)).bind fun a_68 => .ok [a_68]).bind allD).bind tru else .ok false).whn (.ok (some j_59))
theorem brQ_eq {rows : List Row} (hl : rows.length ≤ 1000) (deep : Int) {j : Nat} (hj : j < rows.length) : brQ (encRows rows) (.int deep) (.int (j : Int)) = .ok (if brB rows deep j = true then some (.int (j : Int)) else none) := by
  unfold brQ brB
  rw [row_ix hj, R.ok_bind, a_eqI, R.ok_bind, a_asB, R.ok_bind]
  by_cases c : dep rows j = deep
  · rw [iteT (decide_eq_true c), optI_i, R.ok_bind, show slD (encRows rows) (some (j : Int)) none = .ok (.list ((rows.drop j).map encRow)) from sl_dropL encRow rows j, R.ok_bind, a_itL, R.ok_bind]
    rw [lcP_all encRow PyData.bool (fun r => decide (r.1 ≥ deep)) (rows.drop j) (by rw [List.length_drop]; omega) fun r _ => by
      rw [show ixD (encRow r) (.int 0) = .ok (.int r.1) from rfl, R.ok_bind, a_geI]; rfl]
    rw [R.ok_bind, R.ok_bind, R.ok_bind, all_bools, R.ok_bind, a_truB, List.all_map, decide_eq_true c, Bool.true_and]
    rw [show (id ∘ fun r : Row => decide (r.1 ≥ deep)) = fun r : Row => decide (r.1 ≥ deep) from rfl]
    cases (rows.drop j).all fun r : Row => decide (r.1 ≥ deep) <;> rfl
  · rw [iteF (decide_eq_false c), decide_eq_false c, Bool.false_and]; rfl
theorem brB_iff {rows : List Row} {deep : Int} {j : Nat} : brB rows deep j = true ↔ dep rows j = deep ∧ ∀ m : Nat, j ≤ m → m < rows.length → deep ≤ dep rows m := by
  unfold brB
  rw [Bool.and_eq_true, decide_eq_true_eq, List.all_eq_true]
  constructor
  · rintro ⟨h1, h2⟩
    refine ⟨h1, fun m h3 h4 => ?_⟩
    have hm : rows[m] ∈ rows.drop j := by
      rw [List.mem_iff_getElem]
      exact ⟨m - j, by rw [List.length_drop]; omega, by rw [List.getElem_drop]; congr 1; omega⟩
    have := h2 _ hm
    rw [decide_eq_true_eq] at this
    unfold dep
    rw [List.getD_eq_getElem?_getD, List.getElem?_eq_getElem h4]; exact this
  · rintro ⟨h1, h2⟩
    refine ⟨h1, fun r hr => ?_⟩
    rw [decide_eq_true_eq]
    obtain ⟨i, hi, e⟩ := List.mem_iff_getElem.mp hr
    rw [List.length_drop] at hi
    rw [List.getElem_drop] at e
    have := h2 (j + i) (by omega) (by omega)
    unfold dep at this
    rw [List.getD_eq_getElem?_getD, List.getElem?_eq_getElem (by omega), Option.getD_some, e] at this
    exact this
theorem head_dep {rows : List Row} {ts : List Tr} {d : Int} {o k : Nat} (hA : At rows o (flatL d ts)) (h1 : o ≤ k) (h2 : k < o + sizeL ts) (h3 : ∀ x ∈ pos o ts, x.1 ≠ k) : d < dep rows k := by
  rcases aboveL ts d o rows hA k h1 h2 with ⟨x, hx, e⟩ | ⟨j, j1, A⟩
  · exact absurd e (h3 x hx)
  · have := hA.ge (k := j) j1 (by have := A.lt; omega)
    have := A.less
    omega
theorem bro_comp {rows : List Row} (hl : rows.length ≤ 1000) : ∀ (k : Nat) (ts : List Tr) (d : Int) (o : Nat), At rows o (flatL d ts) → o + sizeL ts = rows.length → spine k ts → ∃ l, compP (brQ (encRows rows) (.int (d + (k : Int)))) ((rng o (sizeL ts)).map PyData.int) = .ok l ∧ l.length = bro k ts
  | 0, ts, d, o, hA, he, _ => by
    rw [show d + ((0 : Nat) : Int) = d by omega]
    refine heads_comp ts o (fun x hx => ?_) fun k k1 k2 hx => ?_
    · obtain ⟨p1, p2, p3⟩ := pos_ge hx
      have xp := sizeT_pos x.2
      rw [brQ_eq hl d (by omega), if_pos (brB_iff.mpr ⟨(pos_dep hA x hx).1, fun m h1 h2 => hA.ge (by omega) (by omega)⟩)]
    · have := head_dep hA k1 k2 hx
      rw [brQ_eq hl d (by omega), if_neg (fun h => by have := (brB_iff.mp h).1; omega)]
  | k + 1, ts, d, o, hA, he, ⟨t, ht, hs⟩ => by
    have e := last_split ht
    have es : sizeL ts = sizeL ts.dropLast + (1 + sizeL t.kids) := by
      have : sizeL ts = sizeL (ts.dropLast ++ [t]) := by rw [← e]
      rw [this, sizeL_app, sizeL, sizeL, sizeT_eq t]; omega
    have ef : flatL d ts = flatL d ts.dropLast ++ ((d, t.ini ++ [t.l]) :: flatL (d + 1) t.kids) := by
      have : flatL d ts = flatL d (ts.dropLast ++ [t]) := by rw [← e]
      rw [this, flatL_app, flatL, flatL, flatT_eq, List.append_nil]
    rw [ef] at hA
    have hr := hA.right
    rw [flatL_len] at hr
    have hh : dep rows (o + sizeL ts.dropLast) = d := hr.dep (i := 0) rfl
    have hk : At rows (o + sizeL ts.dropLast + 1) (flatL (d + 1) t.kids) := (show At rows _ ([(d, t.ini ++ [t.l])] ++ flatL (d + 1) t.kids) from hr).right
    obtain ⟨l, e1, e2⟩ := bro_comp hl k t.kids (d + 1) _ hk (by omega) hs
    rw [show d + 1 + (k : Int) = d + ((k + 1 : Nat) : Int) by omega] at e1
    have e0 : compP (brQ (encRows rows) (.int (d + ((k + 1 : Nat) : Int)))) ((rng o (sizeL ts.dropLast + 1)).map PyData.int) = .ok [] := compP_none _ fun dd hd => by
      obtain ⟨i, hi, rfl⟩ := List.mem_map.mp hd
      have hi := mem_rng.mp hi
      obtain ⟨m, rfl⟩ : ∃ m : Nat, i = (m : Int) := ⟨i.toNat, by omega⟩
      rw [brQ_eq hl _ (by omega), if_neg (fun h => by
        have := (brB_iff.mp h).2 (o + sizeL ts.dropLast) (by omega) (by omega)
        omega)]
    rw [es, show sizeL ts.dropLast + (1 + sizeL t.kids) = (sizeL ts.dropLast + 1) + sizeL t.kids by omega, rng_add, List.map_append]
    rw [show (o : Int) + ((sizeL ts.dropLast + 1 : Nat) : Int) = ((o + sizeL ts.dropLast + 1 : Nat) : Int) by omega]
    refine ⟨l, ?_, ?_⟩
    · have := compP_app _ _ e0 e1
      rwa [List.nil_append] at this
    · rw [e2, bro, ht]
end K52
namespace K52
open PySem PySem.Spec L2 DL
/-! ### the rows that the law draws -/
structure Rw (pl : Int) (k : Nat) (t : Tr) : Prop where
  wid : ∀ r ∈ flatL (0 + 1) t.kids, (r.2.length : Int) ≤ pl
  hd4 : t.ini.length ≤ 3
  cd : Cd t.ini t.l
  ok : okL 4 t.kids
  size : sizeT t ≤ 1 + k
  nil : k = 0 → t.kids = []
  some : 0 < k → t.kids ≠ []
theorem deep_le : ∀ (n : Nat) (ts : List Tr), deepL n ts ≤ n
  | 0, _ => Nat.le_refl 0
  | n + 1, ts => by
    unfold deepL
    split
    · omega
    · have := deep_le n (by assumption : Tr).kids; omega
theorem last_row {t : Tr} (h : okL 4 t.kids) : ∃ A r, flatT 0 t = A ++ [r] ∧ r.1 = (deepL 4 t.kids : Int) := by
  rw [flatT_eq]
  by_cases c : flatL (0 + 1) t.kids = []
  · have e : t.kids = [] := by
      cases hk : t.kids with
      | nil => rfl
      | cons u us =>
        rw [hk, flatL, flatT_eq] at c
        simp at c
    exact ⟨[], (0, t.ini ++ [t.l]), by rw [c]; rfl, by rw [e]; rfl⟩
  · obtain ⟨r, hr⟩ : ∃ r, (flatL (0 + 1) t.kids).getLast? = some r := ⟨_, List.getLast?_eq_some_getLast c⟩
    have := last_dep 4 t.kids (0 + 1) r h hr
    have e : flatL (0 + 1) t.kids = (flatL (0 + 1) t.kids).dropLast ++ [r] := by
      have := List.dropLast_concat_getLast c
      rw [List.getLast?_eq_some_getLast c] at hr
      rw [Option.some.inj hr] at this
      exact this.symm
    exact ⟨(0, t.ini ++ [t.l]) :: (flatL (0 + 1) t.kids).dropLast, r, by rw [List.cons_append, ← e], by omega⟩
theorem most_deep {t : Tr} (h : okL 4 t.kids) : (((((((negD (.int 1)).bind (ixD (encRows (flatT 0 t)))).bind fun a_50 => ixD a_50 (.int 0)).bind fun a_51 => addD a_51 (.int 1)).bind fun a_52 => R.ok [a_52]).bind fun ds_53 => R.ok ((PyData.int 4) :: ds_53)).bind minD1) = .ok (.int (min 4 ((deepL 4 t.kids : Int) + 1))) := by
  obtain ⟨A, r, e, er⟩ := last_row h
  rw [neg1, R.ok_bind, e, show ixD (encRows (A ++ [r])) (.int (-1)) = .ok (encRow r) from ix_lastL encRow A r, R.ok_bind, show ixD (encRow r) (.int 0) = .ok (.int r.1) from rfl, R.ok_bind, a_addI, R.ok_bind, R.ok_bind, R.ok_bind, a_min2, er]
theorem same_ok {t : Tr} (h : okL 4 t.kids) (hs : sizeT t ≤ 900) {deep : Int} {k : Nat} (hk : k ≤ deepL 4 t.kids) (hd : deep = 1 + (k : Int)) : ∃ l : List PD, l.length = bro k t.kids ∧ (((lenD [(encRows (flatT 0 t))]).bind (rg2 (.int 1))).bind fun items_58 => lcP items_58 fun j_59 => (((((ixD (encRows (flatT 0 t)) j_59).bind fun a_60 => ixD a_60 (.int 0)).bind fun a_61 => eqD a_61 (.int deep)).bind asB).bind fun b_62 => if b_62 = true then (((((((optI j_59).bind fun i_63 => slD (encRows (flatT 0 t)) i_63 none).bind itD).bind fun items_64 => lcP items_64 fun row_65 => ((ixD row_65 (.int 0)).bind fun a_66 => geD a_66 (.int deep)).sm).bind fun l_67 => .ok (.list l_67)).bind fun a_68 => .ok [a_68]).bind allD).bind tru else .ok false).whn (.ok (some j_59))) = .ok l := by
  have sp := spine_deep 4 k t.kids hk
  have st := sizeT_eq t
  have hA : At (flatT 0 t) 1 (flatL 1 t.kids) := by
    have : At (flatT 0 t) 0 ([(0, t.ini ++ [t.l])] ++ flatL (0 + 1) t.kids) := fun i hi => by rw [Nat.zero_add, flatT_eq]; rfl
    exact this.right
  obtain ⟨l, e1, e2⟩ := bro_comp (rows := flatT 0 t) (by rw [flatT_len]; omega) k t.kids 1 1 hA (by rw [flatT_len]; omega) sp
  refine ⟨l, e2, ?_⟩
  rw [show lenD [encRows (flatT 0 t)] = .ok (.int (((flatT 0 t).map encRow).length : Nat)) from rfl, R.ok_bind, List.length_map, flatT_len, rg2_ok (by omega) (by omega) (by omega), R.ok_bind]
  rw [show ((sizeT t : Int) - 1).toNat = sizeL t.kids by omega]
  unfold lcP
  rw [chk_of (decide_eq_true (by rw [List.length_map, rng_len, big_eq]; omega)), hd]
  exact e1
theorem add_ne (k : Nat) (ts : List Tr) (new : Tr) (h : spine k ts) : addL k ts new ≠ [] := by
  cases k with
  | zero => rw [addL]; simp
  | succ k =>
    obtain ⟨t, ht, _⟩ := h
    rw [addL, ht]; simp
theorem iv (v : Int) : intD [.int v] = .ok (.int v) := rfl
theorem split_last {fs : List Int} (h1 : 1 ≤ fs.length) (hd : ∀ f ∈ fs, Dig f) (h2 : fs.length ≤ 5) : ∃ ini l, fs = ini ++ [l] ∧ Cd ini l := by
  have hn : fs ≠ [] := by intro e; rw [e] at h1; simp at h1
  refine ⟨fs.dropLast, fs.getLast hn, (List.dropLast_concat_getLast hn).symm, ⟨⟨?_, fun f hf => hd f (List.dropLast_subset _ hf), hd _ (List.getLast_mem hn)⟩, ?_⟩⟩ <;> rw [List.length_dropLast] <;> omega
theorem rows_step {ds : List Int} (hl : ds.length = 45) (ho : DrawOk ds) {pl : Int} (hp : 1 ≤ pl ∧ pl ≤ 5) {k : Nat} (hk : k < 8) {t : Tr} (W : Rw pl k t) : ∃ t', Rw pl (k + 1) t' ∧ ∀ next brk, P__law_rows_l1 (.list (ds.map PyData.int)) (.int pl) (.int (k : Int)) (encRows (flatT 0 t)) next brk = next (encRows (flatT 0 t')) := by
  have hs := W.size
  have dle := deep_le 4 t.kids
  obtain ⟨v1, d1, b1⟩ := dr_ix hl ho (1 + (k : Int)) (by omega)
  obtain ⟨v10, d10, b10⟩ := dr_ix hl ho (10 + (k : Int)) (by omega)
  obtain ⟨M, hM⟩ : ∃ M : Int, min 4 ((deepL 4 t.kids : Int) + 1) = M := ⟨_, rfl⟩
  have mb : 1 ≤ M ∧ M ≤ 4 ∧ M ≤ (deepL 4 t.kids : Int) + 1 := by omega
  obtain ⟨k0, hk0⟩ : ∃ k0 : Nat, v1 % M = (k0 : Int) := ⟨(v1 % M).toNat, by have := Int.emod_nonneg v1 (show M ≠ 0 by omega); omega⟩
  have k0b : (k0 : Int) < M := by have := Int.emod_lt_of_pos v1 (show 0 < M by omega); omega
  obtain ⟨l1, e1, f1⟩ := same_ok W.ok (by omega) (deep := 1 + (k0 : Int)) (k := k0) (by omega) rfl
  obtain ⟨k1, hk1, e2⟩ : ∃ k1 : Nat, (k1 : Int) < M ∧ ((((lenD [.list l1]).bind fun a_71 => ltD a_71 (.int 5)).bind asB).bind fun b_72 => if b_72 = true then R.ok (PyData.int (1 + (k0 : Int))) else ((((((negD (.int 1)).bind (ixD (encRows (flatT 0 t)))).bind fun a_74 => ixD a_74 (.int 0)).bind fun a_75 => addD a_75 (.int 1)).bind fun a_76 => .ok [a_76]).bind fun ds_77 => .ok ((.int 4) :: ds_77)).bind minD1) = .ok (.int (1 + (k1 : Int))) := by
    rw [most_deep W.ok, len_list, R.ok_bind, a_ltI, R.ok_bind, a_asB, R.ok_bind]
    by_cases c : ((l1.length : Nat) : Int) < 5
    · exact ⟨k0, k0b, iteT (decide_eq_true c)⟩
    · exact ⟨(M - 1).toNat, by omega, by rw [iteF (decide_eq_false c), hM, show 1 + ((M - 1).toNat : Int) = M by omega]⟩
  obtain ⟨l2, e3, f2⟩ := same_ok W.ok (by omega) (deep := 1 + (k1 : Int)) (k := k1) (by omega) rfl
  obtain ⟨n, hn⟩ : ∃ n : Nat, v10 % pl = (n : Int) := ⟨(v10 % pl).toNat, by have := Int.emod_nonneg v10 (show pl ≠ 0 by omega); omega⟩
  have nlt : (n : Int) < pl := by have := Int.emod_lt_of_pos v10 (show 0 < pl by omega); omega
  obtain ⟨fs, g1, g2, g3⟩ := lcP_ex (q := fun j_98 => ((((((((((mulS (.int 3) (.int (k : Int))).bind (addD (.int 9))).bind fun a_100 => addD a_100 j_98).bind (ixD (.list (ds.map PyData.int)))).bind fun a_102 => R.ok [a_102]).bind intD).bind fun a_103 => modD a_103 (.int 5)).bind fun a_104 => gtD a_104 (.int 1)).bind asB).bind fun b_105 => if b_105 = true then (((((((mulS (.int 3) (.int (k : Int))).bind (addD (.int 9))).bind fun a_107 => addD a_107 j_98).bind (ixD (.list (ds.map PyData.int)))).bind fun a_109 => .ok [a_109]).bind intD).bind fun a_110 => fdivD a_110 (.int 5)).bind fun a_111 => modD a_111 (.int 10) else .ok (.int 0)).sm) PyData.int PyData.int Dig (rng 0 (1 + n)) (by rw [rng_len]; omega) fun j hj => by
    have hj := mem_rng.mp hj
    obtain ⟨v, d, b⟩ := dr_ix hl ho (9 + 3 * (k : Int) + j) (by omega)
    have m3 : mulS (.int 3) (.int (k : Int)) = .ok (.int (3 * (k : Int))) := by rw [a_mulS, mul_l 3 _ (by decide)]
    simp only [m3, R.ok_bind, a_addI, d, iv, a_modI, a_gtI, a_asB]
    rw [chk_of (show decide ((0 : Int) < 5) = true from rfl)]
    simp only [R.ok_bind, a_gtI, a_asB]
    by_cases c : v % 5 > 1
    · rw [iteT (decide_eq_true c)]
      refine ⟨v / 5 % 10, by unfold Dig; omega, ?_⟩
      rw [show fdivD (.int v) (.int 5) = .ok (.int (v / 5)) from rfl]
      simp only [R.ok_bind, a_modI]
      rw [chk_of (show decide ((0 : Int) < 10) = true from rfl)]; rfl
    · rw [iteF (decide_eq_false c)]
      exact ⟨0, by unfold Dig; omega, rfl⟩
  rw [rng_len] at g1
  obtain ⟨ini, l, rfl, C⟩ := split_last (by omega) g2 (by omega)
  have go : ∀ X : R PD, ∀ next brk : PD → R PD, ((((lenD [.list l2]).bind fun a_114 => ltD a_114 (.int 5)).bind asB).bind fun b_115 => if b_115 = true then R.ok (.list [(.tuple [.int (1 + (k1 : Int)), .list ((ini ++ [l]).map PyData.int)])]) else .ok (.list [])).bind (addD (encRows (flatT 0 t))) = X → P__law_rows_l1 (.list (ds.map PyData.int)) (.int pl) (.int (k : Int)) (encRows (flatT 0 t)) next brk = X.bind next := fun X next brk hX => by
    unfold P__law_rows_l1
    rw [most_deep W.ok, hM, a_addI, R.ok_bind, d1, R.ok_bind, R.ok_bind, iv, R.ok_bind, R.ok_bind, a_modI, chk_of (decide_eq_true (by omega)), R.ok_bind, a_addI, R.ok_bind, hk0]
    rw [most_deep W.ok, hM] at e2
    rw [f1, R.ok_bind, R.ok_bind, e2, R.ok_bind, f2, R.ok_bind, R.ok_bind]
    rw [a_addI, R.ok_bind, d10, R.ok_bind, R.ok_bind, iv, R.ok_bind, a_modI, chk_of (decide_eq_true (by omega)), R.ok_bind, a_addI, R.ok_bind, hn]
    rw [show (1 : Int) + (n : Int) = ((1 + n : Nat) : Int) by omega, rg1_rng (by omega), R.ok_bind, g3, R.ok_bind, R.ok_bind, hX]
  rw [len_list, R.ok_bind, a_ltI, R.ok_bind, a_asB, R.ok_bind] at go
  have sp := spine_deep 4 k1 t.kids (by omega)
  by_cases c : ((l2.length : Nat) : Int) < 5
  · refine ⟨.nd t.ini t.l (addL k1 t.kids (.nd ini l [])), ⟨fun r hr => by
      rw [show (Tr.nd t.ini t.l (addL k1 t.kids (.nd ini l []))).kids = addL k1 t.kids (.nd ini l []) from rfl, flat_add k1 _ _ _ _ sp] at hr
      rcases List.mem_append.mp hr with hr | hr
      · exact W.wid r hr
      · rw [List.mem_singleton.mp hr]; show ((ini ++ [l]).length : Int) ≤ pl; omega, W.hd4, W.cd, ok_add k1 4 t.kids ini l W.ok (by omega) sp (by omega) C, ?_, by omega, fun _ => add_ne k1 _ _ sp⟩, fun next brk => ?_⟩
    · have := size_add k1 t.kids ini l sp
      have := sizeT_eq t
      rw [sizeT]; omega
    · refine (go (.ok (encRows (flatT 0 (.nd t.ini t.l (addL k1 t.kids (.nd ini l [])))))) next brk ?_).trans (R.ok_bind _ _)
      rw [iteT (decide_eq_true c), R.ok_bind]
      unfold encRows
      rw [a_addL, chk_of (decide_eq_true (by rw [List.length_map, flatT_len, big_eq]; simp; omega))]
      rw [flatT, flat_add k1 _ _ _ _ sp, flatT_eq, ← List.cons_append, show (0 : Int) + 1 + (k1 : Int) = 1 + (k1 : Int) by omega, List.map_append (f := encRow)]; rfl
  · have k0' : 0 < k := by
      rcases Nat.eq_zero_or_pos k with h | h
      · have hn := W.nil h
        rw [hn] at mb e3
        have : k1 = 0 := by
          have : deepL 4 ([] : List Tr) = 0 := rfl
          omega
        rw [this] at e3
        have : bro 0 ([] : List Tr) = 0 := rfl
        omega
      · exact h
    refine ⟨t, ⟨W.wid, W.hd4, W.cd, W.ok, by omega, by omega, fun _ => W.some k0'⟩, fun next brk => ?_⟩
    refine (go (.ok (encRows (flatT 0 t))) next brk ?_).trans (R.ok_bind _ _)
    rw [iteF (decide_eq_false c), R.ok_bind]
    unfold encRows
    rw [a_addL, List.append_nil, chk_of (decide_eq_true (by simp only [List.length_map, List.length_nil, flatT_len, big_eq]; omega))]
theorem law_rows_ok {ds : List Int} (hl : ds.length = 45) (ho : DrawOk ds) {pl : Int} (hp : 1 ≤ pl ∧ pl ≤ 5) {most : Int} (hm : 1 ≤ most ∧ most ≤ 8) : ∃ t n, Rw pl (n + 1) t ∧ n < 8 ∧ (n : Int) < most ∧ F__law_rows [.list (ds.map PyData.int), .int pl, .int most] = .ok (encRows (flatT 0 t)) := by
  obtain ⟨v0, d0, b0⟩ := dr_ix hl ho 0 (by omega)
  obtain ⟨v38, d38, b38⟩ := dr_ix hl ho 38 (by omega)
  obtain ⟨m, hm4⟩ : ∃ m : Nat, v38 % 4 = (m : Int) := ⟨(v38 % 4).toNat, by omega⟩
  obtain ⟨n, hn⟩ : ∃ n : Nat, v0 % most = (n : Int) := ⟨(v0 % most).toNat, by have := Int.emod_nonneg v0 (show most ≠ 0 by omega); omega⟩
  have nb : n < 8 := by have := Int.emod_lt_of_pos v0 (show 0 < most by omega); omega
  obtain ⟨fs, g1, g2, g3⟩ := lcP_ex (q := fun j_8 => (((((addD (.int 39) j_8).bind (ixD (.list (ds.map PyData.int)))).bind fun a_10 => R.ok [a_10]).bind intD).bind fun a_11 => modD a_11 (.int 10)).sm) PyData.int PyData.int Dig (rng 0 (1 + m)) (by rw [rng_len]; omega) fun j hj => by
    have hj := mem_rng.mp hj
    obtain ⟨v, d, b⟩ := dr_ix hl ho (39 + j) (by omega)
    refine ⟨v % 10, by unfold Dig; omega, ?_⟩
    rw [a_addI, R.ok_bind, d, R.ok_bind, R.ok_bind, iv, R.ok_bind, a_modI, chk_of (show decide ((0 : Int) < 10) = true from rfl)]; rfl
  rw [rng_len] at g1
  obtain ⟨ini, l, rfl, C⟩ := split_last (by omega) g2 (by omega)
  obtain ⟨s', ⟨t, W, rfl⟩, e⟩ := forK_invA (body := P__law_rows_l1 (.list (ds.map PyData.int)) (.int pl)) PyData.int (fun j s => ∃ t, Rw pl j t ∧ s = encRows (flatT 0 t)) (rng 0 (1 + n)) (s := encRows (flatT 0 (.nd ini l []))) ⟨.nd ini l [], ⟨fun r hr => (by rw [show (Tr.nd ini l []).kids = [] from rfl, flatL] at hr; cases hr), by rw [List.length_append, List.length_singleton] at g1; show ini.length ≤ 3; omega, C, okL_leaf 4, by rw [sizeT, sizeL]; omega, fun _ => rfl, by omega⟩, rfl⟩ fun j x s hj ⟨t, W, es⟩ => by
    have jl := (List.getElem?_eq_some_iff.mp hj).1
    rw [rng_len] at jl
    rw [rng_get jl] at hj
    have := Option.some.inj hj
    subst this
    subst es
    obtain ⟨t', W', h⟩ := rows_step hl ho hp (k := j) (by omega) W
    rw [Int.zero_add]
    exact ⟨_, ⟨t', W', rfl⟩, h⟩
  rw [rng_len, Nat.add_comm] at W
  refine ⟨t, n, W, nb, by have := Int.emod_lt_of_pos v0 (show 0 < most by omega); omega, ?_⟩
  rw [e__law_rows]; unfold P__law_rows
  rw [d38, R.ok_bind, R.ok_bind, iv, R.ok_bind, a_modI, chk_of (show decide ((0 : Int) < 4) = true from rfl), R.ok_bind, a_addI, R.ok_bind, hm4, show (1 : Int) + (m : Int) = ((1 + m : Nat) : Int) by omega, rg1_rng (by omega), R.ok_bind, g3]
  simp only [R.ok_bind, a_mkT, a_mkL, List.length_cons, List.length_nil]
  rw [chk_of (show decide (0 + 1 + 1 ≤ big) = true by simp [big_eq])]
  simp only [R.ok_bind, a_mkL, List.length_cons, List.length_nil]
  rw [chk_of (show decide (0 + 1 ≤ big) = true by simp [big_eq])]
  simp only [R.ok_bind, d0, iv, a_modI]
  rw [chk_of (decide_eq_true (by omega))]
  simp only [R.ok_bind, a_addI]
  rw [hn, show (1 : Int) + (n : Int) = ((1 + n : Nat) : Int) by omega, rg1_rng (by omega), R.ok_bind]
  have es : PyData.list [PyData.tuple [.int 0, .list ((ini ++ [l]).map PyData.int)]] = encRows (flatT 0 (.nd ini l [])) := by
    rw [flatT, flatL]; rfl
  rw [es, e]
end K52
namespace K52
open PySem PySem.Spec L2 DL
/-! ### told is due -/
theorem same_refl {d : PD} (h : plainOk d = true) (hd : d.depth ≤ 100) (hc : cost d ≤ 10000000) : F__law_same [d, d] = .ok (.bool true) := by
  rw [e__law_same]; unfold P__law_same
  rw [eq_refl' (plain_nod d h) hd, R.ok_bind, a_truB, R.ok_bind, if_pos rfl, repr_ok h hd hc, R.ok_bind, R.ok_bind, a_eqS]
  simp
theorem plain_int {i : Int} (h : -10000000 ≤ i ∧ i ≤ 10000000) : plainOk (.int i) = true := by
  rw [plainOk, decide_eq_true_eq]
  by_cases z : i.natAbs = 0
  · rw [z]; decide
  · rw [Nat.log2_lt z]
    have : (10000001 : Nat) ≤ 2 ^ 1920 := by decide +kernel
    omega
theorem same_int {i : Int} (h : -10000000 ≤ i ∧ i ≤ 10000000) : F__law_same [.int i, .int i] = .ok (.bool true) := same_refl (plain_int h) (by simp [PyData.depth]) (by simp [cost])
theorem same_cord {ini : List Int} {l : Int} (F : Fg ini l) : F__law_same [.str (cordS ini l), .str (cordS ini l)] = .ok (.bool true) := same_refl (cord_plain F) (by simp [PyData.depth]) (by have := cord_len F; rw [cost]; omega)
theorem plain_ints : ∀ ns : List Int, (∀ i ∈ ns, -10000000 ≤ i ∧ i ≤ 10000000) → plainOkAll (ns.map PyData.int) = true
  | [], _ => rfl
  | n :: ns, h => by
    rw [List.map_cons, plainOkAll, plain_int (h n List.mem_cons_self), plain_ints ns fun i hi => h i (List.mem_cons_of_mem _ hi)]; rfl
theorem cost_ints : ∀ ns : List Int, costAll (ns.map PyData.int) = 1921 * ns.length
  | [] => rfl
  | n :: ns => by rw [List.map_cons, costAll, cost_ints ns, cost, List.length_cons]; omega
theorem depth_ints (ns : List Int) : PyData.depthAll (ns.map PyData.int) ≤ 0 := depthAll_le _ 0 fun d hd => by
  obtain ⟨_, _, rfl⟩ := List.mem_map.mp hd
  exact Nat.le_refl _
/-- a path can be shown -/
theorem encP_ok {p : List Int} (h : ∀ i ∈ p, -10000000 ≤ i ∧ i ≤ 10000000) (hl : p.length ≤ 20) : plainOk (encP p) = true ∧ (encP p).depth ≤ 1 ∧ cost (encP p) ≤ 40000 := by
  refine ⟨by unfold encP; rw [plainOk]; exact plain_ints p h, ?_, ?_⟩
  · have := depth_ints p
    unfold encP
    simp only [PyData.depth]; omega
  · unfold encP
    rw [cost, cost_ints, List.length_map]; omega
theorem plain_map {α : Type} (f : α → PD) : ∀ xs : List α, (∀ x ∈ xs, plainOk (f x) = true) → plainOkAll (xs.map f) = true
  | [], _ => rfl
  | x :: xs, h => by
    rw [List.map_cons, plainOkAll, h x List.mem_cons_self, plain_map f xs fun y hy => h y (List.mem_cons_of_mem _ hy)]; rfl
theorem cost_map {α : Type} (f : α → PD) (B : Nat) : ∀ xs : List α, (∀ x ∈ xs, cost (f x) ≤ B) → costAll (xs.map f) ≤ B * xs.length
  | [], _ => by simp [costAll]
  | x :: xs, h => by
    have h1 := h x List.mem_cons_self
    have h2 := cost_map f B xs fun y hy => h y (List.mem_cons_of_mem _ hy)
    rw [List.map_cons, costAll, List.length_cons, Nat.mul_add]; omega
theorem depth_map {α : Type} (f : α → PD) (B : Nat) (xs : List α) (h : ∀ x ∈ xs, (f x).depth ≤ B) : PyData.depthAll (xs.map f) ≤ B := depthAll_le _ B fun d hd => by
  obtain ⟨x, hx, rfl⟩ := List.mem_map.mp hd
  exact h x hx
theorem same_paths {ps : List (List Int)} (h : ∀ p ∈ ps, p.length ≤ 20 ∧ ∀ i ∈ p, -10000000 ≤ i ∧ i ≤ 10000000) (hl : ps.length ≤ 100) : F__law_same [.tuple (ps.map encP), .tuple (ps.map encP)] = .ok (.bool true) := by
  refine same_refl ?_ ?_ ?_
  · rw [plainOk]
    exact plain_map encP ps fun p hp => (encP_ok (h p hp).2 (h p hp).1).1
  · have := depth_map encP 1 ps fun p hp => (encP_ok (h p hp).2 (h p hp).1).2.1
    simp only [PyData.depth]; omega
  · have := cost_map encP 40000 ps fun p hp => (encP_ok (h p hp).2 (h p hp).1).2.2
    rw [cost, List.length_map]; omega
theorem tree_shown : ∀ (D : Nat) (t : Tr), Fg t.ini t.l → okL D t.kids → plainOk (encT t) = true ∧ (encT t).depth ≤ 2 * D + 2 ∧ cost (encT t) + 2 ≤ 640 * sizeT t
  | D, t, F, h => by
    have hk : ∀ u ∈ t.kids, plainOk (encT u) = true ∧ (encT u).depth ≤ 2 * D ∧ cost (encT u) + 2 ≤ 640 * sizeT u := by
      match D, h with
      | 0, h =>
        have e : t.kids = [] := h
        rw [e]; intro u hu; cases hu
      | D + 1, h =>
        intro u hu
        obtain ⟨C, ok⟩ := h.2 u hu
        obtain ⟨a, b, c⟩ := tree_shown D u C.toFg ok
        exact ⟨a, by omega, c⟩
    have hc : ∀ ks : List Tr, (∀ u ∈ ks, cost (encT u) + 2 ≤ 640 * sizeT u) → costAll (ks.map encT) + 2 * ks.length ≤ 640 * sizeL ks := fun ks => by
      induction ks with
      | nil => intro _; simp [costAll]
      | cons u us ih =>
        intro h
        have h1 := h u List.mem_cons_self
        have h2 := ih fun x hx => h x (List.mem_cons_of_mem _ hx)
        rw [List.map_cons, costAll, sizeL, List.length_cons]; omega
    have c1 := hc t.kids fun u hu => (hk u hu).2.2
    have d1 := depth_map encT (2 * D) t.kids fun u hu => (hk u hu).2.1
    have cl := cord_len F
    have st := sizeT_eq t
    rw [encT_eq]
    refine ⟨?_, ?_, ?_⟩
    · rw [plainOk, plainOkAll, cord_plain F, plainOkAll, plainOk, plain_map encT t.kids fun u hu => (hk u hu).1]; rfl
    · simp only [PyData.depth, PyData.depthAll]; omega
    · rw [cost, costAll, cost, costAll, cost, costAll, List.length_map, List.length_cons, List.length_cons, List.length_nil]; omega
theorem same_tree {D : Nat} {t : Tr} (F : Fg t.ini t.l) (h : okL D t.kids) (hD : D ≤ 20) (hs : sizeT t ≤ 100) : F__law_same [encT t, encT t] = .ok (.bool true) := by
  obtain ⟨a, b, c⟩ := tree_shown D t F h
  exact same_refl a (by omega) (by omega)
/-! ### numbers -/
theorem numOf_b : ∀ (fs : List Int) (n : Int), 0 ≤ n → (∀ f ∈ fs, Dig f) → n ≤ fs.foldl (fun n f => 10 * n + f) n ∧ fs.foldl (fun n f => 10 * n + f) n + 1 ≤ (n + 1) * (10 ^ fs.length : Nat)
  | [], n, _, _ => by simp
  | f :: fs, n, hn, h => by
    have hf := h f List.mem_cons_self
    unfold Dig at hf
    obtain ⟨a, b⟩ := numOf_b fs (10 * n + f) (by omega) fun x hx => h x (List.mem_cons_of_mem _ hx)
    rw [List.foldl_cons, List.length_cons]
    refine ⟨by omega, Int.le_trans b ?_⟩
    have e : (n + 1) * ((10 ^ (fs.length + 1) : Nat) : Int) = (10 * n + 10) * ((10 ^ fs.length : Nat) : Int) := by
      rw [Nat.pow_succ]; push_cast; rw [Int.mul_comm (10 ^ fs.length : Int) 10, ← Int.mul_assoc]; congr 1; omega
    rw [e]
    exact Int.mul_le_mul_of_nonneg_right (by omega) (Int.natCast_nonneg _)
theorem cord_num {ini : List Int} {l : Int} (C : Cd ini l) : 0 ≤ numOf (ini ++ [l]) ∧ numOf (ini ++ [l]) ≤ 99999 := by
  have := numOf_b (ini ++ [l]) 0 (by decide) fun f hf => by
    rcases List.mem_append.mp hf with hf | hf
    · exact C.dig f hf
    · rw [List.mem_singleton.mp hf]; exact C.las
  have h4 := C.four
  have hl : (ini ++ [l]).length ≤ 5 := by rw [List.length_append, List.length_singleton]; omega
  have hp : 10 ^ (ini ++ [l]).length ≤ 10 ^ 5 := Nat.pow_le_pow_right (by decide) hl
  unfold numOf
  have e5 : (10 : Nat) ^ 5 = 100000 := by decide
  rw [e5] at hp
  omega
theorem rows_num : ∀ (D : Nat) (t : Tr) (d : Int), Cd t.ini t.l → okL D t.kids → ∀ r ∈ flatT d t, 0 ≤ rnum r ∧ rnum r ≤ 99999
  | D, t, d, C, h, r, hr => by
    rw [flatT_eq] at hr
    rcases List.mem_cons.mp hr with rfl | hr
    · exact cord_num C
    · match D, h with
      | 0, h =>
        have e : t.kids = [] := h
        rw [e, flatL] at hr; cases hr
      | D + 1, h =>
        have : ∀ ks : List Tr, (∀ u ∈ ks, Cd u.ini u.l ∧ okL D u.kids) → ∀ r ∈ flatL (d + 1) ks, 0 ≤ rnum r ∧ rnum r ≤ 99999 := fun ks => by
          induction ks with
          | nil => intro _ r hr; rw [flatL] at hr; cases hr
          | cons u us ih =>
            intro h r hr
            rw [flatL] at hr
            rcases List.mem_append.mp hr with hr | hr
            · exact rows_num D u (d + 1) (h u List.mem_cons_self).1 (h u List.mem_cons_self).2 r hr
            · exact ih (fun x hx => h x (List.mem_cons_of_mem _ hx)) r hr
        exact this t.kids h.2 r hr
theorem sum_b (B : Int) : ∀ xs : List Int, (∀ x ∈ xs, 0 ≤ x ∧ x ≤ B) → 0 ≤ xs.sum ∧ xs.sum ≤ B * (xs.length : Int)
  | [], _ => by simp
  | x :: xs, h => by
    have h1 := h x List.mem_cons_self
    obtain ⟨a, b⟩ := sum_b B xs fun y hy => h y (List.mem_cons_of_mem _ hy)
    rw [List.sum_cons, List.length_cons]
    have : B * ((xs.length + 1 : Nat) : Int) = B * (xs.length : Int) + B := by push_cast; rw [Int.mul_add, Int.mul_one]
    omega
/-! ### lists by their places -/
theorem map_places {α : Type} (dd : α) (xs : List α) : (rng 0 xs.length).map (fun j => xs.getD j.toNat dd) = xs := by
  refine List.ext_getElem? fun i => ?_
  rw [List.getElem?_map]
  by_cases h : i < xs.length
  · rw [rng_get h, Option.map_some, List.getElem?_eq_getElem h, show ((0 : Int) + (i : Int)).toNat = i by omega, List.getD_eq_getElem?_getD, List.getElem?_eq_getElem h]; rfl
  · rw [List.getElem?_eq_none (by rw [rng_len]; omega), List.getElem?_eq_none (by omega)]; rfl
theorem map_mid {α : Type} (dd : α) (A M B : List α) : (rng (A.length : Int) M.length).map (fun j => (A ++ M ++ B).getD j.toNat dd) = M := by
  refine List.ext_getElem? fun i => ?_
  rw [List.getElem?_map]
  by_cases h : i < M.length
  · rw [rng_get h, Option.map_some, List.getElem?_eq_getElem h, show ((A.length : Int) + (i : Int)).toNat = A.length + i by omega, List.getD_eq_getElem?_getD, List.append_assoc, List.getElem?_append_right (by omega), List.getElem?_append_left (by omega), show A.length + i - A.length = i by omega, List.getElem?_eq_getElem h]; rfl
  · rw [List.getElem?_eq_none (by rw [rng_len]; omega), List.getElem?_eq_none (by omega)]; rfl
theorem filter_mid {α : Type} (dd : α) (f : α → Bool) (A M B : List α) (hA : ∀ x ∈ A, f x = false) (hM : ∀ x ∈ M, f x = true) (hB : ∀ x ∈ B, f x = false) : (rng 0 (A ++ M ++ B).length).filter (fun j => f ((A ++ M ++ B).getD j.toNat dd)) = rng (A.length : Int) M.length := by
  rw [List.length_append, List.length_append, rng_add, rng_add, List.filter_append, List.filter_append, Int.zero_add, Int.zero_add]
  have g : ∀ i : Nat, (A ++ M ++ B).getD i dd = ((A ++ M ++ B)[i]?).getD dd := fun i => List.getD_eq_getElem?_getD
  have n1 : (rng 0 A.length).filter (fun j => f ((A ++ M ++ B).getD j.toNat dd)) = [] := List.filter_eq_nil_iff.mpr fun j hj => by
    have hj := mem_rng.mp hj
    have hj2 : j.toNat < A.length := by omega
    rw [g, List.append_assoc, List.getElem?_append_left hj2, List.getElem?_eq_getElem hj2, Option.getD_some, hA _ (List.getElem_mem hj2)]; decide
  have n2 : (rng (A.length : Int) M.length).filter (fun j => f ((A ++ M ++ B).getD j.toNat dd)) = rng (A.length : Int) M.length := List.filter_eq_self.mpr fun j hj => by
    have hj := mem_rng.mp hj
    have hj2 : j.toNat - A.length < M.length := by omega
    rw [g, List.append_assoc, List.getElem?_append_right (by omega), List.getElem?_append_left hj2, List.getElem?_eq_getElem hj2, Option.getD_some]
    exact hM _ (List.getElem_mem hj2)
  have n3 : (rng (((A.length + M.length : Nat)) : Int) B.length).filter (fun j => f ((A ++ M ++ B).getD j.toNat dd)) = [] := List.filter_eq_nil_iff.mpr fun j hj => by
    have hj := mem_rng.mp hj
    have hj2 : j.toNat - (A ++ M).length < B.length := by rw [List.length_append]; omega
    rw [g, List.getElem?_append_right (by rw [List.length_append]; omega), List.getElem?_eq_getElem hj2, Option.getD_some, hB _ (List.getElem_mem hj2)]; decide
  rw [n1, n2, n3, List.nil_append, List.append_nil]
end K52
namespace K52
open PySem PySem.Spec L2 DL
theorem Rw.grp {pl : Int} {n : Nat} {t : Tr} (W : Rw pl (n + 1) t) (hn : n < 8) : Grp t := ⟨W.cd, W.ok, W.some (by omega), by
  have := W.size
  have := sizeT_eq t
  rw [paths_size 4 t.kids [] W.ok]; omega⟩
/-- what stands at place k of all -/
structure Place (t : Tr) (k : Nat) (q : List Int) (r : Tr) (D' : Nat) : Prop where
  sp : Sp k t q r
  deep : 4 = q.length + D'
  ok : okL D' r.kids
  cd : Cd r.ini r.l
  pth : Pth q
  mem : q ∈ allP t
  at' : (allP t)[k]? = some q
  row : (flatT 0 t)[k]? = some ((q.length : Int), r.ini ++ [r.l])
theorem place_ex {t : Tr} (C : Cd t.ini t.l) (h : okL 4 t.kids) {k : Nat} (hk : k < sizeT t) : ∃ q r D', Place t k q r D' := by
  obtain ⟨q, r, s⟩ := spot_ex t k hk
  obtain ⟨D', d1, d2, d3, d4⟩ := s.deep 4 h
  obtain ⟨D2, PA, PB, e1, e2, e3, _⟩ := s.paths 4 [] h
  obtain ⟨A, B, f1, f2, f3⟩ := s.rows 0
  have ea : (allP t)[k]? = some q := by
    unfold allP
    rw [e3, List.append_assoc, List.getElem?_append_right (by omega), e2, Nat.sub_self]; rfl
  refine ⟨q, r, D', ⟨s, d1, d2, ?_, ⟨by omega, fun i hi => by have := d4 i hi; omega⟩, List.mem_of_getElem? ea, ea, ?_⟩⟩
  · by_cases c : q = []
    · subst c
      have := s.part
      cases this
      exact C
    · exact d3 c
  · rw [f2, List.append_assoc, List.getElem?_append_right (by omega), f1, Nat.sub_self, flatT_eq]
    simp
theorem path_all {t : Tr} (C : Cd t.ini t.l) (h : okL 4 t.kids) (hs : sizeT t ≤ 900) {k : Nat} {q : List Int} {r : Tr} {D' : Nat} (P : Place t k q r D') : F__law_path [encRows (flatT 0 t), .int (k : Int)] = .ok (encP q) := by
  have hl := P.sp.lt
  have := P.sp.path (full_flat t (by omega)) 0 0 [] (fun i hi => by rw [Nat.zero_add]) (by rw [flatT_len]; omega) .zero
  rw [Nat.zero_add, List.nil_append] at this
  exact this.eq (by omega) (by have := P.pth.few; omega)
def nums9 (t : Tr) : List Int := (flatT 0 t).map rnum
/-- the rows that belong to a part -/
def whole9 (paths q : PD) (items : List PD) : R (List PD) := lcP items fun j_66 => ((((ixD paths j_66).bind fun a_67 => ((((R.ok q).bind fun a_68 => .ok [a_68]).bind lenD).bind optI).bind (slD a_67 none)).bind fun a_70 => (R.ok q).bind (eqD a_70)).bind asB).whn (.ok (some j_66))
theorem whole_ok {t : Tr} (h : okL 4 t.kids) (hs : sizeT t ≤ 900) {k : Nat} {q : List Int} {r : Tr} {D' : Nat} (P : Place t k q r D') : lcP ((rng 0 (sizeT t)).map PyData.int) (fun j_66 => ((((ixD (.list ((allP t).map encP)) j_66).bind fun a_67 => ((((R.ok (encP q)).bind fun a_68 => .ok [a_68]).bind lenD).bind optI).bind (slD a_67 none)).bind fun a_70 => (R.ok (encP q)).bind (eqD a_70)).bind asB).whn (.ok (some j_66))) = .ok ((rng (k : Int) (sizeT r)).map PyData.int) := by
  obtain ⟨D2, PA, PB, e1, e2, e3, e4, e5⟩ := P.sp.paths 4 [] h
  have ed : D2 = D' := by have := P.deep; omega
  subst ed
  rw [List.nil_append] at e3 e4 e5
  have el : allP t = PA ++ (q :: pathsL D2 r.kids q) ++ PB := e3
  have la : (allP t).length = sizeT t := by
    unfold allP
    rw [List.length_cons, paths_size 4 t.kids [] h, sizeT_eq t]; omega
  rw [lcP_fil PyData.int (fun j => decide (q <+: (allP t).getD j.toNat [])) (rng 0 (sizeT t)) (by rw [rng_len]; omega) fun j hj => by
    have hj := mem_rng.mp hj
    obtain ⟨m, rfl⟩ : ∃ m : Nat, j = (m : Int) := ⟨j.toNat, by omega⟩
    have hm : m < (allP t).length := by omega
    rw [ix_L encP (List.getElem?_eq_getElem hm), R.ok_bind, R.ok_bind, R.ok_bind, show lenD [encP q] = .ok (.int ((q.map PyData.int).length : Nat)) from rfl, R.ok_bind, optI_i, R.ok_bind, List.length_map, show slD (encP (allP t)[m]) none (some (q.length : Int)) = .ok (encP ((allP t)[m].take q.length)) from sl_takeT PyData.int _ _, R.ok_bind, R.ok_bind]
    rw [encP_tupI, eq_tupI, R.ok_bind, a_asB, Int.toNat_natCast, List.getD_eq_getElem?_getD, List.getElem?_eq_getElem hm, Option.getD_some]
    by_cases c : q <+: (allP t)[m]
    · have c2 := List.prefix_iff_eq_take.mp c
      rw [decide_eq_true c, decide_eq_true c2.symm]; rfl
    · rw [decide_eq_false c, decide_eq_false fun e => c (List.prefix_iff_eq_take.mpr e.symm)]; rfl]
  congr 2
  rw [← la, el, filter_mid [] (fun x => decide (q <+: x)) PA (q :: pathsL D2 r.kids q) PB (fun x hx => decide_eq_false (e4 x hx)) (fun x hx => by
    refine decide_eq_true ?_
    rcases List.mem_cons.mp hx with rfl | hx
    · exact List.prefix_refl _
    · obtain ⟨c, s, rfl⟩ := paths_pref _ _ _ _ hx
      exact List.prefix_append _ _) (fun x hx => decide_eq_false (e5 x hx)), e2, List.length_cons, paths_size D2 r.kids q P.ok, sizeT_eq r, Nat.add_comm]
theorem ix_nums {t : Tr} {j : Int} (h : 0 ≤ j ∧ j < (sizeT t : Int)) : ixD (.list ((nums9 t).map PyData.int)) (.int j) = .ok (.int ((nums9 t).getD j.toNat 0)) := by
  obtain ⟨m, rfl⟩ : ∃ m : Nat, j = (m : Int) := ⟨j.toNat, by omega⟩
  have hm : m < (nums9 t).length := by unfold nums9; rw [List.length_map, flatT_len]; omega
  rw [ix_L PyData.int (List.getElem?_eq_getElem hm), Int.toNat_natCast, List.getD_eq_getElem?_getD, List.getElem?_eq_getElem hm]; rfl
theorem part_sum {t : Tr} {k : Nat} {q : List Int} {r : Tr} {D' : Nat} (P : Place t k q r D') : ((rng (k : Int) (sizeT r)).map fun j => (nums9 t).getD j.toNat 0).sum = tot D' r := by
  obtain ⟨A, B, f1, f2, f3⟩ := P.sp.rows 0
  have e : nums9 t = A.map rnum ++ (flatT (0 + (q.length : Int)) r).map rnum ++ B.map rnum := by
    unfold nums9
    rw [f2, List.map_append, List.map_append]
  rw [e]
  have := map_mid 0 (A.map rnum) ((flatT (0 + (q.length : Int)) r).map rnum) (B.map rnum)
  rw [List.length_map, List.length_map, f1, flatT_len] at this
  rw [this, tot_rows r D' _ P.ok]
theorem tot_b {t : Tr} {D : Nat} (C : Cd t.ini t.l) (h : okL D t.kids) (hs : sizeT t ≤ 20) : -10000000 ≤ tot D t ∧ tot D t ≤ 10000000 := by
  rw [← tot_rows t D 0 h]
  have := sum_b 99999 ((flatT 0 t).map rnum) fun x hx => by
    obtain ⟨r, hr, rfl⟩ := List.mem_map.mp hx
    exact rows_num D t 0 C h r hr
  rw [List.length_map, flatT_len] at this
  omega
end K52
namespace K52
open PySem PySem.Spec L2 DL
/-! ### rows that tell how many hang below -/
abbrev XRow := Int × List Int × Nat
def unX (x : XRow) : Row := (x.1, x.2.1)
mutual
def flatXT : Int → Tr → List XRow
  | d, .nd i l k => (d, i ++ [l], k.length) :: flatXL (d + 1) k
def flatXL : Int → List Tr → List XRow
  | _, [] => []
  | d, t :: ts => flatXT d t ++ flatXL d ts
end
mutual
theorem unX_T : ∀ (d : Int) (t : Tr), (flatXT d t).map unX = flatT d t
  | d, .nd i l k => by rw [flatXT, flatT, List.map_cons, unX_L (d + 1) k]; rfl
theorem unX_L : ∀ (d : Int) (ts : List Tr), (flatXL d ts).map unX = flatL d ts
  | d, [] => by rw [flatXL, flatL]; rfl
  | d, t :: ts => by rw [flatXL, flatL, List.map_append, unX_T d t, unX_L d ts]
end
theorem flatXL_app (d : Int) : ∀ a b : List Tr, flatXL d (a ++ b) = flatXL d a ++ flatXL d b
  | [], b => by rw [flatXL]; rfl
  | t :: a, b => by rw [List.cons_append, flatXL, flatXL, flatXL_app d a b, List.append_assoc]
theorem flatXT_eq (d : Int) (t : Tr) : flatXT d t = (d, t.ini ++ [t.l], t.kids.length) :: flatXL (d + 1) t.kids := by
  cases t with
  | nd i l k => rw [flatXT]; rfl
theorem flatXT_len (d : Int) (t : Tr) : (flatXT d t).length = sizeT t := by
  have := congrArg List.length (unX_T d t)
  rwa [List.length_map, flatT_len] at this
theorem flatXL_len (d : Int) (ts : List Tr) : (flatXL d ts).length = sizeL ts := by
  have := congrArg List.length (unX_L d ts)
  rwa [List.length_map, flatL_len] at this
theorem Sp.rowsX {k : Nat} {t r : Tr} {q : List Int} (s : Sp k t q r) : ∀ d : Int, ∃ A B, A.length = k ∧ flatXT d t = A ++ flatXT (d + (q.length : Int)) r ++ B ∧ ∀ new, flatXT d (putT t q new) = A ++ flatXT (d + (q.length : Int)) new ++ B := by
  induction s with
  | here t => intro d; exact ⟨[], [], rfl, by simp, fun new => by simp [putT]⟩
  | down t a u b q r k e s ih =>
    intro d
    obtain ⟨A, B, e1, e2, e3⟩ := ih (d + 1)
    have ed : d + ((((a.length : Int) :: q).length : Nat) : Int) = d + 1 + (q.length : Int) := by rw [List.length_cons]; omega
    refine ⟨(d, t.ini ++ [t.l], t.kids.length) :: flatXL (d + 1) a ++ A, B ++ flatXL (d + 1) b, ?_, ?_, fun new => ?_⟩
    · rw [List.length_append, List.length_cons, flatXL_len]; omega
    · rw [flatXT_eq, e, flatXL_app, flatXL, e2, ed]; simp
    · have es : putT t ((a.length : Int) :: q) new = .nd t.ini t.l (a ++ putT u q new :: b) := by
        rw [putT, Int.toNat_natCast, e, List.getElem?_append_right (Nat.le_refl _), Nat.sub_self]
        simp
      rw [es, flatXT, flatXL_app, flatXL, e3, ed, e]; simp
theorem mem_XL {d : Int} {x : XRow} : ∀ {ts : List Tr}, x ∈ flatXL d ts ↔ ∃ t ∈ ts, x ∈ flatXT d t
  | [] => by rw [flatXL]; simp
  | t :: ts => by rw [flatXL, List.mem_append, mem_XL (ts := ts)]; simp
def CdR (fs : List Int) : Prop := ∃ ini l, fs = ini ++ [l] ∧ Cd ini l
theorem CdR.cd {ini : List Int} {l : Int} (h : CdR (ini ++ [l])) : Cd ini l := by
  obtain ⟨i, x, e, C⟩ := h
  have e1 := congrArg List.dropLast e
  have e2 := congrArg (fun z => z.getLastD 0) e
  simp only [List.dropLast_concat, List.getLastD_concat] at e1 e2
  subst e1; subst e2; exact C
/-- when hung cords are, by the rows -/
theorem okX : ∀ (D : Nat) (ks : List Tr) (d : Int), okL D ks ↔ (ks.length ≤ 5 ∧ ∀ x ∈ flatXL d ks, x.1 < d + (D : Int) ∧ x.2.2 ≤ 5 ∧ CdR x.2.1)
  | 0, ks, d => by
    constructor
    · intro h
      have e : ks = [] := h
      subst e
      exact ⟨by simp, fun x hx => by rw [flatXL] at hx; cases hx⟩
    · rintro ⟨_, h⟩
      cases ks with
      | nil => rfl
      | cons u us =>
        have := (h (d, u.ini ++ [u.l], u.kids.length) (by rw [flatXL, flatXT_eq]; simp)).1
        simp only at this
        omega
  | D + 1, ks, d => by
    constructor
    · rintro ⟨h5, hk⟩
      refine ⟨h5, fun x hx => ?_⟩
      obtain ⟨t, ht, hx⟩ := mem_XL.mp hx
      obtain ⟨C, ok⟩ := hk t ht
      obtain ⟨l5, ih⟩ := (okX D t.kids (d + 1)).mp ok
      rw [flatXT_eq] at hx
      rcases List.mem_cons.mp hx with rfl | hx
      · exact ⟨by simp only; omega, l5, ⟨_, _, rfl, C⟩⟩
      · have := ih x hx
        exact ⟨by omega, this.2⟩
    · rintro ⟨h5, hk⟩
      refine ⟨h5, fun t ht => ?_⟩
      have h0 := hk (d, t.ini ++ [t.l], t.kids.length) (mem_XL.mpr ⟨t, ht, by rw [flatXT_eq]; exact List.mem_cons_self⟩)
      refine ⟨h0.2.2.cd, (okX D t.kids (d + 1)).mpr ⟨h0.2.1, fun x hx => ?_⟩⟩
      have := hk x (mem_XL.mpr ⟨t, ht, by rw [flatXT_eq]; exact List.mem_cons_of_mem _ hx⟩)
      exact ⟨by omega, this.2⟩
/-! ### what follows behind a part -/
theorem Sp.at {k : Nat} {t r : Tr} {q : List Int} (s : Sp k t q r) (d : Int) : At (flatT d t) k (flatT (d + (q.length : Int)) r) := by
  obtain ⟨A, B, e1, e2, _⟩ := s.rows d
  intro i hi
  rw [e2, List.append_assoc, List.getElem?_append_right (by omega), List.getElem?_append_left (by omega)]
  congr 1; omega
theorem Sp.next {k : Nat} {t r : Tr} {q : List Int} (s : Sp k t q r) : ∀ d : Int, k + sizeT r = sizeT t ∨ (k + sizeT r < sizeT t ∧ dep (flatT d t) (k + sizeT r) ≤ d + (q.length : Int)) := by
  induction s with
  | here t => intro d; left; omega
  | down t a u b q r k e s ih =>
    intro d
    have sl := s.lt
    have st : sizeT t = 1 + sizeL a + sizeT u + sizeL b := by rw [sizeT_eq t, e, sizeL_app, sizeL]; omega
    have er : flatT d t = ((d, t.ini ++ [t.l]) :: flatL (d + 1) a) ++ (flatT (d + 1) u ++ flatL (d + 1) b) := by
      rw [flatT_eq, e, flatL_app, flatL]; simp
    have la : ((d, t.ini ++ [t.l]) :: flatL (d + 1) a).length = 1 + sizeL a := by rw [List.length_cons, flatL_len]; omega
    rcases ih (d + 1) with h | ⟨h1, h2⟩
    · cases b with
      | nil => left; rw [sizeL] at st; omega
      | cons v vs =>
        have hv : sizeL (v :: vs) = sizeT v + sizeL vs := by rw [sizeL]
        have vp := sizeT_pos v
        refine .inr ⟨by omega, ?_⟩
        unfold dep
        rw [er, List.getD_eq_getElem?_getD, List.getElem?_append_right (by omega), la, List.getElem?_append_right (by rw [flatT_len]; omega), flatT_len, show 1 + sizeL a + k + sizeT r - (1 + sizeL a) - sizeT u = 0 by omega, flatL, flatT_eq]
        simp only [List.cons_append, List.getElem?_cons_zero, Option.getD_some, List.length_cons]
        omega
    · refine .inr ⟨by omega, ?_⟩
      unfold dep at h2 ⊢
      rw [List.getD_eq_getElem?_getD] at h2
      rw [er, List.getD_eq_getElem?_getD, List.getElem?_append_right (by omega), la, List.getElem?_append_left (by rw [flatT_len]; omega), show 1 + sizeL a + k + sizeT r - (1 + sizeL a) = k + sizeT r by omega, List.length_cons]
      omega
/-- how many hang on a row -/
theorem sons_cnt {t r : Tr} {k : Nat} {q : List Int} (s : Sp k t q r) (hl : sizeT t ≤ 900) : ∃ l : List PD, lcP ((rng 1 (sizeT t - 1)).map PyData.int) (fun m => (((F__law_parent [encRows (flatT 0 t), m]).bind fun a => (R.ok (PyData.int (k : Int))).bind (eqD a)).bind asB).whn (.ok (some m))) = .ok l ∧ l.length = r.kids.length := by
  have hF := full_flat t (by omega)
  have sl := s.lt
  have sr := sizeT_eq r
  have hA := s.at 0
  rw [Int.zero_add, flatT_eq (q.length : Int) r] at hA
  have ho : dep (flatT 0 t) k = (q.length : Int) := hA.dep (i := 0) rfl
  have hk : At (flatT 0 t) (k + 1) (flatL ((q.length : Int) + 1) r.kids) := (show At (flatT 0 t) k ([((q.length : Int), r.ini ++ [r.l])] ++ flatL ((q.length : Int) + 1) r.kids) from hA).right
  have lr : (flatT 0 t).length = sizeT t := flatT_len 0 t
  have key : ∀ m j : Nat, m < sizeT t → Ab (flatT 0 t) m j → ((F__law_parent [encRows (flatT 0 t), .int (m : Int)]).bind fun a => (R.ok (PyData.int (k : Int))).bind (eqD a)).bind asB = .ok (decide (j = k)) := fun m j h A => by
    rw [parent_eq (by omega) (by omega) A, R.ok_bind, R.ok_bind, a_eqI, R.ok_bind, a_asB]
    congr 1
    by_cases c : j = k
    · rw [decide_eq_true c, decide_eq_true (by omega)]
    · rw [decide_eq_false c, decide_eq_false (by omega)]
  obtain ⟨l, e1, e2⟩ := heads_comp (q := fun m => (((F__law_parent [encRows (flatT 0 t), m]).bind fun a => (R.ok (PyData.int (k : Int))).bind (eqD a)).bind asB).whn (.ok (some m))) r.kids (k + 1) (fun x hx => by
    obtain ⟨p1, p2, p3⟩ := pos_ge hx
    obtain ⟨q1, q2⟩ := pos_dep hk x hx
    have xp := sizeT_pos x.2
    rw [key x.1 k (by omega) ⟨by omega, by omega, fun m m1 m2 => by
      have := hk.ge (k := m) (by omega) (by omega)
      omega⟩, decide_eq_true rfl, R.t_whn]) (fun m k1 k2 hx => by
    rcases aboveL r.kids ((q.length : Int) + 1) (k + 1) _ hk m k1 k2 with ⟨x, hx1, e⟩ | ⟨j, j1, j2⟩
    · exact absurd e (hx x hx1)
    · rw [key m j (by omega) j2, decide_eq_false (by omega), R.f_whn])
  refine ⟨l, ?_, e2⟩
  unfold lcP
  rw [chk_of (decide_eq_true (by rw [List.length_map, rng_len, big_eq]; omega))]
  have e0 : compP (fun m => (((F__law_parent [encRows (flatT 0 t), m]).bind fun a => (R.ok (PyData.int (k : Int))).bind (eqD a)).bind asB).whn (.ok (some m))) ((rng 1 k).map PyData.int) = .ok [] := compP_none _ fun dd hd => by
    obtain ⟨i, hi, rfl⟩ := List.mem_map.mp hd
    have hi := mem_rng.mp hi
    obtain ⟨m, rfl⟩ : ∃ m : Nat, i = (m : Int) := ⟨i.toNat, by omega⟩
    obtain ⟨j, A⟩ := hF.2 m (by omega) (by omega)
    have := A.lt
    rw [key m j (by omega) A, decide_eq_false (by omega), R.f_whn]
  have e3 : compP (fun m => (((F__law_parent [encRows (flatT 0 t), m]).bind fun a => (R.ok (PyData.int (k : Int))).bind (eqD a)).bind asB).whn (.ok (some m))) ((rng ((k + 1 + sizeL r.kids : Nat) : Int) (sizeT t - (k + sizeT r))).map PyData.int) = .ok [] := compP_none _ fun dd hd => by
    obtain ⟨i, hi, rfl⟩ := List.mem_map.mp hd
    have hi := mem_rng.mp hi
    obtain ⟨m, rfl⟩ : ∃ m : Nat, i = (m : Int) := ⟨i.toNat, by omega⟩
    obtain ⟨j, A⟩ := hF.2 m (by omega) (by omega)
    have hb : j ≠ k := fun e => by
      rw [e] at A
      rcases s.next 0 with he | ⟨he, he2⟩
      · omega
      · exact behind ho (by omega) (by omega) (show k + sizeT r ≤ m by omega) A
    rw [key m j (by omega) A, decide_eq_false hb, R.f_whn]
  rw [show sizeT t - 1 = k + (sizeL r.kids + (sizeT t - (k + sizeT r))) by omega, rng_add, rng_add, List.map_append, List.map_append]
  rw [show (1 : Int) + (k : Int) = ((k + 1 : Nat) : Int) by omega, show ((k + 1 : Nat) : Int) + (sizeL r.kids : Int) = ((k + 1 + sizeL r.kids : Nat) : Int) by omega]
  have := compP_app _ _ e0 (compP_app _ _ e1 e3)
  rwa [List.nil_append, List.append_nil] at this
end K52
namespace K52
open PySem PySem.Spec L2 DL
/-! ### where a part ends -/
theorem sl_mid {α : Type} (enc : α → PD) (xs : List α) {i j : Nat} (h : i ≤ j) (hj : j ≤ xs.length) : slD (.list (xs.map enc)) (some (i : Int)) (some (j : Int)) = .ok (.list (((xs.drop i).take (j - i)).map enc)) := by
  show R.ok (PyData.list (cutL _ _ _)) = _
  unfold cutL
  rw [HT.sIx_nat, HT.sIx_nat, List.length_map, Nat.min_eq_left hj, Nat.min_eq_left (show i ≤ xs.length by omega), List.map_take, List.map_drop]
theorem compP_ints {q : PD → R (Option PD)} (xs : List Int) (h : ∀ x ∈ xs, q (.int x) = .ok (some (.int x))) : compP q (xs.map PyData.int) = .ok (xs.map PyData.int) := by
  have := compP_all (q := q) PyData.int PyData.int id xs h
  rwa [List.map_id] at this
theorem end_ok {t r : Tr} {k : Nat} {q : List Int} (s : Sp k t q r) (hl : sizeT t ≤ 900) : ((addD (.int (k : Int)) (.int 1)).bind fun a_4 => ((((((addD (.int (k : Int)) (.int 1)).bind fun a_5 => (lenD [encRows (flatT 0 t)]).bind (rg2 a_5)).bind fun items_7 => lcP items_7 fun k_8 => (((((((((addD (.int (k : Int)) (.int 1)).bind optI).bind fun i_9 => ((addD k_8 (.int 1)).bind optI).bind (slD (encRows (flatT 0 t)) i_9)).bind itD).bind fun items_11 => lcP items_11 fun row_12 => ((ixD row_12 (.int 0)).bind fun a_13 => ((ixD (encRows (flatT 0 t)) (.int (k : Int))).bind fun a_14 => ixD a_14 (.int 0)).bind (gtD a_13)).sm).bind fun l_16 => .ok (.list l_16)).bind fun a_17 => .ok [a_17]).bind allD).bind tru).whn (.ok (some k_8))).bind fun l_18 => .ok (.list l_18)).bind fun a_19 => .ok [a_19]).bind lenD).bind (addD a_4)) = .ok (.int ((k + sizeT r : Nat) : Int)) := by
  have sl := s.lt
  have sr := sizeT_eq r
  have hA := s.at 0
  rw [Int.zero_add, flatT_eq (q.length : Int) r] at hA
  have ho : dep (flatT 0 t) k = (q.length : Int) := hA.dep (i := 0) rfl
  have hk : At (flatT 0 t) (k + 1) (flatL ((q.length : Int) + 1) r.kids) := (show At (flatT 0 t) k ([((q.length : Int), r.ini ++ [r.l])] ++ flatL ((q.length : Int) + 1) r.kids) from hA).right
  have lr : (flatT 0 t).length = sizeT t := flatT_len 0 t
  have lenR : lenD [encRows (flatT 0 t)] = .ok (.int (sizeT t : Nat)) := by
    show R.ok (PyData.int (((flatT 0 t).map encRow).length : Nat)) = _
    rw [List.length_map, flatT_len]
  obtain ⟨Q, hQ⟩ : ∃ Q : PD → R (Option PD), Q = fun k_8 => (((((((((addD (.int (k : Int)) (.int 1)).bind optI).bind fun i_9 => ((addD k_8 (.int 1)).bind optI).bind (slD (encRows (flatT 0 t)) i_9)).bind itD).bind fun items_11 => lcP items_11 fun row_12 => ((ixD row_12 (.int 0)).bind fun a_13 => ((ixD (encRows (flatT 0 t)) (.int (k : Int))).bind fun a_14 => ixD a_14 (.int 0)).bind (gtD a_13)).sm).bind fun l_16 => .ok (.list l_16)).bind fun a_17 => .ok [a_17]).bind allD).bind tru).whn (.ok (some k_8)) := ⟨_, rfl⟩
  have qv : ∀ m : Nat, k < m → m < sizeT t → Q (.int (m : Int)) = .ok (if (((flatT 0 t).drop (k + 1)).take (m - k)).all (fun x => decide (x.1 > (q.length : Int))) = true then some (.int (m : Int)) else none) := fun m m1 m2 => by
    rw [hQ]
    simp only
    rw [a_addI, R.ok_bind, show (k : Int) + 1 = ((k + 1 : Nat) : Int) by omega, optI_i, R.ok_bind, a_addI, R.ok_bind, show (m : Int) + 1 = ((m + 1 : Nat) : Int) by omega, optI_i, R.ok_bind, show slD (encRows (flatT 0 t)) (some ((k + 1 : Nat) : Int)) (some ((m + 1 : Nat) : Int)) = .ok (.list ((((flatT 0 t).drop (k + 1)).take (m + 1 - (k + 1))).map encRow)) from sl_mid encRow _ (by omega) (by omega), R.ok_bind, a_itL, R.ok_bind, show m + 1 - (k + 1) = m - k by omega]
    rw [lcP_all encRow PyData.bool (fun x => decide (x.1 > (q.length : Int))) _ (by rw [List.length_take]; omega) fun x _ => by
      rw [show ixD (encRow x) (.int 0) = .ok (.int x.1) from rfl, R.ok_bind, row_ix (by omega), ho, R.ok_bind, a_gtI]; rfl]
    rw [R.ok_bind, R.ok_bind, R.ok_bind, all_bools, R.ok_bind, a_truB, List.all_map, show (id ∘ fun x : Row => decide (x.1 > (q.length : Int))) = fun x : Row => decide (x.1 > (q.length : Int)) from rfl]
    cases (((flatT 0 t).drop (k + 1)).take (m - k)).all (fun x => decide (x.1 > (q.length : Int))) <;> rfl
  have getd : ∀ i : Nat, i < sizeT t → ∀ h : i < (flatT 0 t).length, (flatT 0 t)[i].1 = dep (flatT 0 t) i := fun i _ h => by
    unfold dep
    rw [List.getD_eq_getElem?_getD, List.getElem?_eq_getElem h]; rfl
  have e1 : compP Q ((rng ((k + 1 : Nat) : Int) (sizeL r.kids)).map PyData.int) = .ok ((rng ((k + 1 : Nat) : Int) (sizeL r.kids)).map PyData.int) := compP_ints _ fun x hx => by
    have hx := mem_rng.mp hx
    obtain ⟨m, rfl⟩ : ∃ m : Nat, x = (m : Int) := ⟨x.toNat, by omega⟩
    rw [qv m (by omega) (by omega), if_pos]
    rw [List.all_eq_true]
    intro y hy
    rw [decide_eq_true_eq]
    obtain ⟨i, hi, e⟩ := List.mem_iff_getElem.mp hy
    rw [List.length_take, List.length_drop] at hi
    rw [List.getElem_take, List.getElem_drop] at e
    have := hk.ge (k := k + 1 + i) (by omega) (by omega)
    rw [← e, getd _ (by omega)]; omega
  have e2 : compP Q ((rng ((k + 1 + sizeL r.kids : Nat) : Int) (sizeT t - (k + sizeT r))).map PyData.int) = .ok [] := compP_none _ fun dd hd => by
    obtain ⟨x, hx, rfl⟩ := List.mem_map.mp hd
    have hx := mem_rng.mp hx
    obtain ⟨m, rfl⟩ : ∃ m : Nat, x = (m : Int) := ⟨x.toNat, by omega⟩
    rw [qv m (by omega) (by omega), if_neg]
    rw [List.all_eq_true]
    intro h
    rcases s.next 0 with he | ⟨he, he2⟩
    · omega
    · have hm : (flatT 0 t)[k + sizeT r]'(by omega) ∈ ((flatT 0 t).drop (k + 1)).take (m - k) := by
        rw [List.mem_iff_getElem]
        exact ⟨sizeT r - 1, by rw [List.length_take, List.length_drop]; omega, by rw [List.getElem_take, List.getElem_drop]; congr 1; omega⟩
      have := h _ hm
      rw [decide_eq_true_eq, getd _ (by omega)] at this
      omega
  rw [← hQ, a_addI, R.ok_bind, R.ok_bind, lenR, R.ok_bind, rg2_ok (by omega) (by omega) (by omega), R.ok_bind]
  rw [show ((sizeT t : Int) - ((k : Int) + 1)).toNat = sizeL r.kids + (sizeT t - (k + sizeT r)) by omega, rng_add, List.map_append, show (k : Int) + 1 = ((k + 1 : Nat) : Int) by omega, show ((k + 1 : Nat) : Int) + (sizeL r.kids : Int) = ((k + 1 + sizeL r.kids : Nat) : Int) by omega]
  unfold lcP
  rw [chk_of (decide_eq_true (by rw [List.length_append, List.length_map, List.length_map, rng_len, rng_len, big_eq]; omega)), compP_app _ _ e1 e2, R.ok_bind, R.ok_bind, R.ok_bind, len_list, R.ok_bind, List.length_append, List.length_map, rng_len, List.length_nil, a_addI]
  congr 2
  omega
end K52
namespace K52
open PySem PySem.Spec L2 DL
/-! ### a part hung elsewhere -/
theorem split_cmp {α : Type} {a a' b b' : List α} {u u' : α} (e : a ++ u :: b = a' ++ u' :: b') : (∃ m, a = a' ++ u' :: m ∧ b' = m ++ u :: b) ∨ (a = a' ∧ u = u' ∧ b = b') ∨ (∃ m, a' = a ++ u :: m ∧ b = m ++ u' :: b') := by
  rcases List.append_eq_append_iff.mp e with ⟨c, h1, h2⟩ | ⟨c, h1, h2⟩
  · cases c with
    | nil =>
      rw [List.append_nil] at h1
      rw [List.nil_append] at h2
      obtain ⟨h3, h4⟩ := List.cons.inj h2
      exact .inr (.inl ⟨h1.symm, h3, h4⟩)
    | cons x c =>
      rw [List.cons_append] at h2
      obtain ⟨h3, h4⟩ := List.cons.inj h2
      subst h3
      exact .inr (.inr ⟨c, h1, h4⟩)
  · cases c with
    | nil =>
      rw [List.append_nil] at h1
      rw [List.nil_append] at h2
      obtain ⟨h3, h4⟩ := List.cons.inj h2
      exact .inr (.inl ⟨h1, h3.symm, h4.symm⟩)
    | cons x c =>
      rw [List.cons_append] at h2
      obtain ⟨h3, h4⟩ := List.cons.inj h2
      subst h3
      exact .inl ⟨c, h1, h4⟩
theorem Sp.sizeput {k : Nat} {t r : Tr} {q : List Int} (s : Sp k t q r) (new : Tr) : sizeT (putT t q new) + sizeT r = sizeT t + sizeT new := by
  obtain ⟨A, B, e1, e2, e3⟩ := s.rowsX 0
  have h1 := congrArg List.length e2
  have h2 := congrArg List.length (e3 new)
  simp only [List.length_append, flatXT_len] at h1 h2
  omega
theorem put_down (t : Tr) (a : List Tr) (u : Tr) (b : List Tr) (e : t.kids = a ++ u :: b) (q : List Int) (new : Tr) : putT t ((a.length : Int) :: q) new = .nd t.ini t.l (a ++ putT u q new :: b) := by
  rw [putT, Int.toNat_natCast, e, List.getElem?_append_right (Nat.le_refl _), Nat.sub_self]
  simp
/-- the spots that are no heads of the one that is hung on -/
theorem Sp.ins {k2 : Nat} {t r2 : Tr} {q2 : List Int} (s2 : Sp k2 t q2 r2) (x : Tr) : ∀ {k : Nat} {q : List Int} {r : Tr}, Sp k t q r → ¬ q <+: q2 → Sp (if k < k2 + sizeT r2 then k else k + sizeT x) (putT t q2 (.nd r2.ini r2.l (r2.kids ++ [x]))) q r := by
  induction s2 with
  | here t =>
    intro k q r s h
    have sl := s.lt
    have rp := sizeT_pos r
    rw [if_pos (by omega)]
    cases s with
    | here => exact absurd (List.prefix_refl _) h
    | down _ a u b q r k e s =>
      show Sp (1 + sizeL a + k) (.nd t.ini t.l (t.kids ++ [x])) _ _
      exact .down _ a u (b ++ [x]) q r k (by show t.kids ++ [x] = _; rw [e]; simp) s
  | down t a u b q2 r2 k2 e s2 ih =>
    intro k q r s h
    rw [put_down t a u b e]
    have sz := s2.sizeput (.nd r2.ini r2.l (r2.kids ++ [x]))
    have sn : sizeT (.nd r2.ini r2.l (r2.kids ++ [x])) = sizeT r2 + sizeT x := by
      rw [sizeT, sizeL_app, sizeL, sizeL, sizeT_eq r2]; omega
    have s2l := s2.lt
    cases s with
    | here => exact absurd List.nil_prefix h
    | down _ a' u' b' q' r' k' e' s' =>
      have sl := s'.lt
      have rp := sizeT_pos r
      rcases split_cmp (e'.symm.trans e) with ⟨m, h1, h2⟩ | ⟨h1, h2, h3⟩ | ⟨m, h1, h2⟩
      · subst h1 h2
        rw [sizeL_app, sizeL]
        have up := sizeT_pos u
        rw [if_neg (by omega)]
        have := Sp.down (.nd t.ini t.l (a ++ putT u q2 (.nd r2.ini r2.l (r2.kids ++ [x])) :: (m ++ u' :: b'))) (a ++ putT u q2 (.nd r2.ini r2.l (r2.kids ++ [x])) :: m) u' b' q' r k' (by show a ++ _ :: (m ++ u' :: b') = _; simp) s'
        rw [sizeL_app, sizeL] at this
        rw [show 1 + (sizeL a + (sizeT u + sizeL m)) + k' + sizeT x = 1 + (sizeL a + (sizeT (putT u q2 (.nd r2.ini r2.l (r2.kids ++ [x]))) + sizeL m)) + k' by omega]
        simpa using this
      · subst h1 h2 h3
        have hn : ¬ q' <+: q2 := fun hp => h (by rw [List.cons_prefix_cons]; exact ⟨rfl, hp⟩)
        have i := ih s' hn
        have := Sp.down (.nd t.ini t.l (a' ++ putT u' q2 (.nd r2.ini r2.l (r2.kids ++ [x])) :: b')) a' (putT u' q2 (.nd r2.ini r2.l (r2.kids ++ [x]))) b' q' r _ rfl i
        by_cases c : k' < k2 + sizeT r2
        · rw [if_pos c] at this
          rw [if_pos (by omega)]; exact this
        · rw [if_neg c] at this
          rw [if_neg (by omega), show 1 + sizeL a' + k' + sizeT x = 1 + sizeL a' + (k' + sizeT x) by omega]; exact this
      · subst h1 h2
        rw [sizeL_app, sizeL]
        rw [if_pos (by omega)]
        exact Sp.down (.nd t.ini t.l ((a' ++ u' :: m) ++ putT u q2 (.nd r2.ini r2.l (r2.kids ++ [x])) :: b)) a' u' (m ++ putT u q2 (.nd r2.ini r2.l (r2.kids ++ [x])) :: b) q' r k' (by show (a' ++ u' :: m) ++ _ :: b = _; simp) s'
/-- where a part hangs -/
theorem Sp.parent : ∀ (pi : List Int) (i : Int) {k : Nat} {t r : Tr}, Sp k t (pi ++ [i]) r → ∃ pp a b k', Sp k' t pi pp ∧ pp.kids = a ++ r :: b ∧ i = (a.length : Int) ∧ k = k' + 1 + sizeL a
  | [], i, k, t, r, s => by
    rw [List.nil_append] at s
    cases s with
    | down _ a u b q _ k0 e s =>
      cases s
      exact ⟨t, a, b, 0, .here t, e, rfl, by omega⟩
  | c :: pi, i, k, t, r, s => by
    rw [List.cons_append] at s
    cases s with
    | down _ a u b q _ k0 e s =>
      obtain ⟨pp, a2, b2, k', s', e2, ei, ek⟩ := Sp.parent pi i s
      exact ⟨pp, a2, b2, _, .down t a u b pi pp k' e s', e2, ei, by omega⟩
end K52
namespace K52
open PySem PySem.Spec L2 DL
/-! ### the group in which a part hangs elsewhere, by the rows -/
theorem okT {T : Tr} (hc : ∀ x ∈ flatXT 0 T, CdR x.2.1) : okL 4 T.kids ↔ ∀ x ∈ flatXT 0 T, x.1 < 5 ∧ x.2.2 ≤ 5 := by
  rw [okX 4 T.kids (0 + 1), flatXT_eq]
  rw [flatXT_eq] at hc
  constructor
  · rintro ⟨h5, h⟩ x hx
    rcases List.mem_cons.mp hx with rfl | hx
    · exact ⟨(by show (0 : Int) < 5; omega), h5⟩
    · have := h x hx
      exact ⟨by omega, this.2.1⟩
  · intro h
    refine ⟨(h _ List.mem_cons_self).2, fun x hx => ?_⟩
    have := h x (List.mem_cons_of_mem _ hx)
    exact ⟨by omega, this.2, hc x (List.mem_cons_of_mem _ hx)⟩
theorem partX {r : Tr} {D : Nat} (C : Cd r.ini r.l) (h : okL D r.kids) (d : Int) : ∀ x ∈ flatXT d r, x.2.2 ≤ 5 ∧ CdR x.2.1 := fun x hx => by
  obtain ⟨h5, hk⟩ := (okX D r.kids (d + 1)).mp h
  rw [flatXT_eq] at hx
  rcases List.mem_cons.mp hx with rfl | hx
  · exact ⟨h5, ⟨_, _, rfl, C⟩⟩
  · have := hk x hx
    exact ⟨this.2.1, this.2.2⟩
theorem Sp.headeq {k : Nat} {t r : Tr} {q : List Int} (s : Sp k t q r) {new : Tr} (h1 : new.ini = r.ini) (h2 : new.l = r.l) : (putT t q new).ini = t.ini ∧ (putT t q new).l = t.l := by
  cases s with
  | here => exact ⟨h1, h2⟩
  | down _ a u b q2 _ k2 e s =>
    rw [put_down t a u b e]
    exact ⟨rfl, rfl⟩
structure Mv (t r r2 : Tr) (k k2 : Nat) (pi q2 : List Int) (i : Int) (N1 pp N2 : Tr) (a b : List Tr) : Prop where
  n1 : N1 = putT t q2 (.nd r2.ini r2.l (r2.kids ++ [r]))
  part : partAt N1 pi = some pp
  kids : pp.kids = a ++ r :: b
  num : i = (a.length : Int)
  n2 : N2 = putT N1 pi (.nd pp.ini pp.l (a ++ b))
  size1 : sizeT N1 = sizeT t + sizeT r
  size2 : sizeT N2 = sizeT t
  rows1 : flatT 0 N1 = (flatT 0 t).take (k2 + sizeT r2) ++ flatT ((q2.length : Int) + 1) r ++ (flatT 0 t).drop (k2 + sizeT r2)
  rows2 : flatT 0 N2 = (flatT 0 N1).take (if k < k2 + sizeT r2 then k else k + sizeT r) ++ (flatT 0 N1).drop ((if k < k2 + sizeT r2 then k else k + sizeT r) + sizeT r)
  cds : ∀ x ∈ flatXT 0 N2, CdR x.2.1
  ini : N2.ini = t.ini
  las : N2.l = t.l
  sum : ((flatT 0 N2).map rnum).sum = ((flatT 0 t).map rnum).sum
  few : ∀ (m : Nat) (x : XRow), (flatXT 0 N2)[m]? = some x → m ≠ (if k2 < k then k2 else k2 - sizeT r) → x.2.2 ≤ 5
theorem moved {t r r2 : Tr} {k k2 D D2 : Nat} {pi q2 : List Int} {i : Int} (s : Sp k t (pi ++ [i]) r) (s2 : Sp k2 t q2 r2) (hn : ¬ (pi ++ [i]) <+: q2) (hx : ∀ x ∈ flatXT 0 t, x.2.2 ≤ 5 ∧ CdR x.2.1) (C : Cd r.ini r.l) (ok : okL D r.kids) : ∃ N1 pp N2 a b, Mv t r r2 k k2 pi q2 i N1 pp N2 a b := by
  obtain ⟨N1, hN1⟩ : ∃ N1, N1 = putT t q2 (.nd r2.ini r2.l (r2.kids ++ [r])) := ⟨_, rfl⟩
  have s1 := s2.ins r s hn
  rw [← hN1] at s1
  obtain ⟨pp, a, b, k', sp, ek, ei, ek1⟩ := Sp.parent pi i s1
  obtain ⟨k1, hk1⟩ : ∃ k1, k1 = if k < k2 + sizeT r2 then k else k + sizeT r := ⟨_, rfl⟩
  rw [← hk1] at ek1 s1
  obtain ⟨N2, hN2⟩ : ∃ N2, N2 = putT N1 pi (.nd pp.ini pp.l (a ++ b)) := ⟨_, rfl⟩
  obtain ⟨A, B, x1, x2, x3⟩ := s2.rowsX 0
  obtain ⟨A', B', y1, y2, y3⟩ := sp.rowsX 0
  have e1 : flatXT 0 N1 = A ++ (0 + (q2.length : Int), r2.ini ++ [r2.l], r2.kids.length + 1) :: (flatXL (0 + (q2.length : Int) + 1) r2.kids ++ flatXT (0 + (q2.length : Int) + 1) r ++ B) := by
    rw [hN1, x3, flatXT, flatXL_app, flatXL, flatXL, List.length_append, List.length_singleton]; simp
  have e0 : flatXT 0 t = A ++ (0 + (q2.length : Int), r2.ini ++ [r2.l], r2.kids.length) :: (flatXL (0 + (q2.length : Int) + 1) r2.kids ++ B) := by
    rw [x2, flatXT_eq]; simp
  have f1 : flatXT 0 N1 = A' ++ (0 + (pi.length : Int), pp.ini ++ [pp.l], pp.kids.length) :: (flatXL (0 + (pi.length : Int) + 1) a ++ flatXT (0 + (pi.length : Int) + 1) r ++ (flatXL (0 + (pi.length : Int) + 1) b ++ B')) := by
    rw [y2, flatXT_eq, ek, flatXL_app, flatXL]; simp
  have f2 : flatXT 0 N2 = A' ++ (0 + (pi.length : Int), pp.ini ++ [pp.l], (a ++ b).length) :: (flatXL (0 + (pi.length : Int) + 1) a ++ (flatXL (0 + (pi.length : Int) + 1) b ++ B')) := by
    rw [hN2, y3, flatXT, flatXL_app]; simp
  have sz1 : sizeT N1 = sizeT t + sizeT r := by
    have h1 := congrArg List.length e1
    have h0 := congrArg List.length e0
    simp only [List.length_append, List.length_cons, flatXT_len, flatXL_len] at h1 h0
    omega
  have sz2 : sizeT N2 = sizeT t := by
    have h1 := congrArg List.length f1
    have h2 := congrArg List.length f2
    simp only [List.length_append, List.length_cons, flatXT_len, flatXL_len] at h1 h2
    omega
  have u0 : flatT 0 t = A.map unX ++ (0 + (q2.length : Int), r2.ini ++ [r2.l]) :: (flatL (0 + (q2.length : Int) + 1) r2.kids ++ B.map unX) := by
    rw [← unX_T, e0, List.map_append, List.map_cons, List.map_append, unX_L]; rfl
  have u1 : flatT 0 N1 = A.map unX ++ (0 + (q2.length : Int), r2.ini ++ [r2.l]) :: (flatL (0 + (q2.length : Int) + 1) r2.kids ++ flatT (0 + (q2.length : Int) + 1) r ++ B.map unX) := by
    rw [← unX_T, e1, List.map_append, List.map_cons, List.map_append, List.map_append, unX_L, unX_T]; rfl
  have v1 : flatT 0 N1 = A'.map unX ++ (0 + (pi.length : Int), pp.ini ++ [pp.l]) :: (flatL (0 + (pi.length : Int) + 1) a ++ flatT (0 + (pi.length : Int) + 1) r ++ (flatL (0 + (pi.length : Int) + 1) b ++ B'.map unX)) := by
    rw [← unX_T, f1, List.map_append, List.map_cons, List.map_append, List.map_append, List.map_append, unX_L, unX_L, unX_T]; rfl
  have v2 : flatT 0 N2 = A'.map unX ++ (0 + (pi.length : Int), pp.ini ++ [pp.l]) :: (flatL (0 + (pi.length : Int) + 1) a ++ (flatL (0 + (pi.length : Int) + 1) b ++ B'.map unX)) := by
    rw [← unX_T, f2, List.map_append, List.map_cons, List.map_append, List.map_append, unX_L, unX_L]; rfl
  have sr2 := sizeT_eq r2
  have goodA : ∀ x ∈ A, x.2.2 ≤ 5 ∧ CdR x.2.1 := fun x h => hx x (by rw [e0]; simp [h])
  have goodF : ∀ x ∈ flatXL (0 + (q2.length : Int) + 1) r2.kids, x.2.2 ≤ 5 ∧ CdR x.2.1 := fun x h => hx x (by rw [e0]; exact List.mem_append.mpr (.inr (List.mem_cons_of_mem _ (List.mem_append.mpr (.inl h)))))
  have goodB : ∀ x ∈ B, x.2.2 ≤ 5 ∧ CdR x.2.1 := fun x h => hx x (by rw [e0]; simp [h])
  have goodH := hx (0 + (q2.length : Int), r2.ini ++ [r2.l], r2.kids.length) (by rw [e0]; simp)
  have goodO := partX C ok (0 + (q2.length : Int) + 1)
  have L1 : ∀ (j : Nat) (y : XRow), (flatXT 0 N1)[j]? = some y → CdR y.2.1 ∧ (j ≠ k2 → y.2.2 ≤ 5) ∧ y.2.2 ≤ 6 := fun j y h => by
    rw [e1] at h
    by_cases c : j < A.length
    · rw [List.getElem?_append_left c] at h
      have := goodA y (List.mem_of_getElem? h)
      exact ⟨this.2, fun _ => this.1, by omega⟩
    · rw [List.getElem?_append_right (by omega)] at h
      by_cases c2 : j = k2
      · rw [show j - A.length = 0 by omega, List.getElem?_cons_zero] at h
        have := Option.some.inj h
        subst this
        exact ⟨goodH.2, fun h => absurd c2 h, by have := goodH.1; simp only at this ⊢; omega⟩
      · obtain ⟨n, hn⟩ : ∃ n, j - A.length = n + 1 := ⟨j - A.length - 1, by omega⟩
        rw [hn, List.getElem?_cons_succ] at h
        have hm := List.mem_of_getElem? h
        have : y.2.2 ≤ 5 ∧ CdR y.2.1 := by
          rcases List.mem_append.mp hm with hm | hm
          · rcases List.mem_append.mp hm with hm | hm
            · exact goodF y hm
            · exact goodO y hm
          · exact goodB y hm
        exact ⟨this.2, fun _ => this.1, by omega⟩
  have lA : A'.length = k' := y1
  have lF : (flatXL (0 + (pi.length : Int) + 1) a).length = sizeL a := flatXL_len _ _
  have lO : (flatXT (0 + (pi.length : Int) + 1) r).length = sizeT r := flatXT_len _ _
  have L2 : ∀ (m : Nat) (x : XRow), (flatXT 0 N2)[m]? = some x → ∃ j y, (flatXT 0 N1)[j]? = some y ∧ x.2.1 = y.2.1 ∧ x.2.2 ≤ y.2.2 ∧ ((m < k1 ∧ j = m) ∨ (k1 ≤ m ∧ j = m + sizeT r)) := fun m x h => by
    rw [f2] at h
    by_cases c : m < A'.length
    · rw [List.getElem?_append_left c] at h
      exact ⟨m, x, by rw [f1, List.getElem?_append_left c]; exact h, rfl, Nat.le_refl _, .inl ⟨by omega, rfl⟩⟩
    · rw [List.getElem?_append_right (by omega)] at h
      by_cases c2 : m = A'.length
      · rw [show m - A'.length = 0 by omega, List.getElem?_cons_zero] at h
        have := Option.some.inj h
        subst this
        refine ⟨m, (0 + (pi.length : Int), pp.ini ++ [pp.l], pp.kids.length), by rw [f1, List.getElem?_append_right (by omega), show m - A'.length = 0 by omega, List.getElem?_cons_zero], rfl, ?_, .inl ⟨by omega, rfl⟩⟩
        show (a ++ b).length ≤ pp.kids.length
        rw [ek]; simp
      · obtain ⟨n, hn⟩ : ∃ n, m - A'.length = n + 1 := ⟨m - A'.length - 1, by omega⟩
        rw [hn, List.getElem?_cons_succ] at h
        by_cases c3 : n < sizeL a
        · rw [List.getElem?_append_left (by omega)] at h
          refine ⟨m, x, ?_, rfl, Nat.le_refl _, .inl ⟨by omega, rfl⟩⟩
          rw [f1, List.getElem?_append_right (by omega), hn, List.getElem?_cons_succ, List.append_assoc, List.getElem?_append_left (by omega)]
          exact h
        · rw [List.getElem?_append_right (by omega)] at h
          refine ⟨m + sizeT r, x, ?_, rfl, Nat.le_refl _, .inr ⟨by omega, rfl⟩⟩
          rw [f1, List.getElem?_append_right (by omega), show m + sizeT r - A'.length = (n + sizeT r) + 1 by omega, List.getElem?_cons_succ, List.append_assoc, List.getElem?_append_right (by omega), List.getElem?_append_right (by omega), lF, lO, show n + sizeT r - sizeL a - sizeT r = n - sizeL a by omega]
          rw [lF] at h
          exact h
  have hd1 : N1.ini = t.ini ∧ N1.l = t.l := by rw [hN1]; exact s2.headeq rfl rfl
  have hd2 : N2.ini = N1.ini ∧ N2.l = N1.l := by rw [hN2]; exact sp.headeq rfl rfl
  have sums : ((flatT 0 N2).map rnum).sum = ((flatT 0 t).map rnum).sum := by
    have o1 := tot_rows r D (0 + (q2.length : Int) + 1) ok
    have o2 := tot_rows r D (0 + (pi.length : Int) + 1) ok
    have w0 := congrArg (fun z => (z.map rnum).sum) u0
    have w1 := congrArg (fun z => (z.map rnum).sum) u1
    have w2 := congrArg (fun z => (z.map rnum).sum) v1
    have w3 := congrArg (fun z => (z.map rnum).sum) v2
    simp only [List.map_append, List.map_cons, List.sum_append, List.sum_cons] at w0 w1 w2 w3
    omega
  refine ⟨N1, pp, N2, a, b, ⟨hN1, sp.part, ek, ei, hN2, sz1, sz2, ?_, ?_, fun x hm => ?_, hd2.1.trans hd1.1, hd2.2.trans hd1.2, sums, fun m x hm hne => ?_⟩⟩
  · rw [u1, u0]
    have l : (A.map unX ++ (0 + (q2.length : Int), r2.ini ++ [r2.l]) :: flatL (0 + (q2.length : Int) + 1) r2.kids).length = k2 + sizeT r2 := by
      rw [List.length_append, List.length_map, List.length_cons, flatL_len]; omega
    rw [show A.map unX ++ (0 + (q2.length : Int), r2.ini ++ [r2.l]) :: (flatL (0 + (q2.length : Int) + 1) r2.kids ++ B.map unX) = (A.map unX ++ (0 + (q2.length : Int), r2.ini ++ [r2.l]) :: flatL (0 + (q2.length : Int) + 1) r2.kids) ++ B.map unX by simp]
    rw [List.take_left' l, List.drop_left' l, Int.zero_add]; simp
  · rw [← hk1, v2, v1]
    have l : (A'.map unX ++ (0 + (pi.length : Int), pp.ini ++ [pp.l]) :: flatL (0 + (pi.length : Int) + 1) a).length = k1 := by
      rw [List.length_append, List.length_map, List.length_cons, flatL_len]; omega
    have l' : (A'.map unX ++ (0 + (pi.length : Int), pp.ini ++ [pp.l]) :: flatL (0 + (pi.length : Int) + 1) a ++ flatT (0 + (pi.length : Int) + 1) r).length = k1 + sizeT r := by
      rw [List.length_append, l, flatT_len]
    rw [show A'.map unX ++ (0 + (pi.length : Int), pp.ini ++ [pp.l]) :: (flatL (0 + (pi.length : Int) + 1) a ++ flatT (0 + (pi.length : Int) + 1) r ++ (flatL (0 + (pi.length : Int) + 1) b ++ B'.map unX)) = (A'.map unX ++ (0 + (pi.length : Int), pp.ini ++ [pp.l]) :: flatL (0 + (pi.length : Int) + 1) a ++ flatT (0 + (pi.length : Int) + 1) r) ++ (flatL (0 + (pi.length : Int) + 1) b ++ B'.map unX) by simp]
    rw [List.drop_left' l', List.append_assoc (A'.map unX ++ (0 + (pi.length : Int), pp.ini ++ [pp.l]) :: flatL (0 + (pi.length : Int) + 1) a), List.take_left' l]; simp
  · obtain ⟨m, hm2⟩ := List.mem_iff_getElem?.mp hm
    obtain ⟨j, y, g1, g2, _, _⟩ := L2 m x hm2
    rw [g2]; exact (L1 j y g1).1
  · obtain ⟨j, y, g1, g2, g3, g4⟩ := L2 m x hm
    have h1 := (L1 j y g1).2.1
    by_cases c : j = k2
    · exfalso
      have rp := sizeT_pos r
      split at hk1 <;> split at hne <;> rcases g4 with g4 | g4 <;> omega
    · have := h1 c; omega
end K52
namespace K52
open PySem PySem.Spec L2 DL
structure Ok (t : Tr) : Prop where
  grp : Grp t
  size : sizeT t ≤ 13
theorem Ok.len {t : Tr} (O : Ok t) : (allP t).length = sizeT t := by
  unfold allP
  rw [List.length_cons, paths_size 4 t.kids [] O.grp.ok, sizeT_eq t]; omega
theorem lenR (t : Tr) : lenD [encRows (flatT 0 t)] = .ok (.int (sizeT t : Nat)) := by
  show R.ok (PyData.int (((flatT 0 t).map encRow).length : Nat)) = _
  rw [List.length_map, flatT_len]
theorem pre_iff {t r : Tr} {k : Nat} {q : List Int} (h : okL 4 t.kids) {D' : Nat} (P : Place t k q r D') {j : Nat} {p : List Int} (hj : (allP t)[j]? = some p) : q <+: p ↔ (k ≤ j ∧ j < k + sizeT r) := by
  obtain ⟨D2, PA, PB, e1, e2, e3, e4, e5⟩ := P.sp.paths 4 [] h
  have ed : D2 = D' := by have := P.deep; omega
  subst ed
  rw [List.nil_append] at e3 e4 e5
  have el : allP t = PA ++ (q :: pathsL D2 r.kids q) ++ PB := e3
  have lm : (q :: pathsL D2 r.kids q).length = sizeT r := by rw [List.length_cons, paths_size D2 r.kids q P.ok, sizeT_eq r]; omega
  rw [el] at hj
  by_cases c1 : j < k
  · rw [List.append_assoc, List.getElem?_append_left (by omega)] at hj
    exact ⟨fun h => absurd h (e4 p (List.mem_of_getElem? hj)), fun h => by omega⟩
  · by_cases c2 : j < k + sizeT r
    · rw [List.append_assoc, List.getElem?_append_right (by omega), List.getElem?_append_left (by omega)] at hj
      refine ⟨fun _ => ⟨by omega, c2⟩, fun _ => ?_⟩
      rcases List.mem_cons.mp (List.mem_of_getElem? hj) with rfl | hx
      · exact List.prefix_refl _
      · obtain ⟨c, s, rfl⟩ := paths_pref _ _ _ _ hx
        exact List.prefix_append _ _
    · rw [List.getElem?_append_right (by rw [List.length_append]; omega)] at hj
      exact ⟨fun h => absurd h (e5 p (List.mem_of_getElem? hj)), fun h => by omega⟩
mutual
theorem flat_shift : ∀ (t : Tr) (d c : Int), (flatT d t).map (fun x => (x.1 + c, x.2)) = flatT (d + c) t
  | .nd i l k, d, c => by rw [flatT, flatT, List.map_cons, flat_shiftL k (d + 1) c, show d + 1 + c = d + c + 1 by omega]
theorem flat_shiftL : ∀ (ts : List Tr) (d c : Int), (flatL d ts).map (fun x => (x.1 + c, x.2)) = flatL (d + c) ts
  | [], d, c => by rw [flatL, flatL]; rfl
  | t :: ts, d, c => by rw [flatL, flatL, List.map_append, flat_shift t d c, flat_shiftL ts d c]
end
/-! ### rows left out -/
theorem seg_all (rows : List Row) (b : Int → Bool) (lo n : Nat) (h : lo + n ≤ rows.length) (hb : ∀ j : Int, (lo : Int) ≤ j → j < (lo + n : Nat) → b j = true) : ((rng (lo : Int) n).filter b).map (fun j => rows.getD j.toNat (0, [])) = (rows.drop lo).take n := by
  rw [List.filter_eq_self.mpr fun j hj => by have := mem_rng.mp hj; exact hb j (by omega) (by omega)]
  refine List.ext_getElem? fun i => ?_
  rw [List.getElem?_map]
  by_cases c : i < n
  · rw [rng_get c, Option.map_some, List.getElem?_take_of_lt c, List.getElem?_drop, show ((lo : Int) + (i : Int)).toNat = lo + i by omega, List.getD_eq_getElem?_getD, List.getElem?_eq_getElem (by omega)]; rfl
  · rw [List.getElem?_eq_none (by rw [rng_len]; omega), List.getElem?_eq_none (by rw [List.length_take]; omega)]; rfl
theorem seg_all0 (rows : List Row) (b : Int → Bool) (n : Nat) (h : n ≤ rows.length) (hb : ∀ j : Int, 0 ≤ j → j < (n : Nat) → b j = true) : ((rng 0 n).filter b).map (fun j => rows.getD j.toNat (0, [])) = rows.take n := by
  have := seg_all rows b 0 n (by omega) fun j h1 h2 => hb j (by omega) (by omega)
  rw [List.drop_zero] at this
  exact this
theorem seg_none (b : Int → Bool) (lo n : Nat) (hb : ∀ j : Int, (lo : Int) ≤ j → j < (lo + n : Nat) → b j = false) : (rng (lo : Int) n).filter b = [] :=
  List.filter_eq_nil_iff.mpr fun j hj => by have := mem_rng.mp hj; rw [hb j (by omega) (by omega)]; decide
def outB (k e : Nat) (j : Int) : Bool := decide (j < (k : Int)) || decide (j ≥ (e : Int))
theorem seg_ok {rows : List Row} (hl : rows.length ≤ 1000) {lo n k e : Nat} (h : lo + n ≤ rows.length) : lcP ((rng (lo : Int) n).map PyData.int) (fun k_59 => (((ltD k_59 (.int (k : Int))).bind asB).bind fun b_60 => if b_60 = true then R.ok true else (geD k_59 (.int (e : Int))).bind asB).whn ((ixD (encRows rows) k_59).sm)) = .ok ((((rng (lo : Int) n).filter (outB k e)).map (fun j => rows.getD j.toNat (0, []))).map encRow) := by
  refine lcP_fm PyData.int encRow (outB k e) (fun j => rows.getD j.toNat (0, [])) (rng (lo : Int) n) (by rw [rng_len]; omega) fun j hj => ?_
  have hj := mem_rng.mp hj
  obtain ⟨m, rfl⟩ : ∃ m : Nat, j = (m : Int) := ⟨j.toNat, by omega⟩
  rw [a_ltI, R.ok_bind, a_asB, R.ok_bind, a_geI, R.ok_bind, a_asB]
  have e2 : ixD (encRows rows) (.int (m : Int)) = .ok (encRow (rows.getD m (0, []))) := by
    rw [List.getD_eq_getElem?_getD, List.getElem?_eq_getElem (by omega)]
    exact ix_L encRow (List.getElem?_eq_getElem (by omega))
  rw [e2, Int.toNat_natCast]
  unfold outB
  by_cases c : (m : Int) < (k : Int)
  · rw [iteT (decide_eq_true c), decide_eq_true c]; rfl
  · rw [iteF (decide_eq_false c), decide_eq_false c, Bool.false_or]
    cases decide ((m : Int) ≥ (e : Int)) <;> rfl
theorem new_rows {t r r2 : Tr} {k k2 : Nat} {q2 : List Int} (hn : k + sizeT r ≤ sizeT t) (hn2 : k2 + sizeT r2 ≤ sizeT t) (hnest : k < k2 + sizeT r2 → k + sizeT r ≤ k2 + sizeT r2) {F1 F2 : List Row}
    (h1 : F1 = (flatT 0 t).take (k2 + sizeT r2) ++ flatT ((q2.length : Int) + 1) r ++ (flatT 0 t).drop (k2 + sizeT r2))
    (h2 : F2 = F1.take (if k < k2 + sizeT r2 then k else k + sizeT r) ++ F1.drop ((if k < k2 + sizeT r2 then k else k + sizeT r) + sizeT r)) :
    ((rng 0 (k2 + sizeT r2)).filter (outB k (k + sizeT r))).map (fun j => (flatT 0 t).getD j.toNat (0, [])) ++ flatT ((q2.length : Int) + 1) r ++ ((rng ((k2 + sizeT r2 : Nat) : Int) (sizeT t - (k2 + sizeT r2))).filter (outB k (k + sizeT r))).map (fun j => (flatT 0 t).getD j.toNat (0, [])) = F2 := by
  have lr : (flatT 0 t).length = sizeT t := flatT_len 0 t
  have lo : (flatT ((q2.length : Int) + 1) r).length = sizeT r := flatT_len _ r
  generalize flatT ((q2.length : Int) + 1) r = own at *
  generalize flatT 0 t = rows at *
  generalize sizeT r = s at *
  generalize k2 + sizeT r2 = last at *
  generalize sizeT t = n at *
  have bt : ∀ j : Int, j < (k : Int) → outB k (k + s) j = true := fun j h => by unfold outB; rw [decide_eq_true h, Bool.true_or]
  have bt2 : ∀ j : Int, ((k + s : Nat) : Int) ≤ j → outB k (k + s) j = true := fun j h => by unfold outB; rw [decide_eq_true (show j ≥ ((k + s : Nat) : Int) from h), Bool.or_true]
  have bf : ∀ j : Int, (k : Int) ≤ j → j < ((k + s : Nat) : Int) → outB k (k + s) j = false := fun j h1 h2 => by unfold outB; rw [decide_eq_false (by omega), decide_eq_false (by omega)]; rfl
  by_cases c : k < last
  · have hl := hnest c
    rw [if_pos c] at h2
    have e1 : ((rng 0 last).filter (outB k (k + s))).map (fun j => rows.getD j.toNat (0, [])) = rows.take k ++ (rows.take last).drop (k + s) := by
      rw [show last = k + (s + (last - (k + s))) by omega, rng_add, rng_add, List.filter_append, List.filter_append, List.map_append, List.map_append]
      rw [seg_all0 rows _ k (by omega) fun j _ h => bt j (by omega)]
      rw [Int.zero_add, seg_none _ k s fun j h1 h2 => bf j h1 h2, List.map_nil, List.nil_append]
      rw [show (k : Int) + (s : Int) = ((k + s : Nat) : Int) by omega, seg_all rows _ (k + s) _ (by omega) fun j h _ => bt2 j h]
      rw [show k + (s + (last - (k + s))) = last by omega, List.drop_take]
    have e2 : ((rng (last : Int) (n - last)).filter (outB k (k + s))).map (fun j => rows.getD j.toNat (0, [])) = rows.drop last := by
      rw [seg_all rows _ last _ (by omega) fun j h _ => bt2 j (by omega), List.take_of_length_le (by rw [List.length_drop]; omega)]
    rw [e1, e2, h2, h1]
    have lt : (rows.take last).length = last := by rw [List.length_take]; omega
    rw [List.append_assoc (rows.take last), List.take_append_of_le_length (by omega), List.drop_append_of_le_length (by omega), List.take_take, Nat.min_eq_left (by omega)]
    simp
  · rw [if_neg c] at h2
    have e1 : ((rng 0 last).filter (outB k (k + s))).map (fun j => rows.getD j.toNat (0, [])) = rows.take last := by
      rw [seg_all0 rows _ last (by omega) fun j _ h => bt j (by omega)]
    have e2 : ((rng (last : Int) (n - last)).filter (outB k (k + s))).map (fun j => rows.getD j.toNat (0, [])) = (rows.drop last).take (k - last) ++ rows.drop (k + s) := by
      rw [show n - last = (k - last) + (s + (n - (k + s))) by omega, rng_add, rng_add, List.filter_append, List.filter_append, List.map_append, List.map_append]
      rw [seg_all rows _ last (k - last) (by omega) fun j _ h => bt j (by omega)]
      rw [show (last : Int) + ((k - last : Nat) : Int) = (k : Int) by omega, seg_none _ k s fun j h1 h2 => bf j h1 h2, List.map_nil, List.nil_append]
      rw [show (k : Int) + (s : Int) = ((k + s : Nat) : Int) by omega, seg_all rows _ (k + s) _ (by omega) fun j h _ => bt2 j h, List.take_of_length_le (l := rows.drop (k + s)) (by rw [List.length_drop]; omega)]
    rw [e1, e2, h2, h1]
    have lt : (rows.take last ++ own).length = last + s := by rw [List.length_append, List.length_take]; omega
    rw [show k + s = (last + s) + (k - last) by omega, ← lt, List.take_length_add_append, show (rows.take last ++ own).length + (k - last) + s = (rows.take last ++ own).length + (k - last + s) by omega, List.drop_length_add_append, List.drop_drop]
    rw [lt, show last + (k - last + s) = last + s + (k - last) by omega]
    simp
end K52
namespace K52
open PySem PySem.Spec L2 DL
theorem within_b (k k2 e : Nat) : (((leD (.int (k : Int)) (.int (k2 : Int))).bind fun z_22 => (asB z_22).bind fun k_23 => if k_23 = true then ltD (.int (k2 : Int)) (.int (e : Int)) else R.ok (PyData.bool false)).bind asB) = .ok (decide (k ≤ k2 ∧ k2 < e)) := by
  rw [a_leI, R.ok_bind, a_asB, R.ok_bind]
  by_cases c : k ≤ k2
  · rw [iteT (decide_eq_true (by omega)), a_ltI, R.ok_bind, a_asB]
    congr 1
    by_cases c2 : k2 < e
    · rw [decide_eq_true (by omega), decide_eq_true ⟨c, c2⟩]
    · rw [decide_eq_false (by omega), decide_eq_false (by omega)]
  · rw [iteF (decide_eq_false (by omega)), R.ok_bind, a_asB, decide_eq_false (by omega)]
theorem due_within {t r r2 : Tr} (O : Ok t) {k k2 : Nat} {q q2 : List Int} {D D2 : Nat} (P : Place t k q r D) (P2 : Place t k2 q2 r2 D2) (h : q <+: q2) : F__law_due [encRows (flatT 0 t), .int (k : Int), .int (k2 : Int)] = .ok (.tuple [.str "within"]) := by
  have hs := O.size
  have hp := (pre_iff O.grp.ok P P2.at').mp h
  rw [e__law_due]; unfold P__law_due
  rw [end_ok P.sp (by omega), R.ok_bind, within_b, R.ok_bind, iteT (decide_eq_true hp)]
theorem own_rows {t r : Tr} {k : Nat} {q : List Int} (s : Sp k t q r) : ((flatT 0 t).drop k).take (k + sizeT r - k) = flatT (q.length : Int) r := by
  obtain ⟨A, B, e1, e2, _⟩ := s.rows 0
  rw [e2, List.append_assoc, List.drop_left' e1, List.take_append_of_le_length (by rw [flatT_len]; omega), List.take_of_length_le (by rw [flatT_len]; omega), Int.zero_add]
theorem max_ex {xs : List Int} (h : xs ≠ []) : ∃ m, maxD1 [.list (xs.map PyData.int)] = .ok (.int m) ∧ m ∈ xs ∧ ∀ y ∈ xs, y ≤ m := by
  cases xs with
  | nil => exact absurd rfl h
  | cons x xs =>
    obtain ⟨h1, h2⟩ := foldl_max_mem xs x
    exact ⟨_, by rw [List.map_cons, max_ints], h1, h2⟩
theorem Mv.head {t r r2 : Tr} {k k2 : Nat} {pi q2 : List Int} {i : Int} {N1 pp N2 : Tr} {a b : List Tr} (M : Mv t r r2 k k2 pi q2 i N1 pp N2 a b) : Cd N2.ini N2.l := (M.cds (0, N2.ini ++ [N2.l], N2.kids.length) (by rw [flatXT_eq]; exact List.mem_cons_self)).cd
theorem due_moved {t r r2 : Tr} (O : Ok t) {k k2 : Nat} {pi q2 : List Int} {i : Int} {D D2 : Nat} (P : Place t k (pi ++ [i]) r D) (P2 : Place t k2 q2 r2 D2) (hn : ¬ (pi ++ [i]) <+: q2) {N1 pp N2 : Tr} {a b : List Tr} (M : Mv t r r2 k k2 pi q2 i N1 pp N2 a b) :
    (okL 4 N2.kids → F__law_due [encRows (flatT 0 t), .int (k : Int), .int (k2 : Int)] = .ok (.tuple [.str "told", encT N2])) ∧ (¬ okL 4 N2.kids → F__law_due [encRows (flatT 0 t), .int (k : Int), .int (k2 : Int)] = .ok (.tuple [.str "group"])) := by
  have hs := O.size
  have lk := P.sp.lt
  have lk2 := P2.sp.lt
  have rp := sizeT_pos r
  have rp2 := sizeT_pos r2
  have lr : (flatT 0 t).length = sizeT t := flatT_len 0 t
  have hb : ¬ (k ≤ k2 ∧ k2 < k + sizeT r) := fun h => hn ((pre_iff O.grp.ok P P2.at').mpr h)
  have hnest : k < k2 + sizeT r2 → k + sizeT r ≤ k2 + sizeT r2 := fun h => by
    by_cases c : k2 ≤ k
    · have h1 := (pre_iff O.grp.ok P2 P.at').mpr ⟨c, h⟩
      obtain ⟨p, hp⟩ : ∃ p, (allP t)[k + sizeT r - 1]? = some p := ⟨_, List.getElem?_eq_getElem (by rw [O.len]; omega)⟩
      have h2 := (pre_iff O.grp.ok P hp).mpr ⟨by omega, by omega⟩
      have h3 := (pre_iff O.grp.ok P2 hp).mp (List.IsPrefix.trans h1 h2)
      omega
    · omega
  obtain ⟨to', hto⟩ : ∃ to', to' = if k2 < k then k2 else k2 - sizeT r := ⟨_, rfl⟩
  have tob : to' < sizeT N2 := by rw [M.size2, hto]; split <;> omega
  obtain ⟨q', r', sp'⟩ := spot_ex N2 to' tob
  obtain ⟨sons, sn, sl⟩ := sons_cnt sp' (by rw [M.size2]; omega)
  have cx : (flatXT 0 N2)[to']? = some ((q'.length : Int), r'.ini ++ [r'.l], r'.kids.length) := by
    obtain ⟨A, B, x1, x2, _⟩ := sp'.rowsX 0
    rw [x2, flatXT_eq, List.append_assoc, List.getElem?_append_right (by omega), x1, Nat.sub_self, Int.zero_add]; rfl
  have hr1 : dep (flatT 0 t) k = ((pi ++ [i]).length : Int) := by unfold dep; rw [List.getD_eq_getElem?_getD, P.row]; rfl
  have hr2 : dep (flatT 0 t) k2 = (q2.length : Int) := by unfold dep; rw [List.getD_eq_getElem?_getD, P2.row]; rfl
  have nr := new_rows lk lk2 hnest M.rows1 M.rows2
  obtain ⟨m, m1, m2, m3⟩ := max_ex (xs := (flatT 0 N2).map (·.1)) (by rw [flatT_eq]; simp)
  have iff : okL 4 N2.kids ↔ (m < 5 ∧ sons.length < 6) := by
    rw [okT M.cds, sl]
    constructor
    · intro h
      constructor
      · obtain ⟨y, hy, e⟩ := List.mem_map.mp m2
        rw [← unX_T] at hy
        obtain ⟨x, hx, e2⟩ := List.mem_map.mp hy
        have := (h x hx).1
        rw [← e, ← e2]; exact this
      · have := (h _ (List.mem_of_getElem? cx)).2
        simp only at this
        omega
    · rintro ⟨h1, h2⟩ x hx
      constructor
      · have := m3 x.1 (List.mem_map.mpr ⟨unX x, by rw [← unX_T]; exact List.mem_map.mpr ⟨x, hx, rfl⟩, rfl⟩)
        omega
      · obtain ⟨j, hj⟩ := List.mem_iff_getElem?.mp hx
        by_cases c : j = to'
        · subst c
          rw [cx] at hj
          have := Option.some.inj hj
          subst this
          simp only; omega
        · exact M.few j x hj (by rw [← hto]; exact c)
  have go : F__law_due [encRows (flatT 0 t), .int (k : Int), .int (k2 : Int)] = if decide (m < 5 ∧ sons.length < 6) = true then (((F__law_made [encRows (flatT 0 N2)]).bind fun a_88 => R.ok [a_88]).bind fun ds_89 => R.ok ((.str "told") :: ds_89)).bind mkT else .ok (.tuple [.str "group"]) := by
    rw [e__law_due]; unfold P__law_due
    rw [end_ok P.sp (by omega), end_ok P2.sp (by omega), R.ok_bind, within_b, R.ok_bind, iteF (decide_eq_false hb), optI_i, R.ok_bind, optI_i, R.ok_bind, show slD (encRows (flatT 0 t)) (some (k : Int)) (some ((k + sizeT r : Nat) : Int)) = .ok (.list ((((flatT 0 t).drop k).take (k + sizeT r - k)).map encRow)) from sl_mid encRow _ (by omega) (by omega), R.ok_bind, a_itL, R.ok_bind, own_rows P.sp]
    rw [row_ix (by omega), row_ix (by omega), hr1, hr2]
    rw [lcP_all encRow encRow (fun x => (x.1 + (- ((pi ++ [i]).length : Int) + (q2.length : Int) + 1), x.2)) (flatT ((pi ++ [i]).length : Int) r) (by rw [flatT_len]; omega) fun x _ => by
      rw [show ixD (encRow x) (.int 0) = .ok (.int x.1) from rfl, R.ok_bind, R.ok_bind, a_subI, R.ok_bind, R.ok_bind, a_addI, R.ok_bind, a_addI, R.ok_bind, show ixD (encRow x) (.int 1) = .ok (.list (x.2.map PyData.int)) from rfl, R.ok_bind, R.ok_bind, R.ok_bind, a_mkT, chk_of (decide_eq_true (by simp [big_eq]))]
      show R.ok (some (PyData.tuple [.int (x.1 - ((pi ++ [i]).length : Int) + (q2.length : Int) + 1), .list (x.2.map PyData.int)])) = .ok (some (PyData.tuple [.int (x.1 + (- ((pi ++ [i]).length : Int) + (q2.length : Int) + 1)), .list (x.2.map PyData.int)]))
      rw [show x.1 - ((pi ++ [i]).length : Int) + (q2.length : Int) + 1 = x.1 + (- ((pi ++ [i]).length : Int) + (q2.length : Int) + 1) by omega]]
    rw [flat_shift, show ((pi ++ [i]).length : Int) + (- ((pi ++ [i]).length : Int) + (q2.length : Int) + 1) = (q2.length : Int) + 1 by omega]
    rw [R.ok_bind, R.ok_bind, R.ok_bind, rg1_rng (by omega), R.ok_bind]
    have sg0 := seg_ok (rows := flatT 0 t) (by omega) (lo := 0) (n := k2 + sizeT r2) (k := k) (e := k + sizeT r) (by omega)
    have sg1 := seg_ok (rows := flatT 0 t) (by omega) (lo := k2 + sizeT r2) (n := sizeT t - (k2 + sizeT r2)) (k := k) (e := k + sizeT r) (by omega)
    rw [show ((0 : Nat) : Int) = 0 from rfl] at sg0
    rw [sg0, R.ok_bind, R.ok_bind, lenR, R.ok_bind, rg2_ok (by omega) (by omega) (by omega), R.ok_bind, show ((sizeT t : Int) - ((k2 + sizeT r2 : Nat) : Int)).toNat = sizeT t - (k2 + sizeT r2) by omega, sg1]
    rw [a_addL, chk_of (decide_eq_true (by
      have f1 := List.length_filter_le (outB k (k + sizeT r)) (rng 0 (k2 + sizeT r2))
      rw [rng_len] at f1
      simp only [List.length_map, flatT_len, big_eq]; omega)), R.ok_bind, R.ok_bind, R.ok_bind, a_addL, chk_of (decide_eq_true (by
      have f1 := List.length_filter_le (outB k (k + sizeT r)) (rng 0 (k2 + sizeT r2))
      have f2 := List.length_filter_le (outB k (k + sizeT r)) (rng ((k2 + sizeT r2 : Nat) : Int) (sizeT t - (k2 + sizeT r2)))
      rw [rng_len] at f1 f2
      simp only [List.length_map, List.length_append, flatT_len, big_eq]; omega)), R.ok_bind, ← List.map_append, ← List.map_append, nr]
    have hl2 : lenD [.list ((flatT 0 N2).map encRow)] = .ok (.int (sizeT N2 : Nat)) := lenR N2
    rw [hl2, R.ok_bind, rg2_ok (by omega) (by rw [M.size2]; omega) (by omega), R.ok_bind]
    have cond : (((ltD (.int (k2 : Int)) (.int (k : Int))).bind asB).bind fun b_75 => if b_75 = true then R.ok (PyData.int (k2 : Int)) else (subD (.int ((k + sizeT r : Nat) : Int)) (.int (k : Int))).bind (subD (.int (k2 : Int)))) = .ok (.int (to' : Int)) := by
      rw [a_ltI, R.ok_bind, a_asB, R.ok_bind, a_subI, R.ok_bind, a_subI, hto]
      by_cases c : k2 < k
      · rw [iteT (decide_eq_true (by omega)), if_pos c]
      · rw [iteF (decide_eq_false (by omega)), if_neg c]
        congr 2; omega
    rw [cond, show ((sizeT N2 : Int) - 1).toNat = sizeT N2 - 1 by omega]
    have sn' : lcP ((rng 1 (sizeT N2 - 1)).map PyData.int) (fun m => (((F__law_parent [.list ((flatT 0 N2).map encRow), m]).bind fun a => (R.ok (PyData.int (to' : Int))).bind (eqD a)).bind asB).whn (.ok (some m))) = .ok sons := sn
    rw [sn', R.ok_bind, R.ok_bind, a_itL, R.ok_bind]
    rw [lcP_all encRow PyData.int (·.1) (flatT 0 N2) (by rw [flatT_len, M.size2]; omega) fun x _ => by rw [show ixD (encRow x) (.int 0) = .ok (.int x.1) from rfl]; rfl]
    rw [R.ok_bind, R.ok_bind, R.ok_bind, m1, R.ok_bind, a_ltI, R.ok_bind, a_asB, R.ok_bind, len_list, R.ok_bind, a_ltI, R.ok_bind, a_asB]
    by_cases c : m < 5
    · rw [iteT (decide_eq_true c), R.ok_bind]
      by_cases c2 : sons.length < 6
      · rw [iteT (decide_eq_true (by omega)), iteT (decide_eq_true ⟨c, c2⟩)]; rfl
      · rw [iteF (decide_eq_false (by omega)), iteF (decide_eq_false (by omega))]
    · rw [iteF (decide_eq_false c), R.ok_bind, iteF rfl, iteF (decide_eq_false (by omega))]
  constructor
  · intro ok
    rw [go, iteT (decide_eq_true (iff.mp ok)), made_ok M.head.toFg 4 (by decide) ok (by rw [M.size2]; omega), R.ok_bind, R.ok_bind, R.ok_bind, a_mkT, chk_of (decide_eq_true (by simp [big_eq]))]
  · intro ok
    rw [go, iteF (decide_eq_false fun h => ok (iff.mpr h))]
end K52
namespace K52
open PySem PySem.Spec L2 DL
/-! ### what is no group -/
theorem first_bad {α : Type} (P : α → Prop) [DecidablePred P] : ∀ ks : List α, (¬ ∀ t ∈ ks, P t) → ∃ a u b, ks = a ++ u :: b ∧ (∀ x ∈ a, P x) ∧ ¬ P u
  | [], h => absurd (fun t ht => (by cases ht)) h
  | t :: ts, h => by
    by_cases c : P t
    · obtain ⟨a, u, b, e, h1, h2⟩ := first_bad P ts fun h2 => h fun x hx => by
        rcases List.mem_cons.mp hx with rfl | hx
        · exact c
        · exact h2 x hx
      exact ⟨t :: a, u, b, by rw [e]; rfl, fun x hx => by
        rcases List.mem_cons.mp hx with rfl | hx
        · exact c
        · exact h1 x hx, h2⟩
    · exact ⟨[], t, ts, rfl, (fun x hx => by cases hx), c⟩
theorem hung_body {t : Tr} (C : Cd t.ini t.l) (n d : Nat) (v : Bool) (ih : F__are_hung_n n [.tuple (t.kids.map encT), .int (d : Int)] = .ok (.bool v)) (next brk : Unit → R PD) : P__are_hung_l1 (F__are_hung_n n) (.int ((d + 1 : Nat) : Int)) (encT t) () next brk = if v = true then next () else .ok (.bool false) := by
  unfold P__are_hung_l1
  rw [encT_eq, iteF (show (!(PyData.tuple [.str (cordS t.ini t.l), .tuple (t.kids.map encT)]).isTuple) = false from rfl), len_tup, R.ok_bind]
  rw [show neD (.int ([PyData.str (cordS t.ini t.l), PyData.tuple (t.kids.map encT)].length : Nat)) (.int 2) = .ok (.bool false) by rw [a_neI]; rfl, R.ok_bind, a_asB, R.ok_bind, iteF rfl]
  rw [show ixD (.tuple [.str (cordS t.ini t.l), .tuple (t.kids.map encT)]) (.int 0) = .ok (.str (cordS t.ini t.l)) from rfl, show ixD (.tuple [.str (cordS t.ini t.l), .tuple (t.kids.map encT)]) (.int 1) = .ok (.tuple (t.kids.map encT)) from rfl]
  rw [a_subI, show (((d + 1 : Nat) : Int) - 1) = (d : Int) by omega]
  simp only [R.ok_bind, List.length_cons, List.length_nil]
  rw [show (0 + 1 == 1) = true from rfl, show (0 + 1 + 1 == 2) = true from rfl, chk_t, chk_t, C.is, ih]
  cases v <;> rfl
theorem hung_no : ∀ (d : Nat) (ks : List Tr) (dd : Int), ¬ okL d ks → (∀ x ∈ flatXL dd ks, CdR x.2.1) → ∀ n : Nat, d < n → F__are_hung_n n [.tuple (ks.map encT), .int (d : Int)] = .ok (.bool false)
  | d, ks, dd, h, hc, n + 1, hn => by
    rw [e__are_hung]; unfold P__are_hung
    rw [iteF (show (!(PyData.tuple (ks.map encT)).isTuple) = false from rfl), len_tup, R.ok_bind, List.length_map, a_gtI, R.ok_bind, a_asB, R.ok_bind]
    by_cases c5 : ks.length > 5
    · rw [iteT (decide_eq_true (by omega)), R.ok_bind, iteT rfl]
    · rw [iteF (decide_eq_false (by omega)), R.ok_bind, a_gtI, R.ok_bind, a_asB, R.ok_bind]
      match d, h, hn with
      | 0, h, _ =>
        have hk : ks ≠ [] := h
        have := List.length_pos_iff.mpr hk
        rw [iteT (decide_eq_true (by omega))]
        rfl
      | d + 1, h, hn =>
        have e0 : (if decide ((ks.length : Int) > 0) = true then (eqD (.int ((d + 1 : Nat) : Int)) (.int 0)).bind asB else R.ok false) = .ok false := by
          rw [a_eqI, R.ok_bind, a_asB, decide_eq_false (show ¬ (((d + 1 : Nat) : Int) = 0) by omega)]
          split <;> rfl
        rw [e0, R.ok_bind, iteF rfl, a_itT, R.ok_bind]
        have cd : ∀ t ∈ ks, Cd t.ini t.l ∧ ∀ x ∈ flatXL (dd + 1) t.kids, CdR x.2.1 := fun t ht => by
          have := fun x hx => hc x (mem_XL.mpr ⟨t, ht, hx⟩)
          rw [flatXT_eq] at this
          exact ⟨(this _ List.mem_cons_self).cd, fun x hx => this x (List.mem_cons_of_mem _ hx)⟩
        have hb : ¬ ∀ t ∈ ks, okL d t.kids := fun h2 => h ⟨by omega, fun t ht => ⟨(cd t ht).1, h2 t ht⟩⟩
        obtain ⟨a, u, b, e, h1, h2⟩ := @first_bad _ (fun t : Tr => okL d t.kids) (fun _ => Classical.propDecidable _) ks hb
        have mu : u ∈ ks := by rw [e]; simp
        rw [e, List.map_append, List.map_cons, forK_pre encT () (encT u :: b.map encT) a fun t ht next brk => by
          rw [hung_body (cd t (by rw [e]; simp [ht])).1 n d true (hung_ok d t.kids (h1 t ht) n (by omega)), if_pos rfl]]
        show P__are_hung_l1 (F__are_hung_n n) (.int ((d + 1 : Nat) : Int)) (encT u) () _ _ = _
        rw [hung_body (cd u mu).1 n d false (hung_no d u.kids (dd + 1) h2 (cd u mu).2 n (by omega)), if_neg (by decide)]
theorem is_group_no {T : Tr} (hc : ∀ x ∈ flatXT 0 T, CdR x.2.1) (h : ¬ okL 4 T.kids) : F_is_group [encT T] = .ok (.bool false) := by
  rw [flatXT_eq] at hc
  have C : Cd T.ini T.l := (hc _ List.mem_cons_self).cd
  have hg : F__are_hung [.tuple (T.kids.map encT), .int 4] = .ok (.bool false) := hung_no 4 T.kids (0 + 1) h (fun x hx => hc x (List.mem_cons_of_mem _ hx)) 12 (by decide)
  rw [e_is_group]; unfold P_is_group
  rw [isT, iteF (show (!true) = false from rfl), lenT, R.ok_bind, a_neI, R.ok_bind, a_asB, R.ok_bind, iteF (show decide ((2 : Int) ≠ 2) = false from rfl), hd_T, kd_T]
  simp only [R.ok_bind, List.length_cons, List.length_nil]
  rw [show (0 + 1 == 1) = true from rfl, chk_t, C.is, R.ok_bind, a_truB, R.ok_bind, R.ok_bind, iteF (show (!true) = false from rfl)]
  rw [show (0 + 1 + 1 == 2) = true from rfl, chk_t, chk_t, hg]
  rfl
theorem check_group_no {T : Tr} (hc : ∀ x ∈ flatXT 0 T, CdR x.2.1) (h : ¬ okL 4 T.kids) : F_check_group [encT T] = .ex "BadGroup" [] := by
  rw [e_check_group]; unfold P_check_group
  rw [is_group_no hc h]; rfl
/-! ### a part exchanged, in any tree -/
theorem kid_len (ts : List Tr) : ts.length ≤ sizeL ts := by
  induction ts with
  | nil => simp
  | cons t ts ih =>
    have := sizeT_pos t
    rw [sizeL, List.length_cons]; omega
theorem kid_size {t : Tr} {ts : List Tr} (h : t ∈ ts) : sizeT t ≤ sizeL ts := by
  induction ts with
  | nil => cases h
  | cons u us ih =>
    rw [sizeL]
    rcases List.mem_cons.mp h with rfl | h
    · omega
    · have := ih h; omega
theorem with_part_S : ∀ (p : List Int) (t r new : Tr), partAt t p = some r → sizeT t ≤ 1000 → p.length ≤ 5 → ∀ n : Nat, p.length < n → F__with_part_n n [encT t, encP p, encT new] = .ok (encT (putT t p new))
  | [], t, r, new, _, _, _, n + 1, _ => by
    rw [e__with_part]; rfl
  | i :: p, t, r, new, h, hs, h5, n + 1, hn => by
    have st := sizeT_eq t
    have kl := kid_len t.kids
    unfold partAt at h
    split at h
    · rename_i k e
      split at h
      · rename_i hi
        obtain ⟨j, rfl⟩ : ∃ j : Nat, i = (j : Int) := ⟨i.toNat, by omega⟩
        rw [Int.toNat_natCast] at e
        have hj := (List.getElem?_eq_some_iff.mp e).1
        have ks := kid_size (List.mem_of_getElem? e)
        rw [List.length_cons] at h5 hn
        have ih := with_part_S p k r new h (by omega) (by omega) n (by omega)
        rw [e__with_part]; unfold P__with_part
        rw [show lenD [encP ((j : Int) :: p)] = .ok (.int ((((j : Int) :: p).map PyData.int).length : Nat)) from rfl, R.ok_bind, a_eqI, R.ok_bind, a_asB, R.ok_bind, iteF (decide_eq_false (by rw [List.length_map, List.length_cons]; omega))]
        rw [show ixD (encP ((j : Int) :: p)) (.int 0) = .ok (.int (j : Int)) from ix_T (i := 0) PyData.int rfl, R.ok_bind, kd_T, R.ok_bind, hd_T, R.ok_bind, optI_i, R.ok_bind, sl_takeT, R.ok_bind, ix_T encT e, R.ok_bind]
        rw [show slD (encP ((j : Int) :: p)) (some 1) none = .ok (encP p) from sl_dropT PyData.int ((j : Int) :: p) 1]
        simp only [R.ok_bind, List.length_cons, List.length_nil]
        rw [show (0 + 1 + 1 + 1 == 3) = true from rfl, chk_t, ih]
        simp only [R.ok_bind, a_mkT, List.length_cons, List.length_nil]
        rw [chk_of (show decide (0 + 1 ≤ big) = true by simp [big_eq]), R.ok_bind, a_addT, chk_of (decide_eq_true (by rw [List.length_map, big_eq, List.length_take]; simp; omega)), R.ok_bind]
        rw [a_addI, R.ok_bind, optI_i, R.ok_bind, show (j : Int) + 1 = ((j + 1 : Nat) : Int) by omega, sl_dropT, R.ok_bind, a_addT, chk_of (decide_eq_true (by rw [List.length_append, List.length_map, List.length_map, big_eq, List.length_take, List.length_drop]; simp; omega))]
        simp only [R.ok_bind, a_mkT, List.length_cons, List.length_nil]
        rw [chk_of (show decide (0 + 1 + 1 ≤ big) = true by simp [big_eq])]
        have es : putT t ((j : Int) :: p) new = .nd t.ini t.l (t.kids.set j (putT k p new)) := by
          rw [putT, Int.toNat_natCast, e]
        rw [es, encT_eq (.nd t.ini t.l (t.kids.set j (putT k p new)))]
        show R.ok (PyData.tuple [_, PyData.tuple _]) = .ok (.tuple [.str (cordS t.ini t.l), .tuple ((t.kids.set j (putT k p new)).map encT)])
        rw [List.set_eq_take_append_cons_drop, if_pos hj, List.map_append, List.map_cons, List.append_assoc]
        rfl
      · cases h
    · cases h
theorem F_put {p : List Int} {t r : Tr} (new : Tr) (h : partAt t p = some r) (hs : sizeT t ≤ 1000) (h5 : p.length ≤ 5) : F__with_part [encT t, encP p, encT new] = .ok (encT (putT t p new)) := with_part_S p t r new h hs h5 12 (by omega)
/-! ### a cord moved -/
theorem moved_within {t r r2 : Tr} (O : Ok t) {k k2 : Nat} {q q2 : List Int} {D D2 : Nat} (P : Place t k q r D) (P2 : Place t k2 q2 r2 D2) (hq : q ≠ []) (h : q <+: q2) : F_moved_cord [encT t, encP q, encP q2] = .ex "Within" [] := by
  have := List.length_pos_iff.mpr hq
  have lq : lenD [encP q] = .ok (.int (q.length : Nat)) := by
    show R.ok (PyData.int ((q.map PyData.int).length : Nat)) = _
    rw [List.length_map]
  rw [e_moved_cord]; unfold P_moved_cord
  rw [check_group_ok O.grp, R.ok_bind, check_path_eq O.grp P.pth, if_pos P.mem, R.ok_bind, check_path_eq O.grp P2.pth, if_pos P2.mem, R.ok_bind, lq, R.ok_bind, a_eqI, R.ok_bind, a_asB, R.ok_bind, iteF (decide_eq_false (by omega)), R.ok_bind, optI_i, R.ok_bind, show slD (encP q2) none (some (q.length : Int)) = .ok (encP (q2.take q.length)) from sl_takeT PyData.int _ _, R.ok_bind]
  rw [encP_tupI, eq_tupI, R.ok_bind, a_asB, R.ok_bind, iteT (decide_eq_true (List.prefix_iff_eq_take.mp h).symm)]
theorem moved_eq {t r r2 : Tr} (O : Ok t) {k k2 : Nat} {pi q2 : List Int} {i : Int} {D D2 : Nat} (P : Place t k (pi ++ [i]) r D) (P2 : Place t k2 q2 r2 D2) (hn : ¬ (pi ++ [i]) <+: q2) {N1 pp N2 : Tr} {a b : List Tr} (M : Mv t r r2 k k2 pi q2 i N1 pp N2 a b) : F_moved_cord [encT t, encP (pi ++ [i]), encP q2] = (F_check_group [encT N2]).bind fun _ => .ok (encT N2) := by
  have hs := O.size
  have rl := P.sp.lt
  have r2l := P2.sp.lt
  have st2 := sizeT_eq r2
  have kl2 := kid_len r2.kids
  have f1 := P.pth.few
  have f2 := P2.pth.few
  have nl := M.num
  rw [List.length_append, List.length_singleton] at f1
  have lq : lenD [encP (pi ++ [i])] = .ok (.int ((pi ++ [i]).length : Nat)) := by
    show R.ok (PyData.int (((pi ++ [i]).map PyData.int).length : Nat)) = _
    rw [List.length_map]
  have ini : slD (encP (pi ++ [i])) none (some (-1)) = .ok (encP pi) := by
    show R.ok (PyData.tuple (cutL _ _ _)) = _
    rw [List.map_append, List.map_cons, List.map_nil, cutL_init]; rfl
  have las : ixD (encP (pi ++ [i])) (.int (-1)) = .ok (.int i) := ix_lastT PyData.int pi i
  have p1 : partAt N1 pi = some pp := M.part
  have size1 : sizeT N1 ≤ 1000 := by rw [M.size1]; omega
  rw [e_moved_cord]; unfold P_moved_cord
  rw [check_group_ok O.grp, R.ok_bind, check_path_eq O.grp P.pth, if_pos P.mem, R.ok_bind, check_path_eq O.grp P2.pth, if_pos P2.mem, R.ok_bind, lq, R.ok_bind, a_eqI, R.ok_bind, a_asB, R.ok_bind, iteF (decide_eq_false (by rw [List.length_append, List.length_singleton]; omega)), R.ok_bind, optI_i, R.ok_bind, show slD (encP q2) none (some ((pi ++ [i]).length : Int)) = .ok (encP (q2.take (pi ++ [i]).length)) from sl_takeT PyData.int _ _, R.ok_bind]
  rw [encP_tupI, eq_tupI, R.ok_bind, a_asB, R.ok_bind, iteF (decide_eq_false fun e => hn (List.prefix_iff_eq_take.mpr e.symm)), ← encP_tupI]
  rw [part_at_ok q2 t r2 P2.sp.part, R.ok_bind, encT_eq r2, un2_t, part_at_ok _ t r P.sp.part, R.ok_bind, R.ok_bind, a_mkT, chk_of (decide_eq_true (by simp [big_eq])), R.ok_bind, a_addT, chk_of (decide_eq_true (by simp only [List.length_map, List.length_cons, List.length_nil, big_eq]; omega)), R.ok_bind, R.ok_bind, R.ok_bind, a_mkT, chk_of (decide_eq_true (by simp [big_eq])), R.ok_bind, R.ok_bind, R.ok_bind, R.ok_bind]
  have en : PyData.tuple [.str (cordS r2.ini r2.l), .tuple (r2.kids.map encT ++ [encT r])] = encT (.nd r2.ini r2.l (r2.kids ++ [r])) := by
    rw [encT_eq (.nd r2.ini r2.l (r2.kids ++ [r]))]
    show _ = PyData.tuple [.str (cordS r2.ini r2.l), .tuple ((r2.kids ++ [r]).map encT)]
    rw [List.map_append]; rfl
  rw [en, chk_of (rfl : ([encT t, encP q2, encT (.nd r2.ini r2.l (r2.kids ++ [r]))].length == 3) = true), F_put (.nd r2.ini r2.l (r2.kids ++ [r])) P2.sp.part (by omega) (by omega), ← M.n1, R.ok_bind]
  rw [neg1, R.ok_bind, R.ok_bind, optI_i, R.ok_bind, ini, R.ok_bind, R.ok_bind, R.ok_bind, chk_of (rfl : ([encT N1, encP pi].length == 2) = true), part_at_ok pi N1 pp p1, R.ok_bind, encT_eq pp, un2_t, R.ok_bind, las, R.ok_bind, R.ok_bind, nl, optI_i, R.ok_bind, sl_takeT, R.ok_bind, a_addI, R.ok_bind, show (a.length : Int) + 1 = ((a.length + 1 : Nat) : Int) by omega, optI_i, R.ok_bind, sl_dropT, R.ok_bind]
  have tk : pp.kids.take a.length = a := by rw [M.kids]; simp
  have dr : pp.kids.drop (a.length + 1) = b := by rw [M.kids]; simp
  have ppl : pp.kids.length ≤ 1000 := by
    have := M.size1
    have h1 := kid_len pp.kids
    have h2 : sizeT pp ≤ sizeT N1 := by
      have h3 : ∀ (p : List Int) (t r : Tr), partAt t p = some r → sizeT r ≤ sizeT t := fun p => by
        induction p with
        | nil => intro t r h; cases h; exact Nat.le_refl _
        | cons c p ih =>
          intro t r h
          unfold partAt at h
          split at h
          · rename_i k e
            split at h
            · have := ih k r h
              have := kid_size (List.mem_of_getElem? e)
              have := sizeT_eq t
              omega
            · cases h
          · cases h
      exact h3 pi N1 pp p1
    have := sizeT_eq pp
    omega
  rw [M.kids, List.length_append, List.length_cons] at ppl
  rw [tk, dr, a_addT, chk_of (decide_eq_true (by simp only [List.length_map, big_eq]; omega)), R.ok_bind, R.ok_bind, R.ok_bind, a_mkT, chk_of (decide_eq_true (by simp [big_eq])), R.ok_bind, R.ok_bind, R.ok_bind, R.ok_bind]
  have en2 : PyData.tuple [.str (cordS pp.ini pp.l), .tuple (a.map encT ++ b.map encT)] = encT (.nd pp.ini pp.l (a ++ b)) := by
    rw [encT_eq (.nd pp.ini pp.l (a ++ b))]
    show _ = PyData.tuple [.str (cordS pp.ini pp.l), .tuple ((a ++ b).map encT)]
    rw [List.map_append]
  rw [en2, chk_of (rfl : ([encT N1, encP pi, encT (.nd pp.ini pp.l (a ++ b))].length == 3) = true), F_put (.nd pp.ini pp.l (a ++ b)) p1 size1 (by omega), ← M.n2, R.ok_bind]
end K52
namespace K52
open PySem PySem.Spec L2 DL
/-! ### the digits of a number -/
def dgs : Nat → Int → List Int
  | 0, _ => []
  | m + 1, n => dgs m (n / 10) ++ [n % 10]
theorem dgs_len : ∀ (m : Nat) (n : Int), (dgs m n).length = m
  | 0, _ => rfl
  | m + 1, n => by show (dgs m (n / 10) ++ [n % 10]).length = _; rw [List.length_append, dgs_len m]; rfl
theorem dgs_dig : ∀ (m : Nat) (n : Int), ∀ f ∈ dgs m n, Dig f
  | 0, _, f, h => by cases h
  | m + 1, n, f, h => by
    rcases List.mem_append.mp h with h | h
    · exact dgs_dig m _ f h
    · rw [List.mem_singleton.mp h]; unfold Dig; omega
theorem numOf_snoc (xs : List Int) (d : Int) : numOf (xs ++ [d]) = 10 * numOf xs + d := by unfold numOf; rw [List.foldl_append]; rfl
theorem numOf_dgs : ∀ (m : Nat) (n : Int), 0 ≤ n ∧ n < 10 ^ m → numOf (dgs m n) = n
  | 0, n, h => by
    have : n = 0 := by have := h.2; simp at this; omega
    rw [this]; rfl
  | m + 1, n, h => by
    have h2 := h.2
    rw [Int.pow_succ] at h2
    show numOf (dgs m (n / 10) ++ [n % 10]) = n
    rw [numOf_snoc, numOf_dgs m (n / 10) ⟨by omega, by omega⟩]; omega
def pws : List Int := [1, 10, 100, 1000, 10000]
theorem pad_eq (n : Int) {p : Nat} (h : 1 ≤ p ∧ p ≤ 5) : ((rg1 (.int (p : Int))).bind fun items_28 => lcP items_28 fun j_29 => (((((subD (.int (p : Int)) (.int 1)).bind fun a_30 => subD a_30 j_29).bind (ixD (.list [(.int 1), (.int 10), (.int 100), (.int 1000), (.int 10000)]))).bind (fdivD (.int n))).bind fun a_33 => modD a_33 (.int 10)).sm).bind (fun l_34 => R.ok (PyData.list l_34)) = .ok (.list ((dgs p n).map PyData.int)) := by
  rw [rg1_rng (n := p) (by omega), R.ok_bind]
  rw [lcP_all PyData.int PyData.int (fun j => n / (pws.getD ((p : Int) - 1 - j).toNat 1) % 10) (rng 0 p) (by rw [rng_len]; omega) fun j hj => by
    have hj := mem_rng.mp hj
    obtain ⟨i, hi⟩ : ∃ i : Nat, (p : Int) - 1 - j = (i : Int) := ⟨((p : Int) - 1 - j).toNat, by omega⟩
    have h5 : i < 5 := by omega
    have p1 : ∀ i : Nat, i < 5 → pws[i]? = some (pws.getD i 1) ∧ decide (0 < pws.getD i 1 ∧ pws.getD i 1 < 1073741824) = true := by decide
    rw [a_subI, R.ok_bind, a_subI, R.ok_bind, hi, show (PyData.list [(.int 1), (.int 10), (.int 100), (.int 1000), (.int 10000)]) = .list (pws.map PyData.int) from rfl, ix_L PyData.int (p1 i h5).1, R.ok_bind, a_divI, chk_of (p1 i h5).2, R.ok_bind, a_modI, chk_of (show decide ((0 : Int) < 10) = true from rfl), Int.toNat_natCast]; rfl]
  have one : n / 1 = n := Int.ediv_one n
  have e2 : n / 10 / 10 = n / 100 := by omega
  have e3 : n / 100 / 10 = n / 1000 := by omega
  have e4 : n / 1000 / 10 = n / 10000 := by omega
  obtain ⟨h1, h2⟩ := h
  rw [R.ok_bind]
  congr 3
  match p, h1, h2 with
  | 1, _, _ => show [n / 1 % 10] = [n % 10]; rw [one]
  | 2, _, _ => show [n / 10 % 10, n / 1 % 10] = [n / 10 % 10, n % 10]; rw [one]
  | 3, _, _ =>
    show [n / 100 % 10, n / 10 % 10, n / 1 % 10] = [n / 10 / 10 % 10, n / 10 % 10, n % 10]
    rw [one, e2]
  | 4, _, _ =>
    show [n / 1000 % 10, n / 100 % 10, n / 10 % 10, n / 1 % 10] = [n / 10 / 10 / 10 % 10, n / 10 / 10 % 10, n / 10 % 10, n % 10]
    rw [one, e2, e3]
  | 5, _, _ =>
    show [n / 10000 % 10, n / 1000 % 10, n / 100 % 10, n / 10 % 10, n / 1 % 10] = [n / 10 / 10 / 10 / 10 % 10, n / 10 / 10 / 10 % 10, n / 10 / 10 % 10, n / 10 % 10, n % 10]
    rw [one, e2, e3, e4]
theorem ff_step (n : Int) (l : List PD) (x : PD) (h : l.length < big) (next brk : PD × List PD → R PD) : P_figures_for_l1 x (.int n, l) next brk = next (.int (n / 10), l ++ [.int (n % 10)]) := by
  unfold P_figures_for_l1
  rw [a_modI, chk_of (show decide ((0 : Int) < 10) = true from rfl), R.ok_bind, appK_lt h, a_divI, chk_of (show decide ((0 : Int) < 10 ∧ (10 : Int) < 1073741824) = true from rfl), R.ok_bind]
theorem ff_loop : ∀ (xs : List PD) (n : Int) (acc : List PD) (k : PD × List PD → R PD), acc.length + xs.length ≤ 1000 → ∃ n', forK P_figures_for_l1 xs (.int n, acc) k = k (.int n', acc ++ ((dgs xs.length n).reverse).map PyData.int)
  | [], n, acc, k, _ => ⟨n, by simp [forK, dgs]⟩
  | x :: xs, n, acc, k, h => by
    rw [List.length_cons] at h
    obtain ⟨n', e⟩ := ff_loop xs (n / 10) (acc ++ [.int (n % 10)]) k (by rw [List.length_append, List.length_singleton]; omega)
    refine ⟨n', ?_⟩
    show P_figures_for_l1 x (.int n, acc) _ _ = _
    rw [ff_step n acc x (by rw [big_eq]; omega), e, List.length_cons]
    show _ = k (.int n', acc ++ ((dgs xs.length (n / 10) ++ [n % 10]).reverse).map PyData.int)
    simp
theorem figures_for_eq (n : Int) {p : Nat} (h : p ≤ 100) : F_figures_for [.int n, .int (p : Int)] = .ok (.list ((dgs p n).map PyData.int)) := by
  rw [e_figures_for]; unfold P_figures_for
  rw [rg1_rng (n := p) (by omega), R.ok_bind]
  obtain ⟨n', e⟩ := ff_loop ((rng 0 p).map PyData.int) n [] (fun s_21 => revD (.list s_21.2)) (by simp [rng_len]; omega)
  rw [e, List.length_map, rng_len, List.nil_append]
  show R.ok (PyData.list (((dgs p n).reverse.map PyData.int).reverse)) = _
  rw [← List.map_reverse, List.reverse_reverse]
theorem len_fig (ini : List Int) (l : Int) : lenD [.list ((ini ++ [l]).map PyData.int)] = .ok (.int ((ini.length + 1 : Nat) : Int)) := by
  rw [len_list, List.length_map, List.length_append, List.length_singleton]
theorem cord_with_eq {ini : List Int} {l : Int} (F : Fg ini l) : F_cord_with [.list ((ini ++ [l]).map PyData.int)] = .ok (.str (cordS ini l)) := by
  have few := F.few
  rw [e_cord_with]; unfold P_cord_with
  rw [neg1, R.ok_bind, optI_i, R.ok_bind, sl_initL, R.ok_bind, a_itL, R.ok_bind]
  rw [lcP_all PyData.int PyData.str hi ini (by omega) fun f hf => by
    unfold hi
    by_cases h : f = 0
    · simp [h]
    · simp [h, hiW (F.dig f hf)]]
  rw [R.ok_bind, R.ok_bind, ix_last, R.ok_bind]
  have e : (((eqD (.int l) (.int 0)).bind asB).bind fun b_9 => if b_9 = true then R.ok (PyData.str "-") else ((eqD (.int l) (.int 1)).bind asB).bind fun b_10 => if b_10 = true then R.ok (PyData.str "e") else mulS (.str "l") (.int l)) = .ok (.str (lo l)) := by
    unfold lo
    by_cases h : l = 0
    · simp [h]
    · by_cases h1 : l = 1
      · simp [h1]
      · simp [h, h1, loW F.las]
  rw [e, R.ok_bind, appK_lt (by rw [List.length_map, List.length_map, big_eq]; omega), map_ws, ws_join F]
theorem tl_le {n : Int} (h : 0 ≤ n ∧ n < 100000) : ∃ m : Nat, m ≤ 5 ∧ ((strD [.int n]).bind fun a_8 => .ok [a_8]).bind lenD = .ok (.int (m : Int)) := by
  have h2 : (Str.ofString (toString n)).length ≤ 5 := PyProof.Rows.toString_length_le h.1 (by decide) (by have := h.2; omega)
  have hp : decide (n.natAbs.log2 < 1920) = true := plain_int (i := n) ⟨by omega, by omega⟩
  refine ⟨_, h2, ?_⟩
  have : strD [.int n] = chk (decide (n.natAbs.log2 < 1920)) (.ok (.str (toString n))) := rfl
  rw [this, chk_of hp, R.ok_bind, R.ok_bind]
  exact len_str (by omega)
/-- a head that makes the group sound -/
theorem with_head_ok {t : Tr} (G : Grp t) {T : Int} (hT : (t.kids.map (tot 3)).sum = T) {m sz : Nat} (em : ((strD [.int T]).bind fun a_8 => R.ok [a_8]).bind lenD = .ok (.int (m : Int))) (mx : max ((t.ini.length + 1 : Nat) : Int) (m : Int) = ((sz + 1 : Nat) : Int)) (hs : sz ≤ 4) : F_with_head [encT t] = .ok (encT (.nd (dgs sz (T / 10)) (T % 10) t.kids)) := by
  obtain ⟨h5, hk⟩ := G.ok
  have Cs : Cd (dgs sz (T / 10)) (T % 10) := ⟨⟨by rw [dgs_len]; omega, dgs_dig _ _, by unfold Dig; omega⟩, by rw [dgs_len]; omega⟩
  rw [e_with_head]; unfold P_with_head
  rw [check_group_ok G, R.ok_bind, kd_T, hd_T, R.ok_bind, a_itT, R.ok_bind]
  rw [lcP_all encT PyData.int (tot 3) t.kids (by omega) fun k hk2 => by
    rw [F_tot 3 k (hk k hk2).1 (hk k hk2).2 (by decide)]; rfl]
  rw [R.ok_bind, R.ok_bind, R.ok_bind, sum_ok, hT, R.ok_bind, R.ok_bind, R.ok_bind, chk_of (rfl : ([PyData.str (cordS t.ini t.l)].length == 1) = true), G.cd.figs, R.ok_bind, R.ok_bind, len_fig, R.ok_bind, em, R.ok_bind, R.ok_bind, R.ok_bind, a_max2, mx, R.ok_bind, a_gtI, R.ok_bind, a_asB, R.ok_bind, iteF (decide_eq_false (by omega)), figures_for_eq _ (by omega), R.ok_bind, R.ok_bind, chk_of (rfl : ([PyData.list ((dgs (sz + 1) T).map PyData.int)].length == 1) = true)]
  rw [show dgs (sz + 1) T = dgs sz (T / 10) ++ [T % 10] from rfl, cord_with_eq Cs.toFg, R.ok_bind, R.ok_bind, R.ok_bind, R.ok_bind, a_mkT, chk_of (decide_eq_true (by simp [big_eq])), encT_eq (.nd (dgs sz (T / 10)) (T % 10) t.kids)]
  rfl
/-! ### told is due -/
theorem same_word {w : Str} (hw : plainOk (.str w) = true ∧ w.length ≤ 10) : F__law_same [.tuple [.str w], .tuple [.str w]] = .ok (.bool true) := by
  refine same_refl ?_ ?_ ?_
  · rw [plainOk, plainOkAll, plainOkAll, hw.1]; rfl
  · simp [PyData.depth, PyData.depthAll]
  · have := hw.2
    simp only [cost, costAll, List.length_cons, List.length_nil]; omega
theorem w_told : plainOk (.str "told") = true ∧ ("told" : Str).length ≤ 10 := by decide +kernel
theorem w_within : plainOk (.str "within") = true ∧ ("within" : Str).length ≤ 10 := by decide +kernel
theorem w_group : plainOk (.str "group") = true ∧ ("group" : Str).length ≤ 10 := by decide +kernel
theorem same_told {T : Tr} (C : Cd T.ini T.l) (h : okL 4 T.kids) (hs : sizeT T ≤ 100) : F__law_same [.tuple [.str "told", encT T], .tuple [.str "told", encT T]] = .ok (.bool true) := by
  obtain ⟨a, b, c⟩ := tree_shown 4 T C.toFg h
  have hw := w_told
  refine same_refl ?_ ?_ ?_
  · rw [plainOk, plainOkAll, plainOkAll, plainOkAll, hw.1, a]; rfl
  · simp only [PyData.depth, PyData.depthAll]; omega
  · have := hw.2
    simp only [cost, costAll, List.length_cons, List.length_nil]; omega
theorem told0 {x y z v : PD} (h : F_with_head [x] = .ok v) : F__law_told [.int 0, x, y, z] = .ok (.tuple [.str "told", v]) := by
  rw [e__law_told]; unfold P__law_told; rw [h]; rfl
theorem told1 {x y z v : PD} (h : F_moved_cord [x, y, z] = .ok v) : F__law_told [.int 1, x, y, z] = .ok (.tuple [.str "told", v]) := by
  rw [e__law_told]; unfold P__law_told; rw [h]; rfl
theorem told1g {x y z : PD} (h : F_moved_cord [x, y, z] = .ex "BadGroup" []) : F__law_told [.int 1, x, y, z] = .ok (.tuple [.str "group"]) := by
  rw [e__law_told]; unfold P__law_told; rw [h]; rfl
theorem told1p {x y z : PD} (h : F_moved_cord [x, y, z] = .ex "BadPath" []) : F__law_told [.int 1, x, y, z] = .ok (.tuple [.str "path"]) := by
  rw [e__law_told]; unfold P__law_told; rw [h]; rfl
theorem told1w {x y z : PD} (h : F_moved_cord [x, y, z] = .ex "Within" []) : F__law_told [.int 1, x, y, z] = .ok (.tuple [.str "within"]) := by
  rw [e__law_told]; unfold P__law_told; rw [h]; rfl
/-! ### wrong values -/
def cond1 (wrong_18 : PD) : R Bool := ((((lcP [(.int 0), (.int 1)] fun call_19 => (F__law_told [call_19, wrong_18, .none, .none]).sm).bind fun l_20 => .ok (.list l_20)).bind fun a_21 => ((repD [(.tuple [(.str "group")])] (.int 2)).bind fun l_22 => .ok (.list l_22)).bind (neD a_21)).bind asB)
def isFB : R Bool → Bool
  | .ok false => true
  | _ => false
theorem isFB_eq {r : R Bool} (h : isFB r = true) : r = .ok false := by
  unfold isFB at h
  split at h
  · rfl
  · cases h
def wrongs : List PD := match (F__law_wrong_groups []).bind itD with
  | .ok ds => ds
  | _ => []
theorem wrongs_ok : (F__law_wrong_groups []).bind itD = .ok (wrongs.map id) := by kernel_rfl
theorem wrongs_no : (wrongs.all fun w => isFB (cond1 w)) = true := by kernel_rfl
def badP : List PD := [.none, .list [], .list [.int 0], .tuple [.int (-1)], .tuple [.bool true], .tuple [.int 9], .tuple [.int 0, .int 0, .int 0, .int 0, .int 0], .int 0, .str "a"]
theorem badP_no (g : PD) : ∀ w ∈ badP, F_check_path [g, w] = .ex "BadPath" [] := by
  intro w hw
  simp only [badP, List.mem_cons, List.not_mem_nil, or_false] at hw
  rw [e_check_path]; unfold P_check_path
  rcases hw with rfl | rfl | rfl | rfl | rfl | rfl | rfl | rfl | rfl <;> kernel_rfl
theorem zero_mem {t : Tr} (G : Grp t) : [0] ∈ allP t := by
  have hk := G.some
  unfold allP
  cases h : t.kids with
  | nil => exact absurd h hk
  | cons u us =>
    show [0] ∈ [] :: pathsN 3 0 (u :: us) []
    rw [pathsN_cons]
    simp
theorem refuses_ok {t : Tr} (G : Grp t) : F__law_refuses [encT t] = .ok (.bool true) := by
  have hg := check_group_ok G
  have p0 : F_check_path [encT t, .tuple []] = .ok .none := by
    have := check_path_eq G (p := []) ⟨by decide, by simp⟩
    rw [if_pos (show ([] : List Int) ∈ allP t from List.mem_cons_self)] at this
    exact this
  have p1 : F_check_path [encT t, .tuple [.int 0]] = .ok .none := by
    have := check_path_eq G (p := [0]) ⟨by decide, by simp⟩
    rw [if_pos (zero_mem G)] at this
    exact this
  rw [e__law_refuses]; unfold P__law_refuses
  rw [wrongs_ok, R.ok_bind]
  rw [forK_skip id () wrongs fun w hw next brk => by
    have h1 := isFB_eq (List.all_eq_true.mp wrongs_no w hw)
    show ((cond1 w).bind fun b_24 => if b_24 = true then R.ok (.bool false) else next ()) = next ()
    rw [h1, R.ok_bind]
    exact iteF rfl]
  rw [show (((((((((negD (.int 1)).bind fun a_29 => R.ok [a_29]).bind mkT).bind fun a_30 => R.ok [a_30, (.tuple [(.bool true)]), (.tuple [(.int 9)]), (.tuple [(.int 0), (.int 0), (.int 0), (.int 0), (.int 0)]), (.int 0), (.str "a")]).bind fun ds_31 => R.ok ((.list [(.int 0)]) :: ds_31)).bind fun ds_32 => R.ok ((.list []) :: ds_32)).bind fun ds_33 => R.ok (.none :: ds_33)).bind mkT).bind itD) = .ok (badP.map id) by kernel_rfl, R.ok_bind]
  rw [forK_skip id () badP fun w hw next brk => by
    have b := badP_no (encT t) w hw
    have m1 : F_moved_cord [encT t, w, .none] = .ex "BadPath" [] := by rw [e_moved_cord]; unfold P_moved_cord; rw [hg, b]; rfl
    have m2 : F_moved_cord [encT t, .tuple [.int 0], w] = .ex "BadPath" [] := by rw [e_moved_cord]; unfold P_moved_cord; rw [hg, p1, b]; rfl
    show ((((F__law_told [(.int 1), encT t, w, .none]).bind fun a_51 => neD a_51 (.tuple [(.str "path")])).bind asB).bind fun b_52 => if b_52 = true then R.ok true else ((F__law_told [(.int 1), encT t, (.tuple [(.int 0)]), w]).bind fun a_53 => neD a_53 (.tuple [(.str "path")])).bind asB).bind (fun b_54 => if b_54 = true then R.ok (.bool false) else next ()) = next ()
    rw [told1p m1, told1p m2]
    rfl]
  have n1 : F_moved_cord [encT t, .tuple [], .tuple []] = .ex "BadPath" [] := by rw [e_moved_cord]; unfold P_moved_cord; rw [hg, p0]; rfl
  have n2 : F_moved_cord [encT t, .tuple [], .tuple [.int 0]] = .ex "BadPath" [] := by rw [e_moved_cord]; unfold P_moved_cord; rw [hg, p0, p1]; rfl
  have n3 : F_moved_cord [encT t, .tuple [.int 0], .tuple [.int 0]] = .ex "Within" [] := by rw [e_moved_cord]; unfold P_moved_cord; rw [hg, p1]; rfl
  rw [told1p n1, told1p n2, told1w n3]
  kernel_rfl
end K52
namespace K52
open PySem PySem.Spec L2 DL
theorem goodX {t : Tr} (O : Ok t) : ∀ x ∈ flatXT 0 t, x.2.2 ≤ 5 ∧ CdR x.2.1 := partX O.grp.cd O.grp.ok 0
theorem gap_tot (t : Tr) : numT t - (t.kids.map (tot 3)).sum = 2 * numT t - tot 4 t := by
  show _ = 2 * numT t - (numT t + (t.kids.map (tot 3)).sum)
  omega
theorem tot_b2 {t : Tr} (O : Ok t) : 0 ≤ numT t ∧ numT t ≤ 99999 ∧ 0 ≤ tot 4 t ∧ tot 4 t ≤ 1299987 := by
  have hs := O.size
  have h1 := cord_num O.grp.cd
  rw [← tot_rows t 4 0 O.grp.ok]
  have := sum_b 99999 ((flatT 0 t).map rnum) fun x hx => by
    obtain ⟨r, hr, rfl⟩ := List.mem_map.mp hx
    exact rows_num 4 t 0 O.grp.cd O.grp.ok r hr
  rw [List.length_map, flatT_len] at this
  unfold numT
  omega
theorem l1_ok {t : Tr} (O : Ok t) {k k2 : Nat} (hk : 1 ≤ k) (hk1 : k < sizeT t) (hk2 : k2 < sizeT t) (next brk : Unit → R PD) : P_law_l1 (encRows (flatT 0 t)) (encT t) (.list ((allP t).map encP)) (.int (k : Int)) (.int (k2 : Int)) () next brk = next () := by
  have hs := O.size
  obtain ⟨q, r, D, P⟩ := place_ex O.grp.cd O.grp.ok hk1
  obtain ⟨q2, r2, D2, P2⟩ := place_ex O.grp.cd O.grp.ok hk2
  have hq : q ≠ [] := fun e => by have := P.sp.zero.mpr e; omega
  have pa := ix_L encP P.at'
  have pa2 := ix_L encP P2.at'
  unfold P_law_l1
  rw [pa, R.ok_bind, pa2, R.ok_bind, R.ok_bind, R.ok_bind, R.ok_bind, R.ok_bind, chk_of (rfl : ([PyData.int 1, encT t, encP q, encP q2].length == 4) = true)]
  by_cases c : q <+: q2
  · rw [told1w (moved_within O P P2 hq c), R.ok_bind, due_within O P P2 c, R.ok_bind, R.ok_bind, R.ok_bind, chk_of (rfl : ([PyData.tuple [.str "within"], PyData.tuple [.str "within"]].length == 2) = true), same_word w_within, R.ok_bind, a_truB, R.ok_bind, R.ok_bind, iteF (show (!true) = false from rfl)]
    rfl
  · obtain ⟨pi, i, rfl⟩ : ∃ pi i, q = pi ++ [i] := ⟨q.dropLast, q.getLast hq, (List.dropLast_concat_getLast hq).symm⟩
    obtain ⟨N1, pp, N2, a, b, M⟩ := moved (D2 := D2) P.sp P2.sp c (goodX O) P.cd P.ok
    obtain ⟨d1, d2⟩ := due_moved O P P2 c M
    have me := moved_eq O P P2 c M
    by_cases ok : okL 4 N2.kids
    · have G2 : Grp N2 := ⟨M.head, ok, fun e => by
        have h1 := M.size2
        have h2 := sizeT_eq N2
        rw [e, sizeL] at h2
        omega, by rw [paths_size 4 _ _ ok]; have h1 := M.size2; have h2 := sizeT_eq N2; omega⟩
      rw [check_group_ok G2, R.ok_bind] at me
      have s2 : sizeT N2 ≤ 100 := by rw [M.size2]; omega
      have gb := tot_b2 O
      have ge : numT N2 - (N2.kids.map (tot 3)).sum = numT t - (t.kids.map (tot 3)).sum := by
        rw [gap_tot, gap_tot, ← tot_rows t 4 0 O.grp.ok, ← tot_rows N2 4 0 ok, M.sum]
        unfold numT
        rw [M.ini, M.las]
      rw [told1 me, R.ok_bind, d1 ok, R.ok_bind, R.ok_bind, R.ok_bind, chk_of (rfl : ([PyData.tuple [.str "told", encT N2], PyData.tuple [.str "told", encT N2]].length == 2) = true), same_told G2.cd ok s2, R.ok_bind, a_truB, R.ok_bind, R.ok_bind, iteF (show (!true) = false from rfl)]
      rw [show ixD (.tuple [.str "told", encT N2]) (.int 0) = .ok (.str "told") from rfl, show ixD (.tuple [.str "told", encT N2]) (.int 1) = .ok (encT N2) from rfl, R.ok_bind, a_eqS, R.ok_bind, a_asB, R.ok_bind, iteT (by simp), R.ok_bind, R.ok_bind, chk_of (rfl : ([encT N2].length == 1) = true), is_group_ok G2, R.ok_bind, show (isnD (.bool true) (.bool true)) = .ok (.bool false) from rfl, R.ok_bind, a_asB, R.ok_bind, iteF rfl, R.ok_bind, chk_of (rfl : ([encT N2].length == 1) = true), gap_ok G2, R.ok_bind, gap_ok O.grp, R.ok_bind, R.ok_bind, R.ok_bind, ge]
      rw [gap_tot, chk_of (rfl : ([PyData.int (2 * numT t - tot 4 t), PyData.int (2 * numT t - tot 4 t)].length == 2) = true), same_int (by omega), R.ok_bind, a_truB, R.ok_bind, R.ok_bind]
      exact iteF rfl
    · rw [check_group_no M.cds ok] at me
      have me' : F_moved_cord [encT t, encP (pi ++ [i]), encP q2] = .ex "BadGroup" [] := me
      rw [told1g me', R.ok_bind, d2 ok, R.ok_bind, R.ok_bind, R.ok_bind, chk_of (rfl : ([PyData.tuple [.str "group"], PyData.tuple [.str "group"]].length == 2) = true), same_word w_group, R.ok_bind, a_truB, R.ok_bind, R.ok_bind, iteF (show (!true) = false from rfl)]
      rfl
theorem pick2 (v : Int) : ∃ c : Int, (1 ≤ c ∧ c ≤ 8) ∧ ixD (.list [(.int 8), (.int 4)]) (.int (v % 2)) = .ok (.int c) := by
  have : v % 2 = 0 ∨ v % 2 = 1 := by omega
  rcases this with e | e <;> rw [e]
  · exact ⟨8, by omega, rfl⟩
  · exact ⟨4, by omega, rfl⟩
theorem law_main {ds : List Int} (hl : ds.length = 60) (ho : DrawOk ds) {ns : List Int} (hd : F__law_draws ns 60 = .ok (.list (ds.map PyData.int))) : P_law ns = .ok (.bool true) := by
  obtain ⟨v45, d45, b45⟩ := dr_ix hl ho 45 (by omega)
  obtain ⟨c, hc, ec⟩ := pick2 v45
  obtain ⟨t, n, W, hn, hn5, er⟩ := law_rows_ok (ds := ds.take 45) (by rw [List.length_take]; omega) (fun d h => ho d (List.mem_of_mem_take h)) (pl := 4) (by decide) hc
  have G := W.grp hn
  have hs := W.size
  have hh := W.hd4
  have O : Ok t := ⟨G, by omega⟩
  have st := sizeT_eq t
  have la := O.len
  obtain ⟨T, hT⟩ : ∃ T, ((flatL (0 + 1) t.kids).map rnum).sum = T := ⟨_, rfl⟩
  have hT2 : (t.kids.map (tot 3)).sum = T := by rw [← hT]; exact (tot_rowsL t.kids 3 (0 + 1) fun u hu => (G.ok.2 u hu).2).symm
  have Tb : 0 ≤ T ∧ T < 100000 := by
    have gx := goodX O
    have cr : ∀ r ∈ flatL (0 + 1) t.kids, 0 ≤ rnum r ∧ rnum r ≤ 9999 := fun r hr => by
      have h2 := W.wid r hr
      have hr2 := hr
      rw [← unX_L] at hr2
      obtain ⟨x, hx, rfl⟩ := List.mem_map.mp hr2
      obtain ⟨ini, l, e, C⟩ := (gx x (by rw [flatXT_eq]; exact List.mem_cons_of_mem _ hx)).2
      have dg : ∀ f ∈ (unX x).2, Dig f := fun f hf => by
        have hf : f ∈ x.2.1 := hf
        rw [e] at hf
        rcases List.mem_append.mp hf with hf | hf
        · exact C.dig f hf
        · rw [List.mem_singleton.mp hf]; exact C.las
      have := numOf_b (unX x).2 0 (by decide) dg
      have hp : 10 ^ (unX x).2.length ≤ 10 ^ 4 := Nat.pow_le_pow_right (by decide) (by omega)
      have e3 : (10 : Nat) ^ 4 = 10000 := by decide
      rw [e3] at hp
      unfold rnum numOf
      omega
    have := sum_b 9999 ((flatL (0 + 1) t.kids).map rnum) fun x hx => by
      obtain ⟨r, hr, rfl⟩ := List.mem_map.mp hx
      exact cr r hr
    rw [List.length_map, flatL_len, hT] at this
    omega
  obtain ⟨m, hm, em⟩ := tl_le Tb
  obtain ⟨sz, hsz⟩ : ∃ sz : Nat, max t.ini.length (m - 1) = sz := ⟨_, rfl⟩
  have szb : sz ≤ 4 := by omega
  have mx : max ((t.ini.length + 1 : Nat) : Int) (m : Int) = ((sz + 1 : Nat) : Int) := by omega
  have Cs : Cd (dgs sz (T / 10)) (T % 10) := ⟨⟨by rw [dgs_len]; omega, dgs_dig _ _, by unfold Dig; omega⟩, by rw [dgs_len]; omega⟩
  obtain ⟨ts, hts⟩ : ∃ ts, ts = Tr.nd (dgs sz (T / 10)) (T % 10) t.kids := ⟨_, rfl⟩
  have fs : flatT 0 ts = (0, dgs (sz + 1) T) :: flatL (0 + 1) t.kids := by rw [hts, flatT]; rfl
  have sts : sizeT ts = sizeT t := by rw [hts, sizeT, st]
  have Cts : Cd ts.ini ts.l := by rw [hts]; exact Cs
  have kts : okL 4 ts.kids := by rw [hts]; exact G.ok
  have wh := with_head_ok G hT2 em mx szb
  rw [← hts] at wh
  have tail1 : slD (encRows (flatT 0 t)) (some 1) none = .ok (.list ((flatL (0 + 1) t.kids).map encRow)) := by
    rw [flatT_eq]
    exact sl_dropL encRow _ 1
  have head0 : ixD (encRows (flatT 0 t)) (.int 0) = .ok (encRow (0, t.ini ++ [t.l])) := by
    rw [flatT_eq]
    exact ix_L (i := 0) encRow rfl
  unfold P_law
  rw [hd, R.ok_nx, R.ok_bind, show slD (.list (ds.map PyData.int)) none (some 45) = .ok (.list ((ds.take 45).map PyData.int)) from sl_takeL PyData.int ds 45, R.ok_bind, d45, R.ok_bind, R.ok_bind, iv, R.ok_bind, a_modI, chk_of (show decide ((0 : Int) < 2) = true from rfl), R.ok_bind, ec, R.ok_bind, R.ok_bind, R.ok_bind, R.ok_bind, chk_of (rfl : ([PyData.list ((ds.take 45).map PyData.int), PyData.int 4, PyData.int c].length == 3) = true), er, R.ok_bind, made_ok W.cd.toFg 4 (by decide) W.ok (by omega), R.ok_bind]
  rw [tail1, R.ok_bind, a_itL, R.ok_bind]
  rw [lcP_all encRow PyData.int rnum (flatL (0 + 1) t.kids) (by rw [flatL_len]; omega) fun q _ => by
    rw [show ixD (encRow q) (.int 1) = .ok (.list (q.2.map PyData.int)) from rfl, R.ok_bind, R.ok_bind, chk_of (rfl : ([PyData.list (q.2.map PyData.int)].length == 1) = true), law_number_eq]; rfl]
  rw [R.ok_bind, R.ok_bind, R.ok_bind, sum_ok, hT, R.ok_bind, head0, R.ok_bind, show ixD (encRow (0, t.ini ++ [t.l])) (.int 1) = .ok (.list ((t.ini ++ [t.l]).map PyData.int)) from rfl, R.ok_bind, R.ok_bind, len_fig, R.ok_bind, em, R.ok_bind, R.ok_bind, R.ok_bind, a_max2, mx, R.ok_bind, a_ltI, R.ok_bind, a_asB, R.ok_bind, iteT (decide_eq_true (by omega)), pad_eq _ ⟨by omega, by omega⟩, R.ok_bind, told0 wh, R.ok_bind, R.ok_bind, iteT (decide_eq_true (by omega)), R.ok_bind, a_addL, chk_of (decide_eq_true (by simp only [List.length_map, List.length_cons, List.length_nil, flatL_len, big_eq]; omega)), R.ok_bind, R.ok_bind]
  rw [show PyData.list ([PyData.tuple [.int 0, .list ((dgs (sz + 1) T).map PyData.int)]] ++ (flatL (0 + 1) t.kids).map encRow) = encRows (flatT 0 ts) by rw [fs]; rfl]
  rw [chk_of (rfl : ([encRows (flatT 0 ts)].length == 1) = true), made_ok Cts.toFg 4 (by decide) kts (by omega), R.ok_bind, R.ok_bind, R.ok_bind, a_mkT, chk_of (decide_eq_true (by simp [big_eq])), R.ok_bind, R.ok_bind, R.ok_bind, chk_of (rfl : ([PyData.tuple [.str "told", encT ts], PyData.tuple [.str "told", encT ts]].length == 2) = true), same_told Cts kts (by omega), R.ok_bind, a_truB, R.ok_bind, R.ok_bind, iteF (show (!true) = false from rfl)]
  rw [lenR, R.ok_bind, rg1_rng (by omega), R.ok_bind]
  rw [lcP_all PyData.int encP (fun j => (allP t).getD j.toNat []) (rng 0 (sizeT t)) (by rw [rng_len]; omega) fun j hj => by
    have hj := mem_rng.mp hj
    obtain ⟨m, rfl⟩ : ∃ m : Nat, j = (m : Int) := ⟨j.toNat, by omega⟩
    obtain ⟨q, r, D', Q⟩ := place_ex W.cd W.ok (k := m) (by omega)
    rw [path_all W.cd W.ok (by omega) Q, Int.toNat_natCast, List.getD_eq_getElem?_getD, Q.at']; rfl]
  rw [← la, map_places, R.ok_bind, R.ok_bind, la, R.ok_bind, rg2_ok (by omega) (by omega) (by omega), R.ok_bind]
  rw [forK_skip PyData.int () _ fun x hx next brk => by
    have hx := mem_rng.mp hx
    obtain ⟨k, rfl⟩ : ∃ k : Nat, x = (k : Int) := ⟨x.toNat, by omega⟩
    unfold P_law_l2
    rw [lenR, R.ok_bind, rg1_rng (by omega), R.ok_bind, forK_skip PyData.int () _ fun y hy next brk => by
      have hy := mem_rng.mp hy
      obtain ⟨k2, rfl⟩ : ∃ k2 : Nat, y = (k2 : Int) := ⟨y.toNat, by omega⟩
      exact l1_ok O (by omega) (by omega) (by omega) next brk]]
  exact refuses_ok G
theorem holds (ns : List Int) (h : ns.length ≤ 63) : F_law ns = .ok (.bool true) := by
  obtain ⟨ds, e, hl, ho⟩ := draws_ok ns 60 (by decide)
  have hd : F__law_draws ns 60 = .ok (.list (ds.map PyData.int)) := e
  rw [e_law]
  exact law_main hl ho hd
end K52
namespace K52
open PySem PySem.Spec PyProof.Rows L2 DL
theorem all_mk {l : PySem.W.OpenLaw} {w : World} {K : PySem.W.Frag} {h : Heap} {mg : Str → Option Value} {fa : Addr} (X : K.In h) (G : h.Ns mainGlobals mg) (hfa : mg "law" = some (.ref fa))
    {f_is_whole : Addr} {od_is_whole an_is_whole : Option Addr} {sl_is_whole : Array (Option Value)} {oc_is_whole kV_is_whole dc_is_whole pm_is_whole cd_is_whole ct_is_whole : Value}
    {f__is_high : Addr} {od__is_high an__is_high : Option Addr} {sl__is_high : Array (Option Value)} {oc__is_high kV__is_high dc__is_high pm__is_high cd__is_high ct__is_high : Value}
    {f__are_units : Addr} {od__are_units an__are_units : Option Addr} {sl__are_units : Array (Option Value)} {oc__are_units kV__are_units dc__are_units pm__are_units cd__are_units ct__are_units : Value}
    {f_figures_on : Addr} {od_figures_on an_figures_on : Option Addr} {sl_figures_on : Array (Option Value)} {oc_figures_on kV_figures_on dc_figures_on pm_figures_on cd_figures_on ct_figures_on : Value}
    {f_cord_with : Addr} {od_cord_with an_cord_with : Option Addr} {sl_cord_with : Array (Option Value)} {oc_cord_with kV_cord_with dc_cord_with pm_cord_with cd_cord_with ct_cord_with : Value}
    {f_number_by : Addr} {od_number_by an_number_by : Option Addr} {sl_number_by : Array (Option Value)} {oc_number_by kV_number_by dc_number_by pm_number_by cd_number_by ct_number_by : Value}
    {f_figures_for : Addr} {od_figures_for an_figures_for : Option Addr} {sl_figures_for : Array (Option Value)} {oc_figures_for kV_figures_for dc_figures_for pm_figures_for cd_figures_for ct_figures_for : Value}
    {f_part_at : Addr} {od_part_at an_part_at : Option Addr} {sl_part_at : Array (Option Value)} {oc_part_at kV_part_at dc_part_at pm_part_at cd_part_at ct_part_at : Value}
    {f__law_draws : Addr} {od__law_draws an__law_draws : Option Addr} {sl__law_draws : Array (Option Value)} {oc__law_draws kV__law_draws dc__law_draws pm__law_draws cd__law_draws ct__law_draws : Value}
    {f__law_cord : Addr} {od__law_cord an__law_cord : Option Addr} {sl__law_cord : Array (Option Value)} {oc__law_cord kV__law_cord dc__law_cord pm__law_cord cd__law_cord ct__law_cord : Value}
    {f__law_number : Addr} {od__law_number an__law_number : Option Addr} {sl__law_number : Array (Option Value)} {oc__law_number kV__law_number dc__law_number pm__law_number cd__law_number ct__law_number : Value}
    {f__law_parent : Addr} {od__law_parent an__law_parent : Option Addr} {sl__law_parent : Array (Option Value)} {oc__law_parent kV__law_parent dc__law_parent pm__law_parent cd__law_parent ct__law_parent : Value}
    {f__law_rows : Addr} {od__law_rows an__law_rows : Option Addr} {sl__law_rows : Array (Option Value)} {oc__law_rows kV__law_rows dc__law_rows pm__law_rows cd__law_rows ct__law_rows : Value}
    {f__law_wrong_groups : Addr} {od__law_wrong_groups an__law_wrong_groups : Option Addr} {sl__law_wrong_groups : Array (Option Value)} {oc__law_wrong_groups kV__law_wrong_groups dc__law_wrong_groups pm__law_wrong_groups cd__law_wrong_groups ct__law_wrong_groups : Value}
    {f__law_same : Addr} {od__law_same an__law_same : Option Addr} {sl__law_same : Array (Option Value)} {oc__law_same kV__law_same dc__law_same pm__law_same cd__law_same ct__law_same : Value}
    {f_is_cord : Addr} {od_is_cord an_is_cord : Option Addr} {sl_is_cord : Array (Option Value)} {oc_is_cord kV_is_cord dc_is_cord pm_is_cord cd_is_cord ct_is_cord : Value}
    {f__law_path : Addr} {od__law_path an__law_path : Option Addr} {sl__law_path : Array (Option Value)} {oc__law_path kV__law_path dc__law_path pm__law_path cd__law_path ct__law_path : Value}
    {f__paths : Addr} {od__paths an__paths : Option Addr} {sl__paths : Array (Option Value)} {oc__paths kV__paths dc__paths pm__paths cd__paths ct__paths : Value}
    {f__with_part : Addr} {od__with_part an__with_part : Option Addr} {sl__with_part : Array (Option Value)} {oc__with_part kV__with_part dc__with_part pm__with_part cd__with_part ct__with_part : Value}
    {f_all_paths : Addr} {od_all_paths an_all_paths : Option Addr} {sl_all_paths : Array (Option Value)} {oc_all_paths kV_all_paths dc_all_paths pm_all_paths cd_all_paths ct_all_paths : Value}
    {f__total : Addr} {od__total an__total : Option Addr} {sl__total : Array (Option Value)} {oc__total kV__total dc__total pm__total cd__total ct__total : Value}
    {f__law_tree : Addr} {od__law_tree an__law_tree : Option Addr} {sl__law_tree : Array (Option Value)} {oc__law_tree kV__law_tree dc__law_tree pm__law_tree cd__law_tree ct__law_tree : Value}
    {f__are_hung : Addr} {od__are_hung an__are_hung : Option Addr} {sl__are_hung : Array (Option Value)} {oc__are_hung kV__are_hung dc__are_hung pm__are_hung cd__are_hung ct__are_hung : Value}
    {f_check_path : Addr} {od_check_path an_check_path : Option Addr} {sl_check_path : Array (Option Value)} {oc_check_path kV_check_path dc_check_path pm_check_path cd_check_path ct_check_path : Value}
    {f_gap_in : Addr} {od_gap_in an_gap_in : Option Addr} {sl_gap_in : Array (Option Value)} {oc_gap_in kV_gap_in dc_gap_in pm_gap_in cd_gap_in ct_gap_in : Value}
    {f__law_made : Addr} {od__law_made an__law_made : Option Addr} {sl__law_made : Array (Option Value)} {oc__law_made kV__law_made dc__law_made pm__law_made cd__law_made ct__law_made : Value}
    {f_is_group : Addr} {od_is_group an_is_group : Option Addr} {sl_is_group : Array (Option Value)} {oc_is_group kV_is_group dc_is_group pm_is_group cd_is_group ct_is_group : Value}
    {f__law_due : Addr} {od__law_due an__law_due : Option Addr} {sl__law_due : Array (Option Value)} {oc__law_due kV__law_due dc__law_due pm__law_due cd__law_due ct__law_due : Value}
    {f_check_group : Addr} {od_check_group an_check_group : Option Addr} {sl_check_group : Array (Option Value)} {oc_check_group kV_check_group dc_check_group pm_check_group cd_check_group ct_check_group : Value}
    {f_gap_of : Addr} {od_gap_of an_gap_of : Option Addr} {sl_gap_of : Array (Option Value)} {oc_gap_of kV_gap_of dc_gap_of pm_gap_of cd_gap_of ct_gap_of : Value}
    {f_with_head : Addr} {od_with_head an_with_head : Option Addr} {sl_with_head : Array (Option Value)} {oc_with_head kV_with_head dc_with_head pm_with_head cd_with_head ct_with_head : Value}
    {f_moved_cord : Addr} {od_moved_cord an_moved_cord : Option Addr} {sl_moved_cord : Array (Option Value)} {oc_moved_cord kV_moved_cord dc_moved_cord pm_moved_cord cd_moved_cord ct_moved_cord : Value}
    {f__law_told : Addr} {od__law_told an__law_told : Option Addr} {sl__law_told : Array (Option Value)} {oc__law_told kV__law_told dc__law_told pm__law_told cd__law_told ct__law_told : Value}
    {f__law_refuses : Addr} {od__law_refuses an__law_refuses : Option Addr} {sl__law_refuses : Array (Option Value)} {oc__law_refuses kV__law_refuses dc__law_refuses pm__law_refuses cd__law_refuses ct__law_refuses : Value}
    {f_law : Addr} {od_law an_law : Option Addr} {sl_law : Array (Option Value)} {oc_law kV_law dc_law pm_law cd_law ct_law : Value}
    {t_BETWEEN : Tok}
    {t_MOST_DEEP : Tok}
    {t_MOST_HUNG : Tok}
    {t_MOST_IN_ALL : Tok}
    {t_MOST_PLACES : Tok}
    {t_NONE : Tok}
    {t_ONE : Tok}
    {t_SINGLE : Tok}
    {t_TURN : Tok}
    {C_BadGroup : Addr}
    {C_BadPath : Addr}
    {C_TooMany : Addr}
    {C_Within : Addr}
    (a_is_whole : PySem.W.nsIn K mainGlobals "is_whole" = some (some (.ref f_is_whole)))
    (l_is_whole : K.lookup f_is_whole = some ⟨oc_is_whole, od_is_whole, .func (PySem.W.fnOf "is_whole" "is_whole" (defArgs s_is_whole) (defBody s_is_whole) (defScope s_is_whole) .none kV_is_whole dc_is_whole pm_is_whole an_is_whole cd_is_whole ct_is_whole), sl_is_whole⟩)
    (c_is_whole : PySem.W.codeIn K cd_is_whole "is_whole" = true)
    (k_is_whole : PySem.W.keepIn K (.ref f_is_whole) = true)
    (a__is_high : PySem.W.nsIn K mainGlobals "_is_high" = some (some (.ref f__is_high)))
    (l__is_high : K.lookup f__is_high = some ⟨oc__is_high, od__is_high, .func (PySem.W.fnOf "_is_high" "_is_high" (defArgs s__is_high) (defBody s__is_high) (defScope s__is_high) .none kV__is_high dc__is_high pm__is_high an__is_high cd__is_high ct__is_high), sl__is_high⟩)
    (c__is_high : PySem.W.codeIn K cd__is_high "_is_high" = true)
    (k__is_high : PySem.W.keepIn K (.ref f__is_high) = true)
    (a__are_units : PySem.W.nsIn K mainGlobals "_are_units" = some (some (.ref f__are_units)))
    (l__are_units : K.lookup f__are_units = some ⟨oc__are_units, od__are_units, .func (PySem.W.fnOf "_are_units" "_are_units" (defArgs s__are_units) (defBody s__are_units) (defScope s__are_units) .none kV__are_units dc__are_units pm__are_units an__are_units cd__are_units ct__are_units), sl__are_units⟩)
    (c__are_units : PySem.W.codeIn K cd__are_units "_are_units" = true)
    (k__are_units : PySem.W.keepIn K (.ref f__are_units) = true)
    (a_figures_on : PySem.W.nsIn K mainGlobals "figures_on" = some (some (.ref f_figures_on)))
    (l_figures_on : K.lookup f_figures_on = some ⟨oc_figures_on, od_figures_on, .func (PySem.W.fnOf "figures_on" "figures_on" (defArgs s_figures_on) (defBody s_figures_on) (defScope s_figures_on) .none kV_figures_on dc_figures_on pm_figures_on an_figures_on cd_figures_on ct_figures_on), sl_figures_on⟩)
    (c_figures_on : PySem.W.codeIn K cd_figures_on "figures_on" = true)
    (k_figures_on : PySem.W.keepIn K (.ref f_figures_on) = true)
    (a_cord_with : PySem.W.nsIn K mainGlobals "cord_with" = some (some (.ref f_cord_with)))
    (l_cord_with : K.lookup f_cord_with = some ⟨oc_cord_with, od_cord_with, .func (PySem.W.fnOf "cord_with" "cord_with" (defArgs s_cord_with) (defBody s_cord_with) (defScope s_cord_with) .none kV_cord_with dc_cord_with pm_cord_with an_cord_with cd_cord_with ct_cord_with), sl_cord_with⟩)
    (c_cord_with : PySem.W.codeIn K cd_cord_with "cord_with" = true)
    (k_cord_with : PySem.W.keepIn K (.ref f_cord_with) = true)
    (a_number_by : PySem.W.nsIn K mainGlobals "number_by" = some (some (.ref f_number_by)))
    (l_number_by : K.lookup f_number_by = some ⟨oc_number_by, od_number_by, .func (PySem.W.fnOf "number_by" "number_by" (defArgs s_number_by) (defBody s_number_by) (defScope s_number_by) .none kV_number_by dc_number_by pm_number_by an_number_by cd_number_by ct_number_by), sl_number_by⟩)
    (c_number_by : PySem.W.codeIn K cd_number_by "number_by" = true)
    (k_number_by : PySem.W.keepIn K (.ref f_number_by) = true)
    (a_figures_for : PySem.W.nsIn K mainGlobals "figures_for" = some (some (.ref f_figures_for)))
    (l_figures_for : K.lookup f_figures_for = some ⟨oc_figures_for, od_figures_for, .func (PySem.W.fnOf "figures_for" "figures_for" (defArgs s_figures_for) (defBody s_figures_for) (defScope s_figures_for) .none kV_figures_for dc_figures_for pm_figures_for an_figures_for cd_figures_for ct_figures_for), sl_figures_for⟩)
    (c_figures_for : PySem.W.codeIn K cd_figures_for "figures_for" = true)
    (k_figures_for : PySem.W.keepIn K (.ref f_figures_for) = true)
    (a_part_at : PySem.W.nsIn K mainGlobals "part_at" = some (some (.ref f_part_at)))
    (l_part_at : K.lookup f_part_at = some ⟨oc_part_at, od_part_at, .func (PySem.W.fnOf "part_at" "part_at" (defArgs s_part_at) (defBody s_part_at) (defScope s_part_at) .none kV_part_at dc_part_at pm_part_at an_part_at cd_part_at ct_part_at), sl_part_at⟩)
    (c_part_at : PySem.W.codeIn K cd_part_at "part_at" = true)
    (k_part_at : PySem.W.keepIn K (.ref f_part_at) = true)
    (a__law_draws : PySem.W.nsIn K mainGlobals "_law_draws" = some (some (.ref f__law_draws)))
    (l__law_draws : K.lookup f__law_draws = some ⟨oc__law_draws, od__law_draws, .func (PySem.W.fnOf "_law_draws" "_law_draws" (defArgs s__law_draws) (defBody s__law_draws) (defScope s__law_draws) .none kV__law_draws dc__law_draws pm__law_draws an__law_draws cd__law_draws ct__law_draws), sl__law_draws⟩)
    (c__law_draws : PySem.W.codeIn K cd__law_draws "_law_draws" = true)
    (k__law_draws : PySem.W.keepIn K (.ref f__law_draws) = true)
    (a__law_cord : PySem.W.nsIn K mainGlobals "_law_cord" = some (some (.ref f__law_cord)))
    (l__law_cord : K.lookup f__law_cord = some ⟨oc__law_cord, od__law_cord, .func (PySem.W.fnOf "_law_cord" "_law_cord" (defArgs s__law_cord) (defBody s__law_cord) (defScope s__law_cord) .none kV__law_cord dc__law_cord pm__law_cord an__law_cord cd__law_cord ct__law_cord), sl__law_cord⟩)
    (c__law_cord : PySem.W.codeIn K cd__law_cord "_law_cord" = true)
    (k__law_cord : PySem.W.keepIn K (.ref f__law_cord) = true)
    (a__law_number : PySem.W.nsIn K mainGlobals "_law_number" = some (some (.ref f__law_number)))
    (l__law_number : K.lookup f__law_number = some ⟨oc__law_number, od__law_number, .func (PySem.W.fnOf "_law_number" "_law_number" (defArgs s__law_number) (defBody s__law_number) (defScope s__law_number) .none kV__law_number dc__law_number pm__law_number an__law_number cd__law_number ct__law_number), sl__law_number⟩)
    (c__law_number : PySem.W.codeIn K cd__law_number "_law_number" = true)
    (k__law_number : PySem.W.keepIn K (.ref f__law_number) = true)
    (a__law_parent : PySem.W.nsIn K mainGlobals "_law_parent" = some (some (.ref f__law_parent)))
    (l__law_parent : K.lookup f__law_parent = some ⟨oc__law_parent, od__law_parent, .func (PySem.W.fnOf "_law_parent" "_law_parent" (defArgs s__law_parent) (defBody s__law_parent) (defScope s__law_parent) .none kV__law_parent dc__law_parent pm__law_parent an__law_parent cd__law_parent ct__law_parent), sl__law_parent⟩)
    (c__law_parent : PySem.W.codeIn K cd__law_parent "_law_parent" = true)
    (k__law_parent : PySem.W.keepIn K (.ref f__law_parent) = true)
    (a__law_rows : PySem.W.nsIn K mainGlobals "_law_rows" = some (some (.ref f__law_rows)))
    (l__law_rows : K.lookup f__law_rows = some ⟨oc__law_rows, od__law_rows, .func (PySem.W.fnOf "_law_rows" "_law_rows" (defArgs s__law_rows) (defBody s__law_rows) (defScope s__law_rows) .none kV__law_rows dc__law_rows pm__law_rows an__law_rows cd__law_rows ct__law_rows), sl__law_rows⟩)
    (c__law_rows : PySem.W.codeIn K cd__law_rows "_law_rows" = true)
    (k__law_rows : PySem.W.keepIn K (.ref f__law_rows) = true)
    (a__law_wrong_groups : PySem.W.nsIn K mainGlobals "_law_wrong_groups" = some (some (.ref f__law_wrong_groups)))
    (l__law_wrong_groups : K.lookup f__law_wrong_groups = some ⟨oc__law_wrong_groups, od__law_wrong_groups, .func (PySem.W.fnOf "_law_wrong_groups" "_law_wrong_groups" (defArgs s__law_wrong_groups) (defBody s__law_wrong_groups) (defScope s__law_wrong_groups) .none kV__law_wrong_groups dc__law_wrong_groups pm__law_wrong_groups an__law_wrong_groups cd__law_wrong_groups ct__law_wrong_groups), sl__law_wrong_groups⟩)
    (c__law_wrong_groups : PySem.W.codeIn K cd__law_wrong_groups "_law_wrong_groups" = true)
    (k__law_wrong_groups : PySem.W.keepIn K (.ref f__law_wrong_groups) = true)
    (a__law_same : PySem.W.nsIn K mainGlobals "_law_same" = some (some (.ref f__law_same)))
    (l__law_same : K.lookup f__law_same = some ⟨oc__law_same, od__law_same, .func (PySem.W.fnOf "_law_same" "_law_same" (defArgs s__law_same) (defBody s__law_same) (defScope s__law_same) .none kV__law_same dc__law_same pm__law_same an__law_same cd__law_same ct__law_same), sl__law_same⟩)
    (c__law_same : PySem.W.codeIn K cd__law_same "_law_same" = true)
    (k__law_same : PySem.W.keepIn K (.ref f__law_same) = true)
    (a_is_cord : PySem.W.nsIn K mainGlobals "is_cord" = some (some (.ref f_is_cord)))
    (l_is_cord : K.lookup f_is_cord = some ⟨oc_is_cord, od_is_cord, .func (PySem.W.fnOf "is_cord" "is_cord" (defArgs s_is_cord) (defBody s_is_cord) (defScope s_is_cord) .none kV_is_cord dc_is_cord pm_is_cord an_is_cord cd_is_cord ct_is_cord), sl_is_cord⟩)
    (c_is_cord : PySem.W.codeIn K cd_is_cord "is_cord" = true)
    (k_is_cord : PySem.W.keepIn K (.ref f_is_cord) = true)
    (a__law_path : PySem.W.nsIn K mainGlobals "_law_path" = some (some (.ref f__law_path)))
    (l__law_path : K.lookup f__law_path = some ⟨oc__law_path, od__law_path, .func (PySem.W.fnOf "_law_path" "_law_path" (defArgs s__law_path) (defBody s__law_path) (defScope s__law_path) .none kV__law_path dc__law_path pm__law_path an__law_path cd__law_path ct__law_path), sl__law_path⟩)
    (c__law_path : PySem.W.codeIn K cd__law_path "_law_path" = true)
    (k__law_path : PySem.W.keepIn K (.ref f__law_path) = true)
    (a__paths : PySem.W.nsIn K mainGlobals "_paths" = some (some (.ref f__paths)))
    (l__paths : K.lookup f__paths = some ⟨oc__paths, od__paths, .func (PySem.W.fnOf "_paths" "_paths" (defArgs s__paths) (defBody s__paths) (defScope s__paths) .none kV__paths dc__paths pm__paths an__paths cd__paths ct__paths), sl__paths⟩)
    (c__paths : PySem.W.codeIn K cd__paths "_paths" = true)
    (k__paths : PySem.W.keepIn K (.ref f__paths) = true)
    (a__with_part : PySem.W.nsIn K mainGlobals "_with_part" = some (some (.ref f__with_part)))
    (l__with_part : K.lookup f__with_part = some ⟨oc__with_part, od__with_part, .func (PySem.W.fnOf "_with_part" "_with_part" (defArgs s__with_part) (defBody s__with_part) (defScope s__with_part) .none kV__with_part dc__with_part pm__with_part an__with_part cd__with_part ct__with_part), sl__with_part⟩)
    (c__with_part : PySem.W.codeIn K cd__with_part "_with_part" = true)
    (k__with_part : PySem.W.keepIn K (.ref f__with_part) = true)
    (a_all_paths : PySem.W.nsIn K mainGlobals "all_paths" = some (some (.ref f_all_paths)))
    (l_all_paths : K.lookup f_all_paths = some ⟨oc_all_paths, od_all_paths, .func (PySem.W.fnOf "all_paths" "all_paths" (defArgs s_all_paths) (defBody s_all_paths) (defScope s_all_paths) .none kV_all_paths dc_all_paths pm_all_paths an_all_paths cd_all_paths ct_all_paths), sl_all_paths⟩)
    (c_all_paths : PySem.W.codeIn K cd_all_paths "all_paths" = true)
    (k_all_paths : PySem.W.keepIn K (.ref f_all_paths) = true)
    (a__total : PySem.W.nsIn K mainGlobals "_total" = some (some (.ref f__total)))
    (l__total : K.lookup f__total = some ⟨oc__total, od__total, .func (PySem.W.fnOf "_total" "_total" (defArgs s__total) (defBody s__total) (defScope s__total) .none kV__total dc__total pm__total an__total cd__total ct__total), sl__total⟩)
    (c__total : PySem.W.codeIn K cd__total "_total" = true)
    (k__total : PySem.W.keepIn K (.ref f__total) = true)
    (a__law_tree : PySem.W.nsIn K mainGlobals "_law_tree" = some (some (.ref f__law_tree)))
    (l__law_tree : K.lookup f__law_tree = some ⟨oc__law_tree, od__law_tree, .func (PySem.W.fnOf "_law_tree" "_law_tree" (defArgs s__law_tree) (defBody s__law_tree) (defScope s__law_tree) .none kV__law_tree dc__law_tree pm__law_tree an__law_tree cd__law_tree ct__law_tree), sl__law_tree⟩)
    (c__law_tree : PySem.W.codeIn K cd__law_tree "_law_tree" = true)
    (k__law_tree : PySem.W.keepIn K (.ref f__law_tree) = true)
    (a__are_hung : PySem.W.nsIn K mainGlobals "_are_hung" = some (some (.ref f__are_hung)))
    (l__are_hung : K.lookup f__are_hung = some ⟨oc__are_hung, od__are_hung, .func (PySem.W.fnOf "_are_hung" "_are_hung" (defArgs s__are_hung) (defBody s__are_hung) (defScope s__are_hung) .none kV__are_hung dc__are_hung pm__are_hung an__are_hung cd__are_hung ct__are_hung), sl__are_hung⟩)
    (c__are_hung : PySem.W.codeIn K cd__are_hung "_are_hung" = true)
    (k__are_hung : PySem.W.keepIn K (.ref f__are_hung) = true)
    (a_check_path : PySem.W.nsIn K mainGlobals "check_path" = some (some (.ref f_check_path)))
    (l_check_path : K.lookup f_check_path = some ⟨oc_check_path, od_check_path, .func (PySem.W.fnOf "check_path" "check_path" (defArgs s_check_path) (defBody s_check_path) (defScope s_check_path) .none kV_check_path dc_check_path pm_check_path an_check_path cd_check_path ct_check_path), sl_check_path⟩)
    (c_check_path : PySem.W.codeIn K cd_check_path "check_path" = true)
    (k_check_path : PySem.W.keepIn K (.ref f_check_path) = true)
    (a_gap_in : PySem.W.nsIn K mainGlobals "gap_in" = some (some (.ref f_gap_in)))
    (l_gap_in : K.lookup f_gap_in = some ⟨oc_gap_in, od_gap_in, .func (PySem.W.fnOf "gap_in" "gap_in" (defArgs s_gap_in) (defBody s_gap_in) (defScope s_gap_in) .none kV_gap_in dc_gap_in pm_gap_in an_gap_in cd_gap_in ct_gap_in), sl_gap_in⟩)
    (c_gap_in : PySem.W.codeIn K cd_gap_in "gap_in" = true)
    (k_gap_in : PySem.W.keepIn K (.ref f_gap_in) = true)
    (a__law_made : PySem.W.nsIn K mainGlobals "_law_made" = some (some (.ref f__law_made)))
    (l__law_made : K.lookup f__law_made = some ⟨oc__law_made, od__law_made, .func (PySem.W.fnOf "_law_made" "_law_made" (defArgs s__law_made) (defBody s__law_made) (defScope s__law_made) .none kV__law_made dc__law_made pm__law_made an__law_made cd__law_made ct__law_made), sl__law_made⟩)
    (c__law_made : PySem.W.codeIn K cd__law_made "_law_made" = true)
    (k__law_made : PySem.W.keepIn K (.ref f__law_made) = true)
    (a_is_group : PySem.W.nsIn K mainGlobals "is_group" = some (some (.ref f_is_group)))
    (l_is_group : K.lookup f_is_group = some ⟨oc_is_group, od_is_group, .func (PySem.W.fnOf "is_group" "is_group" (defArgs s_is_group) (defBody s_is_group) (defScope s_is_group) .none kV_is_group dc_is_group pm_is_group an_is_group cd_is_group ct_is_group), sl_is_group⟩)
    (c_is_group : PySem.W.codeIn K cd_is_group "is_group" = true)
    (k_is_group : PySem.W.keepIn K (.ref f_is_group) = true)
    (a__law_due : PySem.W.nsIn K mainGlobals "_law_due" = some (some (.ref f__law_due)))
    (l__law_due : K.lookup f__law_due = some ⟨oc__law_due, od__law_due, .func (PySem.W.fnOf "_law_due" "_law_due" (defArgs s__law_due) (defBody s__law_due) (defScope s__law_due) .none kV__law_due dc__law_due pm__law_due an__law_due cd__law_due ct__law_due), sl__law_due⟩)
    (c__law_due : PySem.W.codeIn K cd__law_due "_law_due" = true)
    (k__law_due : PySem.W.keepIn K (.ref f__law_due) = true)
    (a_check_group : PySem.W.nsIn K mainGlobals "check_group" = some (some (.ref f_check_group)))
    (l_check_group : K.lookup f_check_group = some ⟨oc_check_group, od_check_group, .func (PySem.W.fnOf "check_group" "check_group" (defArgs s_check_group) (defBody s_check_group) (defScope s_check_group) .none kV_check_group dc_check_group pm_check_group an_check_group cd_check_group ct_check_group), sl_check_group⟩)
    (c_check_group : PySem.W.codeIn K cd_check_group "check_group" = true)
    (k_check_group : PySem.W.keepIn K (.ref f_check_group) = true)
    (a_gap_of : PySem.W.nsIn K mainGlobals "gap_of" = some (some (.ref f_gap_of)))
    (l_gap_of : K.lookup f_gap_of = some ⟨oc_gap_of, od_gap_of, .func (PySem.W.fnOf "gap_of" "gap_of" (defArgs s_gap_of) (defBody s_gap_of) (defScope s_gap_of) .none kV_gap_of dc_gap_of pm_gap_of an_gap_of cd_gap_of ct_gap_of), sl_gap_of⟩)
    (c_gap_of : PySem.W.codeIn K cd_gap_of "gap_of" = true)
    (k_gap_of : PySem.W.keepIn K (.ref f_gap_of) = true)
    (a_with_head : PySem.W.nsIn K mainGlobals "with_head" = some (some (.ref f_with_head)))
    (l_with_head : K.lookup f_with_head = some ⟨oc_with_head, od_with_head, .func (PySem.W.fnOf "with_head" "with_head" (defArgs s_with_head) (defBody s_with_head) (defScope s_with_head) .none kV_with_head dc_with_head pm_with_head an_with_head cd_with_head ct_with_head), sl_with_head⟩)
    (c_with_head : PySem.W.codeIn K cd_with_head "with_head" = true)
    (k_with_head : PySem.W.keepIn K (.ref f_with_head) = true)
    (a_moved_cord : PySem.W.nsIn K mainGlobals "moved_cord" = some (some (.ref f_moved_cord)))
    (l_moved_cord : K.lookup f_moved_cord = some ⟨oc_moved_cord, od_moved_cord, .func (PySem.W.fnOf "moved_cord" "moved_cord" (defArgs s_moved_cord) (defBody s_moved_cord) (defScope s_moved_cord) .none kV_moved_cord dc_moved_cord pm_moved_cord an_moved_cord cd_moved_cord ct_moved_cord), sl_moved_cord⟩)
    (c_moved_cord : PySem.W.codeIn K cd_moved_cord "moved_cord" = true)
    (k_moved_cord : PySem.W.keepIn K (.ref f_moved_cord) = true)
    (a__law_told : PySem.W.nsIn K mainGlobals "_law_told" = some (some (.ref f__law_told)))
    (l__law_told : K.lookup f__law_told = some ⟨oc__law_told, od__law_told, .func (PySem.W.fnOf "_law_told" "_law_told" (defArgs s__law_told) (defBody s__law_told) (defScope s__law_told) .none kV__law_told dc__law_told pm__law_told an__law_told cd__law_told ct__law_told), sl__law_told⟩)
    (c__law_told : PySem.W.codeIn K cd__law_told "_law_told" = true)
    (k__law_told : PySem.W.keepIn K (.ref f__law_told) = true)
    (a__law_refuses : PySem.W.nsIn K mainGlobals "_law_refuses" = some (some (.ref f__law_refuses)))
    (l__law_refuses : K.lookup f__law_refuses = some ⟨oc__law_refuses, od__law_refuses, .func (PySem.W.fnOf "_law_refuses" "_law_refuses" (defArgs s__law_refuses) (defBody s__law_refuses) (defScope s__law_refuses) .none kV__law_refuses dc__law_refuses pm__law_refuses an__law_refuses cd__law_refuses ct__law_refuses), sl__law_refuses⟩)
    (c__law_refuses : PySem.W.codeIn K cd__law_refuses "_law_refuses" = true)
    (k__law_refuses : PySem.W.keepIn K (.ref f__law_refuses) = true)
    (a_law : PySem.W.nsIn K mainGlobals "law" = some (some (.ref f_law)))
    (l_law : K.lookup f_law = some ⟨oc_law, od_law, .func (PySem.W.fnOf "law" "law" (defArgs s_law) (defBody s_law) (defScope s_law) .none kV_law dc_law pm_law an_law cd_law ct_law), sl_law⟩)
    (c_law : PySem.W.codeIn K cd_law "law" = true)
    (k_law : PySem.W.keepIn K (.ref f_law) = true)
    (z_abs : PySem.W.nsIn K mainGlobals "abs" = some none)
    (z_all : PySem.W.nsIn K mainGlobals "all" = some none)
    (z_bool : PySem.W.nsIn K mainGlobals "bool" = some none)
    (z_enumerate : PySem.W.nsIn K mainGlobals "enumerate" = some none)
    (z_int : PySem.W.nsIn K mainGlobals "int" = some none)
    (z_isinstance : PySem.W.nsIn K mainGlobals "isinstance" = some none)
    (z_len : PySem.W.nsIn K mainGlobals "len" = some none)
    (z_max : PySem.W.nsIn K mainGlobals "max" = some none)
    (z_min : PySem.W.nsIn K mainGlobals "min" = some none)
    (z_range : PySem.W.nsIn K mainGlobals "range" = some none)
    (z_repr : PySem.W.nsIn K mainGlobals "repr" = some none)
    (z_str : PySem.W.nsIn K mainGlobals "str" = some none)
    (z_sum : PySem.W.nsIn K mainGlobals "sum" = some none)
    (z_tuple : PySem.W.nsIn K mainGlobals "tuple" = some none)
    (v_BETWEEN : PySem.W.nsIn K mainGlobals "BETWEEN" = some (some (.str "/" t_BETWEEN)))
    (v_MOST_DEEP : PySem.W.nsIn K mainGlobals "MOST_DEEP" = some (some (.int 4 t_MOST_DEEP)))
    (v_MOST_HUNG : PySem.W.nsIn K mainGlobals "MOST_HUNG" = some (some (.int 5 t_MOST_HUNG)))
    (v_MOST_IN_ALL : PySem.W.nsIn K mainGlobals "MOST_IN_ALL" = some (some (.int 12 t_MOST_IN_ALL)))
    (v_MOST_PLACES : PySem.W.nsIn K mainGlobals "MOST_PLACES" = some (some (.int 5 t_MOST_PLACES)))
    (v_NONE : PySem.W.nsIn K mainGlobals "NONE" = some (some (.str "-" t_NONE)))
    (v_ONE : PySem.W.nsIn K mainGlobals "ONE" = some (some (.str "e" t_ONE)))
    (v_SINGLE : PySem.W.nsIn K mainGlobals "SINGLE" = some (some (.str "s" t_SINGLE)))
    (v_TURN : PySem.W.nsIn K mainGlobals "TURN" = some (some (.str "l" t_TURN)))
    (g_BadGroup : PySem.W.nsIn K mainGlobals "BadGroup" = some (some (.ref C_BadGroup)))
    (x_BadGroup : PySem.W.excIn K C_BadGroup [.type "ValueError", .type "Exception", .type "BaseException", .type "object"] "ValueError.__new__" = true)
    (kk_BadGroup : PySem.W.keepIn K (.ref C_BadGroup) = true)
    (s_BadGroup : PySem.W.subIn K (.ref C_BadGroup) (.type "BaseException") = some true)
    (t_BadGroup : PySem.W.typeIn K (.ref C_BadGroup) = some (.type "type"))
    (i_BadGroup : PySem.W.isClsIn K C_BadGroup = true)
    (g_BadPath : PySem.W.nsIn K mainGlobals "BadPath" = some (some (.ref C_BadPath)))
    (x_BadPath : PySem.W.excIn K C_BadPath [.type "ValueError", .type "Exception", .type "BaseException", .type "object"] "ValueError.__new__" = true)
    (kk_BadPath : PySem.W.keepIn K (.ref C_BadPath) = true)
    (s_BadPath : PySem.W.subIn K (.ref C_BadPath) (.type "BaseException") = some true)
    (t_BadPath : PySem.W.typeIn K (.ref C_BadPath) = some (.type "type"))
    (i_BadPath : PySem.W.isClsIn K C_BadPath = true)
    (g_TooMany : PySem.W.nsIn K mainGlobals "TooMany" = some (some (.ref C_TooMany)))
    (x_TooMany : PySem.W.excIn K C_TooMany [.type "ValueError", .type "Exception", .type "BaseException", .type "object"] "ValueError.__new__" = true)
    (kk_TooMany : PySem.W.keepIn K (.ref C_TooMany) = true)
    (s_TooMany : PySem.W.subIn K (.ref C_TooMany) (.type "BaseException") = some true)
    (t_TooMany : PySem.W.typeIn K (.ref C_TooMany) = some (.type "type"))
    (i_TooMany : PySem.W.isClsIn K C_TooMany = true)
    (g_Within : PySem.W.nsIn K mainGlobals "Within" = some (some (.ref C_Within)))
    (x_Within : PySem.W.excIn K C_Within [.type "ValueError", .type "Exception", .type "BaseException", .type "object"] "ValueError.__new__" = true)
    (kk_Within : PySem.W.keepIn K (.ref C_Within) = true)
    (s_Within : PySem.W.subIn K (.ref C_Within) (.type "BaseException") = some true)
    (t_Within : PySem.W.typeIn K (.ref C_Within) = some (.type "type"))
    (i_Within : PySem.W.isClsIn K C_Within = true)
    (p_BadGroup_BadGroup : PySem.W.subIn K (.ref C_BadGroup) (.ref C_BadGroup) = some true)
    (p_BadGroup_BadPath : PySem.W.subIn K (.ref C_BadGroup) (.ref C_BadPath) = some false)
    (p_BadGroup_TooMany : PySem.W.subIn K (.ref C_BadGroup) (.ref C_TooMany) = some false)
    (p_BadGroup_Within : PySem.W.subIn K (.ref C_BadGroup) (.ref C_Within) = some false)
    (p_BadPath_BadGroup : PySem.W.subIn K (.ref C_BadPath) (.ref C_BadGroup) = some false)
    (p_BadPath_BadPath : PySem.W.subIn K (.ref C_BadPath) (.ref C_BadPath) = some true)
    (p_BadPath_TooMany : PySem.W.subIn K (.ref C_BadPath) (.ref C_TooMany) = some false)
    (p_BadPath_Within : PySem.W.subIn K (.ref C_BadPath) (.ref C_Within) = some false)
    (p_TooMany_BadGroup : PySem.W.subIn K (.ref C_TooMany) (.ref C_BadGroup) = some false)
    (p_TooMany_BadPath : PySem.W.subIn K (.ref C_TooMany) (.ref C_BadPath) = some false)
    (p_TooMany_TooMany : PySem.W.subIn K (.ref C_TooMany) (.ref C_TooMany) = some true)
    (p_TooMany_Within : PySem.W.subIn K (.ref C_TooMany) (.ref C_Within) = some false)
    (p_Within_BadGroup : PySem.W.subIn K (.ref C_Within) (.ref C_BadGroup) = some false)
    (p_Within_BadPath : PySem.W.subIn K (.ref C_Within) (.ref C_BadPath) = some false)
    (p_Within_TooMany : PySem.W.subIn K (.ref C_Within) (.ref C_TooMany) = some false)
    (p_Within_Within : PySem.W.subIn K (.ref C_Within) (.ref C_Within) = some true) :
    ∃ fd : FuncData, (∀ (s : Shared) (v : Value), BindsTo s fd ⟨[v], []⟩ [("script", v)]) ∧ ∀ base : Heap, K.In base → base.Ns mainGlobals mg → FnG l.prog w K mg base 20 fa fd ["script"] (spLaw K F_law) := by
  have e : f_law = fa := by
    have e := (PySem.W.mg_of X G a_law).symm.trans hfa
    cases e
    rfl
  subst e
  have ap : Apart K mg excs := fun c hc c2 hc2 D D2 h h2 => by
      unfold excs at hc hc2
      simp only [List.mem_cons, List.not_mem_nil, or_false] at hc hc2
      rcases hc with rfl | rfl | rfl | rfl <;> rcases hc2 with rfl | rfl | rfl | rfl
      · exact apart_go (PySem.W.mg_of X G g_BadGroup) (PySem.W.mg_of X G g_BadGroup) h h2 ((exm_by s_BadGroup i_BadGroup t_BadGroup p_BadGroup_BadGroup).trans (congrArg some (by decide +kernel)))
      · exact apart_go (PySem.W.mg_of X G g_BadGroup) (PySem.W.mg_of X G g_BadPath) h h2 ((exm_by s_BadPath i_BadPath t_BadPath p_BadGroup_BadPath).trans (congrArg some (by decide +kernel)))
      · exact apart_go (PySem.W.mg_of X G g_BadGroup) (PySem.W.mg_of X G g_TooMany) h h2 ((exm_by s_TooMany i_TooMany t_TooMany p_BadGroup_TooMany).trans (congrArg some (by decide +kernel)))
      · exact apart_go (PySem.W.mg_of X G g_BadGroup) (PySem.W.mg_of X G g_Within) h h2 ((exm_by s_Within i_Within t_Within p_BadGroup_Within).trans (congrArg some (by decide +kernel)))
      · exact apart_go (PySem.W.mg_of X G g_BadPath) (PySem.W.mg_of X G g_BadGroup) h h2 ((exm_by s_BadGroup i_BadGroup t_BadGroup p_BadPath_BadGroup).trans (congrArg some (by decide +kernel)))
      · exact apart_go (PySem.W.mg_of X G g_BadPath) (PySem.W.mg_of X G g_BadPath) h h2 ((exm_by s_BadPath i_BadPath t_BadPath p_BadPath_BadPath).trans (congrArg some (by decide +kernel)))
      · exact apart_go (PySem.W.mg_of X G g_BadPath) (PySem.W.mg_of X G g_TooMany) h h2 ((exm_by s_TooMany i_TooMany t_TooMany p_BadPath_TooMany).trans (congrArg some (by decide +kernel)))
      · exact apart_go (PySem.W.mg_of X G g_BadPath) (PySem.W.mg_of X G g_Within) h h2 ((exm_by s_Within i_Within t_Within p_BadPath_Within).trans (congrArg some (by decide +kernel)))
      · exact apart_go (PySem.W.mg_of X G g_TooMany) (PySem.W.mg_of X G g_BadGroup) h h2 ((exm_by s_BadGroup i_BadGroup t_BadGroup p_TooMany_BadGroup).trans (congrArg some (by decide +kernel)))
      · exact apart_go (PySem.W.mg_of X G g_TooMany) (PySem.W.mg_of X G g_BadPath) h h2 ((exm_by s_BadPath i_BadPath t_BadPath p_TooMany_BadPath).trans (congrArg some (by decide +kernel)))
      · exact apart_go (PySem.W.mg_of X G g_TooMany) (PySem.W.mg_of X G g_TooMany) h h2 ((exm_by s_TooMany i_TooMany t_TooMany p_TooMany_TooMany).trans (congrArg some (by decide +kernel)))
      · exact apart_go (PySem.W.mg_of X G g_TooMany) (PySem.W.mg_of X G g_Within) h h2 ((exm_by s_Within i_Within t_Within p_TooMany_Within).trans (congrArg some (by decide +kernel)))
      · exact apart_go (PySem.W.mg_of X G g_Within) (PySem.W.mg_of X G g_BadGroup) h h2 ((exm_by s_BadGroup i_BadGroup t_BadGroup p_Within_BadGroup).trans (congrArg some (by decide +kernel)))
      · exact apart_go (PySem.W.mg_of X G g_Within) (PySem.W.mg_of X G g_BadPath) h h2 ((exm_by s_BadPath i_BadPath t_BadPath p_Within_BadPath).trans (congrArg some (by decide +kernel)))
      · exact apart_go (PySem.W.mg_of X G g_Within) (PySem.W.mg_of X G g_TooMany) h h2 ((exm_by s_TooMany i_TooMany t_TooMany p_Within_TooMany).trans (congrArg some (by decide +kernel)))
      · exact apart_go (PySem.W.mg_of X G g_Within) (PySem.W.mg_of X G g_Within) h h2 ((exm_by s_Within i_Within t_Within p_Within_Within).trans (congrArg some (by decide +kernel)))
  let T : Tx K mg := { f_is_whole := f_is_whole, fd_is_whole := _, F_is_whole := fun_mk (st := s_is_whole) l_is_whole c_is_whole k_is_whole, b_is_whole := (fun_mk (st := s_is_whole) l_is_whole c_is_whole k_is_whole).binds (ps := ["value", "least", "most"]) (fun _ _ _ _ _ _ us hl => match us, hl with | [_, _, _], _ => rfl), m_is_whole := PySem.W.mg_of X G a_is_whole, k_is_whole := k_is_whole, f__is_high := f__is_high, fd__is_high := _, F__is_high := fun_mk (st := s__is_high) l__is_high c__is_high k__is_high, b__is_high := (fun_mk (st := s__is_high) l__is_high c__is_high k__is_high).binds (ps := ["word"]) (fun _ _ _ _ _ _ us hl => match us, hl with | [_], _ => rfl), m__is_high := PySem.W.mg_of X G a__is_high, k__is_high := k__is_high, f__are_units := f__are_units, fd__are_units := _, F__are_units := fun_mk (st := s__are_units) l__are_units c__are_units k__are_units, b__are_units := (fun_mk (st := s__are_units) l__are_units c__are_units k__are_units).binds (ps := ["word"]) (fun _ _ _ _ _ _ us hl => match us, hl with | [_], _ => rfl), m__are_units := PySem.W.mg_of X G a__are_units, k__are_units := k__are_units, f_figures_on := f_figures_on, fd_figures_on := _, F_figures_on := fun_mk (st := s_figures_on) l_figures_on c_figures_on k_figures_on, b_figures_on := (fun_mk (st := s_figures_on) l_figures_on c_figures_on k_figures_on).binds (ps := ["cord"]) (fun _ _ _ _ _ _ us hl => match us, hl with | [_], _ => rfl), m_figures_on := PySem.W.mg_of X G a_figures_on, k_figures_on := k_figures_on, f_cord_with := f_cord_with, fd_cord_with := _, F_cord_with := fun_mk (st := s_cord_with) l_cord_with c_cord_with k_cord_with, b_cord_with := (fun_mk (st := s_cord_with) l_cord_with c_cord_with k_cord_with).binds (ps := ["figures"]) (fun _ _ _ _ _ _ us hl => match us, hl with | [_], _ => rfl), m_cord_with := PySem.W.mg_of X G a_cord_with, k_cord_with := k_cord_with, f_number_by := f_number_by, fd_number_by := _, F_number_by := fun_mk (st := s_number_by) l_number_by c_number_by k_number_by, b_number_by := (fun_mk (st := s_number_by) l_number_by c_number_by k_number_by).binds (ps := ["figures"]) (fun _ _ _ _ _ _ us hl => match us, hl with | [_], _ => rfl), m_number_by := PySem.W.mg_of X G a_number_by, k_number_by := k_number_by, f_figures_for := f_figures_for, fd_figures_for := _, F_figures_for := fun_mk (st := s_figures_for) l_figures_for c_figures_for k_figures_for, b_figures_for := (fun_mk (st := s_figures_for) l_figures_for c_figures_for k_figures_for).binds (ps := ["number", "places"]) (fun _ _ _ _ _ _ us hl => match us, hl with | [_, _], _ => rfl), m_figures_for := PySem.W.mg_of X G a_figures_for, k_figures_for := k_figures_for, f_part_at := f_part_at, fd_part_at := _, F_part_at := fun_mk (st := s_part_at) l_part_at c_part_at k_part_at, b_part_at := (fun_mk (st := s_part_at) l_part_at c_part_at k_part_at).binds (ps := ["group", "path"]) (fun _ _ _ _ _ _ us hl => match us, hl with | [_, _], _ => rfl), m_part_at := PySem.W.mg_of X G a_part_at, k_part_at := k_part_at, f__law_draws := f__law_draws, fd__law_draws := _, F__law_draws := fun_mk (st := s__law_draws) l__law_draws c__law_draws k__law_draws, b__law_draws := (fun_mk (st := s__law_draws) l__law_draws c__law_draws k__law_draws).binds (ps := ["script", "many"]) (fun _ _ _ _ _ _ us hl => match us, hl with | [_, _], _ => rfl), m__law_draws := PySem.W.mg_of X G a__law_draws, k__law_draws := k__law_draws, f__law_cord := f__law_cord, fd__law_cord := _, F__law_cord := fun_mk (st := s__law_cord) l__law_cord c__law_cord k__law_cord, b__law_cord := (fun_mk (st := s__law_cord) l__law_cord c__law_cord k__law_cord).binds (ps := ["figures"]) (fun _ _ _ _ _ _ us hl => match us, hl with | [_], _ => rfl), m__law_cord := PySem.W.mg_of X G a__law_cord, k__law_cord := k__law_cord, f__law_number := f__law_number, fd__law_number := _, F__law_number := fun_mk (st := s__law_number) l__law_number c__law_number k__law_number, b__law_number := (fun_mk (st := s__law_number) l__law_number c__law_number k__law_number).binds (ps := ["figures"]) (fun _ _ _ _ _ _ us hl => match us, hl with | [_], _ => rfl), m__law_number := PySem.W.mg_of X G a__law_number, k__law_number := k__law_number, f__law_parent := f__law_parent, fd__law_parent := _, F__law_parent := fun_mk (st := s__law_parent) l__law_parent c__law_parent k__law_parent, b__law_parent := (fun_mk (st := s__law_parent) l__law_parent c__law_parent k__law_parent).binds (ps := ["rows", "at"]) (fun _ _ _ _ _ _ us hl => match us, hl with | [_, _], _ => rfl), m__law_parent := PySem.W.mg_of X G a__law_parent, k__law_parent := k__law_parent, f__law_rows := f__law_rows, fd__law_rows := _, F__law_rows := fun_mk (st := s__law_rows) l__law_rows c__law_rows k__law_rows, b__law_rows := (fun_mk (st := s__law_rows) l__law_rows c__law_rows k__law_rows).binds (ps := ["draws", "places", "most"]) (fun _ _ _ _ _ _ us hl => match us, hl with | [_, _, _], _ => rfl), m__law_rows := PySem.W.mg_of X G a__law_rows, k__law_rows := k__law_rows, f__law_wrong_groups := f__law_wrong_groups, fd__law_wrong_groups := _, F__law_wrong_groups := fun_mk (st := s__law_wrong_groups) l__law_wrong_groups c__law_wrong_groups k__law_wrong_groups, b__law_wrong_groups := (fun_mk (st := s__law_wrong_groups) l__law_wrong_groups c__law_wrong_groups k__law_wrong_groups).binds (ps := []) (fun _ _ _ _ _ _ us hl => match us, hl with | [], _ => rfl), m__law_wrong_groups := PySem.W.mg_of X G a__law_wrong_groups, k__law_wrong_groups := k__law_wrong_groups, f__law_same := f__law_same, fd__law_same := _, F__law_same := fun_mk (st := s__law_same) l__law_same c__law_same k__law_same, b__law_same := (fun_mk (st := s__law_same) l__law_same c__law_same k__law_same).binds (ps := ["told", "due"]) (fun _ _ _ _ _ _ us hl => match us, hl with | [_, _], _ => rfl), m__law_same := PySem.W.mg_of X G a__law_same, k__law_same := k__law_same, f_is_cord := f_is_cord, fd_is_cord := _, F_is_cord := fun_mk (st := s_is_cord) l_is_cord c_is_cord k_is_cord, b_is_cord := (fun_mk (st := s_is_cord) l_is_cord c_is_cord k_is_cord).binds (ps := ["value"]) (fun _ _ _ _ _ _ us hl => match us, hl with | [_], _ => rfl), m_is_cord := PySem.W.mg_of X G a_is_cord, k_is_cord := k_is_cord, f__law_path := f__law_path, fd__law_path := _, F__law_path := fun_mk (st := s__law_path) l__law_path c__law_path k__law_path, b__law_path := (fun_mk (st := s__law_path) l__law_path c__law_path k__law_path).binds (ps := ["rows", "at"]) (fun _ _ _ _ _ _ us hl => match us, hl with | [_, _], _ => rfl), m__law_path := PySem.W.mg_of X G a__law_path, k__law_path := k__law_path, f__paths := f__paths, fd__paths := _, F__paths := fun_mk (st := s__paths) l__paths c__paths k__paths, b__paths := (fun_mk (st := s__paths) l__paths c__paths k__paths).binds (ps := ["hung", "path"]) (fun _ _ _ _ _ _ us hl => match us, hl with | [_, _], _ => rfl), m__paths := PySem.W.mg_of X G a__paths, k__paths := k__paths, f__with_part := f__with_part, fd__with_part := _, F__with_part := fun_mk (st := s__with_part) l__with_part c__with_part k__with_part, b__with_part := (fun_mk (st := s__with_part) l__with_part c__with_part k__with_part).binds (ps := ["part", "path", "new"]) (fun _ _ _ _ _ _ us hl => match us, hl with | [_, _, _], _ => rfl), m__with_part := PySem.W.mg_of X G a__with_part, k__with_part := k__with_part, f_all_paths := f_all_paths, fd_all_paths := _, F_all_paths := fun_mk (st := s_all_paths) l_all_paths c_all_paths k_all_paths, b_all_paths := (fun_mk (st := s_all_paths) l_all_paths c_all_paths k_all_paths).binds (ps := ["group"]) (fun _ _ _ _ _ _ us hl => match us, hl with | [_], _ => rfl), m_all_paths := PySem.W.mg_of X G a_all_paths, k_all_paths := k_all_paths, f__total := f__total, fd__total := _, F__total := fun_mk (st := s__total) l__total c__total k__total, b__total := (fun_mk (st := s__total) l__total c__total k__total).binds (ps := ["part"]) (fun _ _ _ _ _ _ us hl => match us, hl with | [_], _ => rfl), m__total := PySem.W.mg_of X G a__total, k__total := k__total, f__law_tree := f__law_tree, fd__law_tree := _, F__law_tree := fun_mk (st := s__law_tree) l__law_tree c__law_tree k__law_tree, b__law_tree := (fun_mk (st := s__law_tree) l__law_tree c__law_tree k__law_tree).binds (ps := ["rows", "at"]) (fun _ _ _ _ _ _ us hl => match us, hl with | [_, _], _ => rfl), m__law_tree := PySem.W.mg_of X G a__law_tree, k__law_tree := k__law_tree, f__are_hung := f__are_hung, fd__are_hung := _, F__are_hung := fun_mk (st := s__are_hung) l__are_hung c__are_hung k__are_hung, b__are_hung := (fun_mk (st := s__are_hung) l__are_hung c__are_hung k__are_hung).binds (ps := ["value", "deep"]) (fun _ _ _ _ _ _ us hl => match us, hl with | [_, _], _ => rfl), m__are_hung := PySem.W.mg_of X G a__are_hung, k__are_hung := k__are_hung, f_check_path := f_check_path, fd_check_path := _, F_check_path := fun_mk (st := s_check_path) l_check_path c_check_path k_check_path, b_check_path := (fun_mk (st := s_check_path) l_check_path c_check_path k_check_path).binds (ps := ["group", "path"]) (fun _ _ _ _ _ _ us hl => match us, hl with | [_, _], _ => rfl), m_check_path := PySem.W.mg_of X G a_check_path, k_check_path := k_check_path, f_gap_in := f_gap_in, fd_gap_in := _, F_gap_in := fun_mk (st := s_gap_in) l_gap_in c_gap_in k_gap_in, b_gap_in := (fun_mk (st := s_gap_in) l_gap_in c_gap_in k_gap_in).binds (ps := ["group"]) (fun _ _ _ _ _ _ us hl => match us, hl with | [_], _ => rfl), m_gap_in := PySem.W.mg_of X G a_gap_in, k_gap_in := k_gap_in, f__law_made := f__law_made, fd__law_made := _, F__law_made := fun_mk (st := s__law_made) l__law_made c__law_made k__law_made, b__law_made := (fun_mk (st := s__law_made) l__law_made c__law_made k__law_made).binds (ps := ["rows"]) (fun _ _ _ _ _ _ us hl => match us, hl with | [_], _ => rfl), m__law_made := PySem.W.mg_of X G a__law_made, k__law_made := k__law_made, f_is_group := f_is_group, fd_is_group := _, F_is_group := fun_mk (st := s_is_group) l_is_group c_is_group k_is_group, b_is_group := (fun_mk (st := s_is_group) l_is_group c_is_group k_is_group).binds (ps := ["value"]) (fun _ _ _ _ _ _ us hl => match us, hl with | [_], _ => rfl), m_is_group := PySem.W.mg_of X G a_is_group, k_is_group := k_is_group, f__law_due := f__law_due, fd__law_due := _, F__law_due := fun_mk (st := s__law_due) l__law_due c__law_due k__law_due, b__law_due := (fun_mk (st := s__law_due) l__law_due c__law_due k__law_due).binds (ps := ["rows", "at", "to"]) (fun _ _ _ _ _ _ us hl => match us, hl with | [_, _, _], _ => rfl), m__law_due := PySem.W.mg_of X G a__law_due, k__law_due := k__law_due, f_check_group := f_check_group, fd_check_group := _, F_check_group := fun_mk (st := s_check_group) l_check_group c_check_group k_check_group, b_check_group := (fun_mk (st := s_check_group) l_check_group c_check_group k_check_group).binds (ps := ["group"]) (fun _ _ _ _ _ _ us hl => match us, hl with | [_], _ => rfl), m_check_group := PySem.W.mg_of X G a_check_group, k_check_group := k_check_group, f_gap_of := f_gap_of, fd_gap_of := _, F_gap_of := fun_mk (st := s_gap_of) l_gap_of c_gap_of k_gap_of, b_gap_of := (fun_mk (st := s_gap_of) l_gap_of c_gap_of k_gap_of).binds (ps := ["group"]) (fun _ _ _ _ _ _ us hl => match us, hl with | [_], _ => rfl), m_gap_of := PySem.W.mg_of X G a_gap_of, k_gap_of := k_gap_of, f_with_head := f_with_head, fd_with_head := _, F_with_head := fun_mk (st := s_with_head) l_with_head c_with_head k_with_head, b_with_head := (fun_mk (st := s_with_head) l_with_head c_with_head k_with_head).binds (ps := ["group"]) (fun _ _ _ _ _ _ us hl => match us, hl with | [_], _ => rfl), m_with_head := PySem.W.mg_of X G a_with_head, k_with_head := k_with_head, f_moved_cord := f_moved_cord, fd_moved_cord := _, F_moved_cord := fun_mk (st := s_moved_cord) l_moved_cord c_moved_cord k_moved_cord, b_moved_cord := (fun_mk (st := s_moved_cord) l_moved_cord c_moved_cord k_moved_cord).binds (ps := ["group", "path", "place"]) (fun _ _ _ _ _ _ us hl => match us, hl with | [_, _, _], _ => rfl), m_moved_cord := PySem.W.mg_of X G a_moved_cord, k_moved_cord := k_moved_cord, f__law_told := f__law_told, fd__law_told := _, F__law_told := fun_mk (st := s__law_told) l__law_told c__law_told k__law_told, b__law_told := (fun_mk (st := s__law_told) l__law_told c__law_told k__law_told).binds (ps := ["call", "group", "path", "place"]) (fun _ _ _ _ _ _ us hl => match us, hl with | [_, _, _, _], _ => rfl), m__law_told := PySem.W.mg_of X G a__law_told, k__law_told := k__law_told, f__law_refuses := f__law_refuses, fd__law_refuses := _, F__law_refuses := fun_mk (st := s__law_refuses) l__law_refuses c__law_refuses k__law_refuses, b__law_refuses := (fun_mk (st := s__law_refuses) l__law_refuses c__law_refuses k__law_refuses).binds (ps := ["group"]) (fun _ _ _ _ _ _ us hl => match us, hl with | [_], _ => rfl), m__law_refuses := PySem.W.mg_of X G a__law_refuses, k__law_refuses := k__law_refuses, f_law := f_law, fd_law := _, F_law := fun_mk (st := s_law) l_law c_law k_law, b_law := (fun_mk (st := s_law) l_law c_law k_law).binds (ps := ["script"]) (fun _ _ _ _ _ _ us hl => match us, hl with | [_], _ => rfl), m_law := PySem.W.mg_of X G a_law, k_law := k_law, z_abs := PySem.W.mg_none_of X G z_abs, z_all := PySem.W.mg_none_of X G z_all, z_bool := PySem.W.mg_none_of X G z_bool, z_enumerate := PySem.W.mg_none_of X G z_enumerate, z_int := PySem.W.mg_none_of X G z_int, z_isinstance := PySem.W.mg_none_of X G z_isinstance, z_len := PySem.W.mg_none_of X G z_len, z_max := PySem.W.mg_none_of X G z_max, z_min := PySem.W.mg_none_of X G z_min, z_range := PySem.W.mg_none_of X G z_range, z_repr := PySem.W.mg_none_of X G z_repr, z_str := PySem.W.mg_none_of X G z_str, z_sum := PySem.W.mg_none_of X G z_sum, z_tuple := PySem.W.mg_none_of X G z_tuple, c_BETWEEN := mc_str (PySem.W.mg_of X G v_BETWEEN), c_MOST_DEEP := mc_int (PySem.W.mg_of X G v_MOST_DEEP), c_MOST_HUNG := mc_int (PySem.W.mg_of X G v_MOST_HUNG), c_MOST_IN_ALL := mc_int (PySem.W.mg_of X G v_MOST_IN_ALL), c_MOST_PLACES := mc_int (PySem.W.mg_of X G v_MOST_PLACES), c_NONE := mc_str (PySem.W.mg_of X G v_NONE), c_ONE := mc_str (PySem.W.mg_of X G v_ONE), c_SINGLE := mc_str (PySem.W.mg_of X G v_SINGLE), c_TURN := mc_str (PySem.W.mg_of X G v_TURN), C_BadGroup := C_BadGroup, g_BadGroup := PySem.W.mg_of X G g_BadGroup, x_BadGroup := x_BadGroup, k_BadGroup := kk_BadGroup, s_BadGroup := s_BadGroup, t_BadGroup := t_BadGroup, C_BadPath := C_BadPath, g_BadPath := PySem.W.mg_of X G g_BadPath, x_BadPath := x_BadPath, k_BadPath := kk_BadPath, s_BadPath := s_BadPath, t_BadPath := t_BadPath, C_TooMany := C_TooMany, g_TooMany := PySem.W.mg_of X G g_TooMany, x_TooMany := x_TooMany, k_TooMany := kk_TooMany, s_TooMany := s_TooMany, t_TooMany := t_TooMany, C_Within := C_Within, g_Within := PySem.W.mg_of X G g_Within, x_Within := x_Within, k_Within := kk_Within, s_Within := s_Within, t_Within := t_Within, ap := ap }
  exact ⟨PySem.W.fnOf "law" "law" (defArgs s_law) (defBody s_law) (defScope s_law) .none kV_law dc_law pm_law an_law cd_law ct_law, fun s v => .of_eq rfl, fun base _ _ => fn_law T⟩
end K52
open PySem PySem.W PyProof.Rows
set_option maxHeartbeats 0 in
theorem PySem.Challenge.cw_sandwright_k52_whole_moves_holds : PySem.Challenge.rw_sandwright_k52_whole_moves.Holds := by
  w_on; o_law; k_head; (case hw => w_witness2)
  k_fill
  refine DL.walk_lawG (l := PySem.Challenge.rw_sandwright_k52_whole_moves) (k := 20) (F := K52.F_law) rfl rfl ⟨⟨rfl, by decide, by decide⟩, rfl⟩ (fun w h Y => PySem.W.kIn_of Y) K52.holds ?F
  case F =>
    intro w mg fa h KX G hmg
    refine' K52.all_mk KX G hmg ?a_is_whole ?l_is_whole ?c_is_whole ?k_is_whole ?a__is_high ?l__is_high ?c__is_high ?k__is_high ?a__are_units ?l__are_units ?c__are_units ?k__are_units ?a_figures_on ?l_figures_on ?c_figures_on ?k_figures_on ?a_cord_with ?l_cord_with ?c_cord_with ?k_cord_with ?a_number_by ?l_number_by ?c_number_by ?k_number_by ?a_figures_for ?l_figures_for ?c_figures_for ?k_figures_for ?a_part_at ?l_part_at ?c_part_at ?k_part_at ?a__law_draws ?l__law_draws ?c__law_draws ?k__law_draws ?a__law_cord ?l__law_cord ?c__law_cord ?k__law_cord ?a__law_number ?l__law_number ?c__law_number ?k__law_number ?a__law_parent ?l__law_parent ?c__law_parent ?k__law_parent ?a__law_rows ?l__law_rows ?c__law_rows ?k__law_rows ?a__law_wrong_groups ?l__law_wrong_groups ?c__law_wrong_groups ?k__law_wrong_groups ?a__law_same ?l__law_same ?c__law_same ?k__law_same ?a_is_cord ?l_is_cord ?c_is_cord ?k_is_cord ?a__law_path ?l__law_path ?c__law_path ?k__law_path ?a__paths ?l__paths ?c__paths ?k__paths ?a__with_part ?l__with_part ?c__with_part ?k__with_part ?a_all_paths ?l_all_paths ?c_all_paths ?k_all_paths ?a__total ?l__total ?c__total ?k__total ?a__law_tree ?l__law_tree ?c__law_tree ?k__law_tree ?a__are_hung ?l__are_hung ?c__are_hung ?k__are_hung ?a_check_path ?l_check_path ?c_check_path ?k_check_path ?a_gap_in ?l_gap_in ?c_gap_in ?k_gap_in ?a__law_made ?l__law_made ?c__law_made ?k__law_made ?a_is_group ?l_is_group ?c_is_group ?k_is_group ?a__law_due ?l__law_due ?c__law_due ?k__law_due ?a_check_group ?l_check_group ?c_check_group ?k_check_group ?a_gap_of ?l_gap_of ?c_gap_of ?k_gap_of ?a_with_head ?l_with_head ?c_with_head ?k_with_head ?a_moved_cord ?l_moved_cord ?c_moved_cord ?k_moved_cord ?a__law_told ?l__law_told ?c__law_told ?k__law_told ?a__law_refuses ?l__law_refuses ?c__law_refuses ?k__law_refuses ?a_law ?l_law ?c_law ?k_law ?z_abs ?z_all ?z_bool ?z_enumerate ?z_int ?z_isinstance ?z_len ?z_max ?z_min ?z_range ?z_repr ?z_str ?z_sum ?z_tuple ?v_BETWEEN ?v_MOST_DEEP ?v_MOST_HUNG ?v_MOST_IN_ALL ?v_MOST_PLACES ?v_NONE ?v_ONE ?v_SINGLE ?v_TURN ?g_BadGroup ?x_BadGroup ?kk_BadGroup ?s_BadGroup ?t_BadGroup ?i_BadGroup ?g_BadPath ?x_BadPath ?kk_BadPath ?s_BadPath ?t_BadPath ?i_BadPath ?g_TooMany ?x_TooMany ?kk_TooMany ?s_TooMany ?t_TooMany ?i_TooMany ?g_Within ?x_Within ?kk_Within ?s_Within ?t_Within ?i_Within ?p_BadGroup_BadGroup ?p_BadGroup_BadPath ?p_BadGroup_TooMany ?p_BadGroup_Within ?p_BadPath_BadGroup ?p_BadPath_BadPath ?p_BadPath_TooMany ?p_BadPath_Within ?p_TooMany_BadGroup ?p_TooMany_BadPath ?p_TooMany_TooMany ?p_TooMany_Within ?p_Within_BadGroup ?p_Within_BadPath ?p_Within_TooMany ?p_Within_Within
    (case a_is_whole => k_is)
    (case l_is_whole => k_is)
    (case c_is_whole => k_is)
    (case k_is_whole => k_is)
    (case a__is_high => k_is)
    (case l__is_high => k_is)
    (case c__is_high => k_is)
    (case k__is_high => k_is)
    (case a__are_units => k_is)
    (case l__are_units => k_is)
    (case c__are_units => k_is)
    (case k__are_units => k_is)
    (case a_figures_on => k_is)
    (case l_figures_on => k_is)
    (case c_figures_on => k_is)
    (case k_figures_on => k_is)
    (case a_cord_with => k_is)
    (case l_cord_with => k_is)
    (case c_cord_with => k_is)
    (case k_cord_with => k_is)
    (case a_number_by => k_is)
    (case l_number_by => k_is)
    (case c_number_by => k_is)
    (case k_number_by => k_is)
    (case a_figures_for => k_is)
    (case l_figures_for => k_is)
    (case c_figures_for => k_is)
    (case k_figures_for => k_is)
    (case a_part_at => k_is)
    (case l_part_at => k_is)
    (case c_part_at => k_is)
    (case k_part_at => k_is)
    (case a__law_draws => k_is)
    (case l__law_draws => k_is)
    (case c__law_draws => k_is)
    (case k__law_draws => k_is)
    (case a__law_cord => k_is)
    (case l__law_cord => k_is)
    (case c__law_cord => k_is)
    (case k__law_cord => k_is)
    (case a__law_number => k_is)
    (case l__law_number => k_is)
    (case c__law_number => k_is)
    (case k__law_number => k_is)
    (case a__law_parent => k_is)
    (case l__law_parent => k_is)
    (case c__law_parent => k_is)
    (case k__law_parent => k_is)
    (case a__law_rows => k_is)
    (case l__law_rows => k_is)
    (case c__law_rows => k_is)
    (case k__law_rows => k_is)
    (case a__law_wrong_groups => k_is)
    (case l__law_wrong_groups => k_is)
    (case c__law_wrong_groups => k_is)
    (case k__law_wrong_groups => k_is)
    (case a__law_same => k_is)
    (case l__law_same => k_is)
    (case c__law_same => k_is)
    (case k__law_same => k_is)
    (case a_is_cord => k_is)
    (case l_is_cord => k_is)
    (case c_is_cord => k_is)
    (case k_is_cord => k_is)
    (case a__law_path => k_is)
    (case l__law_path => k_is)
    (case c__law_path => k_is)
    (case k__law_path => k_is)
    (case a__paths => k_is)
    (case l__paths => k_is)
    (case c__paths => k_is)
    (case k__paths => k_is)
    (case a__with_part => k_is)
    (case l__with_part => k_is)
    (case c__with_part => k_is)
    (case k__with_part => k_is)
    (case a_all_paths => k_is)
    (case l_all_paths => k_is)
    (case c_all_paths => k_is)
    (case k_all_paths => k_is)
    (case a__total => k_is)
    (case l__total => k_is)
    (case c__total => k_is)
    (case k__total => k_is)
    (case a__law_tree => k_is)
    (case l__law_tree => k_is)
    (case c__law_tree => k_is)
    (case k__law_tree => k_is)
    (case a__are_hung => k_is)
    (case l__are_hung => k_is)
    (case c__are_hung => k_is)
    (case k__are_hung => k_is)
    (case a_check_path => k_is)
    (case l_check_path => k_is)
    (case c_check_path => k_is)
    (case k_check_path => k_is)
    (case a_gap_in => k_is)
    (case l_gap_in => k_is)
    (case c_gap_in => k_is)
    (case k_gap_in => k_is)
    (case a__law_made => k_is)
    (case l__law_made => k_is)
    (case c__law_made => k_is)
    (case k__law_made => k_is)
    (case a_is_group => k_is)
    (case l_is_group => k_is)
    (case c_is_group => k_is)
    (case k_is_group => k_is)
    (case a__law_due => k_is)
    (case l__law_due => k_is)
    (case c__law_due => k_is)
    (case k__law_due => k_is)
    (case a_check_group => k_is)
    (case l_check_group => k_is)
    (case c_check_group => k_is)
    (case k_check_group => k_is)
    (case a_gap_of => k_is)
    (case l_gap_of => k_is)
    (case c_gap_of => k_is)
    (case k_gap_of => k_is)
    (case a_with_head => k_is)
    (case l_with_head => k_is)
    (case c_with_head => k_is)
    (case k_with_head => k_is)
    (case a_moved_cord => k_is)
    (case l_moved_cord => k_is)
    (case c_moved_cord => k_is)
    (case k_moved_cord => k_is)
    (case a__law_told => k_is)
    (case l__law_told => k_is)
    (case c__law_told => k_is)
    (case k__law_told => k_is)
    (case a__law_refuses => k_is)
    (case l__law_refuses => k_is)
    (case c__law_refuses => k_is)
    (case k__law_refuses => k_is)
    (case a_law => k_is)
    (case l_law => k_is)
    (case c_law => k_is)
    (case k_law => k_is)
    (case z_abs => k_is)
    (case z_all => k_is)
    (case z_bool => k_is)
    (case z_enumerate => k_is)
    (case z_int => k_is)
    (case z_isinstance => k_is)
    (case z_len => k_is)
    (case z_max => k_is)
    (case z_min => k_is)
    (case z_range => k_is)
    (case z_repr => k_is)
    (case z_str => k_is)
    (case z_sum => k_is)
    (case z_tuple => k_is)
    (case v_BETWEEN => k_is)
    (case v_MOST_DEEP => k_is)
    (case v_MOST_HUNG => k_is)
    (case v_MOST_IN_ALL => k_is)
    (case v_MOST_PLACES => k_is)
    (case v_NONE => k_is)
    (case v_ONE => k_is)
    (case v_SINGLE => k_is)
    (case v_TURN => k_is)
    (case g_BadGroup => k_is)
    (case x_BadGroup => k_exc)
    (case kk_BadGroup => k_is)
    (case s_BadGroup => k_is)
    (case t_BadGroup => k_is)
    (case i_BadGroup => k_is)
    (case g_BadPath => k_is)
    (case x_BadPath => k_exc)
    (case kk_BadPath => k_is)
    (case s_BadPath => k_is)
    (case t_BadPath => k_is)
    (case i_BadPath => k_is)
    (case g_TooMany => k_is)
    (case x_TooMany => k_exc)
    (case kk_TooMany => k_is)
    (case s_TooMany => k_is)
    (case t_TooMany => k_is)
    (case i_TooMany => k_is)
    (case g_Within => k_is)
    (case x_Within => k_exc)
    (case kk_Within => k_is)
    (case s_Within => k_is)
    (case t_Within => k_is)
    (case i_Within => k_is)
    (case p_BadGroup_BadGroup => (first | rfl | k_is))
    (case p_BadGroup_BadPath => (first | rfl | k_is))
    (case p_BadGroup_TooMany => (first | rfl | k_is))
    (case p_BadGroup_Within => (first | rfl | k_is))
    (case p_BadPath_BadGroup => (first | rfl | k_is))
    (case p_BadPath_BadPath => (first | rfl | k_is))
    (case p_BadPath_TooMany => (first | rfl | k_is))
    (case p_BadPath_Within => (first | rfl | k_is))
    (case p_TooMany_BadGroup => (first | rfl | k_is))
    (case p_TooMany_BadPath => (first | rfl | k_is))
    (case p_TooMany_TooMany => (first | rfl | k_is))
    (case p_TooMany_Within => (first | rfl | k_is))
    (case p_Within_BadGroup => (first | rfl | k_is))
    (case p_Within_BadPath => (first | rfl | k_is))
    (case p_Within_TooMany => (first | rfl | k_is))
    (case p_Within_Within => (first | rfl | k_is))
