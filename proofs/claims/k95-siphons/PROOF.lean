import PyProof.Rows.All
import Wide.All
import OpenK.AllK
import Wide.FinOn
import HandS.ForMost
import HandS.Exc
import HandS.TryOnly
import HandS.TryMany
import HandS.ExcOwn
import HandS.WordsExc
import HandS.Flow
import HandS.IsInst
import HandS.SortRule
import HandS.SortInts
import HandS.TupAny
import HandS.TupMul
import HandS.Deep
import HandS.TupLe
import HandS.Conv
import KE.DataEq
import KE.DataCmp
import KE.DataAny
import KE.DataFind
import KE.DataIsa
import KE.DataMinMax
import KE.SortData
import HandS.Style
import HandS.Zip
import KE.GoesMore
import KE.GoesEnum
import PySem.Challenge.RW_sandwright_k95_whole_siphons
set_option Elab.async false
set_option linter.all false
set_option maxRecDepth 100000
set_option autoImplicit false
set_option maxHeartbeats 4000000
/-! The data layer: an expression of the text has a reading f : En → R PyData, a statement a reading g : En → Fl. -/
namespace DL
open PySem PySem.Spec L2

abbrev PD := PyData

/-! ### results -/
inductive R (α : Type) where
  | ok (a : α)
  | ex (c : Str) (pl : List (Str × PD))
  | bad
namespace R
variable {α β γ : Type}
def bind (r : R α) (f : α → R β) : R β := match r with
  | .ok a => f a
  | .ex c pl => .ex c pl
  | .bad => .bad
@[simp] theorem ok_bind (a : α) (f : α → R β) : (R.ok a).bind f = f a := rfl
@[simp] theorem ex_bind (c pl) (f : α → R β) : (R.ex c pl).bind f = .ex c pl := rfl
@[simp] theorem bad_bind (f : α → R β) : R.bad.bind f = .bad := rfl
theorem bind_assoc (r : R α) (f : α → R β) (g : β → R γ) : (r.bind f).bind g = r.bind fun a => (f a).bind g := by cases r <;> rfl
/-- nothing raised -/
def nx (r : R α) : R α := match r with
  | .ok a => .ok a
  | _ => .bad
@[simp] theorem ok_nx (a : α) : (R.ok a).nx = .ok a := rfl
@[simp] theorem bad_nx : (R.bad : R α).nx = .bad := rfl
@[simp] theorem ex_nx (c pl) : (R.ex c pl : R α).nx = .bad := rfl
end R

/-- a slot: nothing known; a datum; a list, a dict of the frame's own that it may change -/
inductive Sl where
  | un
  | va (d : PD)
  | ol (ds : List PD)
  | od (kvs : List (Key × PD))
  | ot (kvs : List (List Key × PD))
  | sc (ns : List Int)
def Sl.own : Sl → Bool
  | .ol _ => true
  | .od _ => true
  | .ot _ => true
  | _ => false
abbrev En := List Sl

inductive Fl where
  | nx (ρ : En)
  | rt (d : PD)
  | bk (ρ : En)
  | ct (ρ : En)
  | ex (c : Str) (pl : List (Str × PD)) (ρ : En)
  | bad

/-! ### what stands for what -/
mutual
inductive Dq (K : PySem.W.Frag) (H : Hp) : V → PD → Prop
  | non : Dq K H .non .none
  | bl (b : Bool) : Dq K H (.bl b) (.bool b)
  | int (i : Int) : Dq K H (.int i) (.int i)
  | str (x : Str) : Dq K H (.str x) (.str x)
  | lst {a : Addr} {xs : List V} {ds : List PD} : Rd H a (.lst xs) → DqAll K H xs ds → Dq K H (.ref a) (.list ds)
  | tup {a : Addr} {xs : List V} {ds : List PD} : SqT K H a xs → DqAll K H xs ds → Dq K H (.ref a) (.tuple ds)
inductive DqAll (K : PySem.W.Frag) (H : Hp) : List V → List PD → Prop
  | nil : DqAll K H [] []
  | cons {v : V} {vs : List V} {d : PD} {ds : List PD} : Dq K H v d → DqAll K H vs ds → DqAll K H (v :: vs) (d :: ds)
end
mutual
theorem dqdp {K : PySem.W.Frag} {H : Hp} : ∀ (d : PD) (v : V), Dq K H v d → L2.Dp K H v d
  | _, _, .non => .non
  | _, _, .bl b => .bl b
  | _, _, .int i => .int i
  | _, _, .str x => .str x
  | _, _, .lst h1 h2 => .lst (.inl h1) (dqdpAll _ _ h2)
  | _, _, .tup h1 h2 => .tup h1 (dqdpAll _ _ h2)
theorem dqdpAll {K : PySem.W.Frag} {H : Hp} : ∀ (ds : List PD) (vs : List V), DqAll K H vs ds → L2.DpAll K H vs ds
  | _, _, .nil => .nil
  | _, _, .cons h1 h2 => .cons (dqdp _ _ h1) (dqdpAll _ _ h2)
end
theorem Dq.dp {K : PySem.W.Frag} {H : Hp} {v : V} {d : PD} (h : Dq K H v d) : L2.Dp K H v d := dqdp _ _ h
theorem rd_mono {H H' : Hp} {a : Addr} {u : HO} (e : Same H H') (h : Rd H a u) : Rd H' a u := by
  rcases h with h | ⟨o, h⟩
  · exact .inl (e _ _ h)
  · exact .inr ⟨o, e _ _ h⟩

/-! ### heaps without some addresses -/
open Classical in
noncomputable def wo (H : Hp) (O : Addr → Prop) : Hp := fun a => if O a then none else H a
section
variable {K : PySem.W.Frag} {H H' H1 H2 : Hp} {O O' : Addr → Prop} {a p : Addr} {o : HO}
theorem wo_some (n : ¬ O a) (h : H a = some o) : wo H O a = some o := by unfold wo; rw [if_neg n]; exact h
theorem wo_inv (h : wo H O a = some o) : ¬ O a ∧ H a = some o := by
  unfold wo at h
  by_cases n : O a
  · rw [if_pos n] at h; cases h
  · rw [if_neg n] at h; exact ⟨n, h⟩
theorem wo_none (h : H a = none) : wo H O a = none := by
  unfold wo
  by_cases n : O a
  · rw [if_pos n]
  · rw [if_neg n]; exact h
theorem wo_in (h : O a) : wo H O a = none := by unfold wo; rw [if_pos h]
theorem same_wo (e : Same H H') : Same (wo H O) (wo H' O) := fun b u h => let ⟨n, q⟩ := wo_inv h; wo_some n (e b u q)
theorem wo_sub (e : ∀ p, O p → O' p) : Same (wo H O') (wo H O) := fun b u h => let ⟨n, q⟩ := wo_inv h; wo_some (fun z => n (e b z)) q
theorem wo_self : Same (wo H O) H := fun b u h => (wo_inv h).2
theorem wo_upd (h : O p) : wo (upd H p o) O = wo H O := by
  funext b
  unfold wo
  by_cases n : O b
  · rw [if_pos n, if_pos n]
  · rw [if_neg n, if_neg n, upd_ne (fun z => n (by rw [z]; exact h))]
theorem _root_.L2.Same.updNew (h : H p = none) : Same H (upd H p o) := fun b u e => by rw [upd_ne (ne_of_none e h)]; exact e
theorem _root_.L2.Same.seqT (e : Same H H') {xs : List V} (h : SqT K H a xs) : SqT K H' a xs := by
  rcases h with (h | ⟨o, h⟩) | h
  · exact .inl (.inl (e _ _ h))
  · exact .inl (.inr ⟨o, e _ _ h⟩)
  · exact .inr h
mutual
theorem dmono (e : Same H H') : ∀ (d : PD) (v : V), Dq K H v d → Dq K H' v d
  | _, _, .non => .non
  | _, _, .bl b => .bl b
  | _, _, .int i => .int i
  | _, _, .str x => .str x
  | _, _, .lst h1 h2 => .lst (rd_mono e h1) (dmonoAll e _ _ h2)
  | _, _, .tup h1 h2 => .tup (Same.seqT e h1) (dmonoAll e _ _ h2)
theorem dmonoAll (e : Same H H') : ∀ (ds : List PD) (vs : List V), DqAll K H vs ds → DqAll K H' vs ds
  | _, _, .nil => .nil
  | _, _, .cons h1 h2 => .cons (dmono e _ _ h1) (dmonoAll e _ _ h2)
end
theorem Dq.mono {v : V} {d : PD} (h : Dq K H v d) (e : Same H H') : Dq K H' v d := dmono e _ _ h
theorem DqAll.mono {vs : List V} {ds : List PD} (h : DqAll K H vs ds) (e : Same H H') : DqAll K H' vs ds := dmonoAll e _ _ h
end
section
variable {K : PySem.W.Frag} {H : Hp}
theorem DqAll.length : ∀ {vs : List V} {ds : List PyData}, DqAll K H vs ds → vs.length = ds.length
  | _, _, .nil => rfl
  | _, _, .cons _ h => congrArg (· + 1) (DqAll.length h)
theorem DqAll.get : ∀ {vs : List V} {ds : List PyData} {i : Nat} {d : PyData}, DqAll K H vs ds → ds[i]? = some d → ∃ v, vs[i]? = some v ∧ Dq K H v d
  | _, _, _, _, .nil, e => by simp at e
  | _, _, 0, _, .cons r _, e => by simp at e; subst e; exact ⟨_, rfl, r⟩
  | _, _, i + 1, d, .cons _ t, e => by
    obtain ⟨u, h1, h2⟩ := DqAll.get (i := i) (d := d) t (by simpa using e)
    exact ⟨u, by simpa using h1, h2⟩
theorem DqAll.getV : ∀ {vs : List V} {ds : List PyData} {i : Nat} {v : V}, DqAll K H vs ds → vs[i]? = some v → ∃ d, ds[i]? = some d ∧ Dq K H v d
  | _, _, _, _, .nil, e => by simp at e
  | _, _, 0, _, .cons r _, e => by simp at e; subst e; exact ⟨_, rfl, r⟩
  | _, _, i + 1, d, .cons _ t, e => by
    obtain ⟨u, h1, h2⟩ := DqAll.getV (i := i) (v := d) t (by simpa using e)
    exact ⟨u, by simpa using h1, h2⟩
theorem DqAll.append : ∀ {vs ws : List V} {ds es : List PyData}, DqAll K H vs ds → DqAll K H ws es → DqAll K H (vs ++ ws) (ds ++ es)
  | _, _, _, _, .nil, h => h
  | _, _, _, _, .cons a b, h => .cons a (DqAll.append b h)
theorem DqAll.set {x : V} {d : PyData} (r : Dq K H x d) : ∀ {vs : List V} {ds : List PyData} (i : Nat), DqAll K H vs ds → DqAll K H (vs.set i x) (ds.set i d)
  | _, _, _, .nil => .nil
  | _, _, 0, .cons _ t => .cons r t
  | _, _, i + 1, .cons q t => .cons q (DqAll.set r i t)
theorem DqAll.take : ∀ {vs : List V} {ds : List PyData} (n : Nat), DqAll K H vs ds → DqAll K H (vs.take n) (ds.take n)
  | _, _, 0, _ => .nil
  | _, _, _ + 1, .nil => .nil
  | _, _, n + 1, .cons r t => .cons r (DqAll.take n t)
theorem DqAll.drop : ∀ {vs : List V} {ds : List PyData} (n : Nat), DqAll K H vs ds → DqAll K H (vs.drop n) (ds.drop n)
  | _, _, 0, r => r
  | _, _, _ + 1, .nil => .nil
  | _, _, n + 1, .cons _ t => DqAll.drop n t
theorem DqAll.one {v : V} {d : PyData} (h : Dq K H v d) : DqAll K H [v] [d] := .cons h .nil
end
/-- a dict's entries stand for data -/
def KvR {κ : Type} (K : PySem.W.Frag) (H : Hp) : List (κ × V) → List (κ × PD) → Prop := Paired fun (p : κ × V) (q : κ × PD) => p.1 = q.1 ∧ Dq K H p.2 q.2
theorem KvR.mono {κ : Type} {K : PySem.W.Frag} {H H' : Hp} {a : List (κ × V)} {b : List (κ × PD)} (h : KvR K H a b) (e : Same H H') : KvR K H' a b :=
  Paired.mapP h fun _ _ z => ⟨z.1, z.2.mono e⟩

/-- what a slot holds -/
def SlR (K : PySem.W.Frag) (O0 O : Addr → Prop) (H : Hp) : Sl → Option (Option V) → Prop
  | .un, _ => True
  | .va d, o => ∃ v, o = some (some v) ∧ Dq K (wo H O) v d
  | .ol ds, o => ∃ p vs, o = some (some (.ref p)) ∧ O p ∧ ¬ O0 p ∧ H p = some (.lst vs) ∧ DqAll K (wo H O) vs ds
  | .od kvs, o => ∃ p ks, o = some (some (.ref p)) ∧ O p ∧ ¬ O0 p ∧ H p = some (.dK ks) ∧ KvR K (wo H O) ks kvs
  | .ot kvs, o => ∃ p ks, o = some (some (.ref p)) ∧ O p ∧ ¬ O0 p ∧ H p = some (.dT ks) ∧ KvR K (wo H O) ks kvs
  | .sc ns, o => ∃ a, o = some (some (.ref a)) ∧ SqL K (wo H O) a (ns.map V.int)

structure Rel (K : PySem.W.Frag) (H0 : Hp) (O0 O : Addr → Prop) (H : Hp) (ρ : En) (σ : L2.St) : Prop where
  fr : Same H0 H
  sub : ∀ p, O0 p → O p
  nw : ∀ p, O p → O0 p ∨ H0 p = none
  al : ∀ p, O p → H p ≠ none
  len : ρ.length = σ.length
  sl : ∀ (i : Nat) (s : Sl), ρ[i]? = some s → SlR K O0 O H s σ[i]?
  dj : ∀ (i j : Nat) (s s' : Sl) (p : Addr), i ≠ j → ρ[i]? = some s → ρ[j]? = some s' → Sl.own s = true → Sl.own s' = true → σ[i]? = some (some (.ref p)) → σ[j]? ≠ some (some (.ref p))

section
variable {K : PySem.W.Frag} {H0 H H' H1 : Hp} {O0 O : Addr → Prop} {ρ : En} {σ : L2.St} {i : Nat} {a p : Addr} {o : HO} {d : PD} {v : V}
/-- the heap grows -/
theorem SlR.grow {s : Sl} {x : Option (Option V)} (h : SlR K O0 O H s x) (e : Same H H') : SlR K O0 O H' s x := by
  cases s with
  | un => trivial
  | va d => obtain ⟨v, q, r⟩ := h; exact ⟨v, q, r.mono (same_wo e)⟩
  | ol ds => obtain ⟨p, vs, q, m, n, r, z⟩ := h; exact ⟨p, vs, q, m, n, e _ _ r, z.mono (same_wo e)⟩
  | od ks => obtain ⟨p, vs, q, m, n, r, z⟩ := h; exact ⟨p, vs, q, m, n, e _ _ r, z.mono (same_wo e)⟩
  | ot ks => obtain ⟨p, vs, q, m, n, r, z⟩ := h; exact ⟨p, vs, q, m, n, e _ _ r, z.mono (same_wo e)⟩
  | sc ns => obtain ⟨p, q, r⟩ := h; exact ⟨p, q, (same_wo e).seq r⟩
theorem Rel.grow (h : Rel K H0 O0 O H ρ σ) (e : Same H H') : Rel K H0 O0 O H' ρ σ :=
  ⟨h.fr.trans e, h.sub, h.nw, fun p q z => by
    cases hp : H p with
    | none => exact h.al p q hp
    | some u => exact absurd ((e p u hp).symm.trans z) (fun y => nomatch y), h.len, fun i s q => (h.sl i s q).grow e, h.dj⟩
/-- the frozen part at the entry stays frozen -/
theorem Rel.frz (h : Rel K H0 O0 O H ρ σ) : Same (wo H0 O0) (wo H O) := fun b u q => by
  obtain ⟨n, e⟩ := wo_inv q
  refine wo_some (fun z => ?_) (h.fr b u e)
  rcases h.nw b z with z | z
  · exact n z
  · rw [e] at z; cases z
/-- the entry moved up to here: our own things left out -/
noncomputable def baseOf (H : Hp) (O0 O : Addr → Prop) : Hp := wo H fun p => O p ∧ ¬ O0 p
theorem Rel.rebase (h : Rel K H0 O0 O H ρ σ) : Rel K (baseOf H O0 O) O0 O H ρ σ :=
  ⟨wo_self, h.sub, fun p q => by
    by_cases z : O0 p
    · exact .inl z
    · exact .inr (wo_in ⟨q, z⟩), h.al, h.len, h.sl, h.dj⟩
theorem Rel.same_base (h : Rel K H0 O0 O H ρ σ) : Same H0 (baseOf H O0 O) := fun b u e => wo_some (fun ⟨z, n⟩ => by
  rcases h.nw b z with q | q
  · exact n q
  · rw [e] at q; cases q) (h.fr b u e)
theorem Rel.back (e : Same H0 H1) {ρ' : En} {σ' : L2.St} {O' : Addr → Prop} (h : Rel K H1 O0 O' H' ρ' σ') : Rel K H0 O0 O' H' ρ' σ' :=
  ⟨e.trans h.fr, h.sub, fun p q => by
    rcases h.nw p q with z | z
    · exact .inl z
    · exact .inr (e.free z), h.al, h.len, h.sl, h.dj⟩
theorem wo_base (hs : ∀ p, O0 p → O p) : wo (baseOf H O0 O) O0 = wo H O := by
  funext b
  unfold baseOf wo
  by_cases z : O0 b
  · rw [if_pos z, if_pos (hs b z)]
  · rw [if_neg z]
    by_cases y : O b
    · rw [if_pos ⟨y, z⟩, if_pos y]
    · rw [if_neg (fun q => y q.1), if_neg y]
/-- what stood frozen at a rebased entry stands frozen later -/
theorem Rel.keep {ρ' : En} {σ' : L2.St} {O' : Addr → Prop} (h : Rel K H0 O0 O H ρ σ) (h' : Rel K (baseOf H O0 O) O0 O' H' ρ' σ') : Same (wo H O) (wo H' O') := by
  have := h'.frz
  rwa [wo_base h.sub] at this
end

/-! ### exceptions -/
/-- the exception of class c (by the module's name) with the fields pl -/
def IsEx (K : PySem.W.Frag) (mg : Str → Option Value) (c : Str) (pl : List (Str × PD)) (cls : Value) (dx : Option Addr) (G : Hp) : Prop :=
  ∃ C, mg c = some (.ref C) ∧ cls = .ref C ∧ (pl = [] ∨ ∃ p fs, dx = some p ∧ G p = some (.xd fs) ∧ KvR K G fs pl)

/-- what a result asks: P of the value and the heap, W of an exception -/
def OutP {α : Type} (X : Cx) (W : WX) (O : Addr → Prop) (σ : L2.St) (H : Hp) (r : R α) (P : α → Hp → Prop) : Prop :=
  match r with
  | .ok a => ∀ H', Same H H' → P a H'
  | .ex c pl => ∀ cls dx H', Same H H' → IsEx X.K X.mg c pl cls dx (wo H' O) → W cls dx σ H'
  | .bad => False
section
variable {α β : Type} {X : Cx} {W : WX} {O : Addr → Prop} {σ : L2.St} {H H' : Hp} {r : R α} {P P' : α → Hp → Prop}
theorem OutP.imp (h : OutP X W O σ H r P) (f : ∀ a H', Same H H' → P a H' → P' a H') : OutP X W O σ H r P' := by
  cases r with
  | ok a => exact fun H' e => f a H' e (h H' e)
  | ex c pl => exact h
  | bad => exact h
theorem OutP.bind {g : α → R β} {Q : β → Hp → Prop} (h : OutP X W O σ H (r.bind g) Q) : OutP X W O σ H r (fun a H1 => OutP X W O σ H1 (g a) Q) := by
  cases r with
  | ok a =>
    intro H1 e
    have h' : OutP X W O σ H (g a) Q := h
    show OutP X W O σ H1 (g a) Q
    generalize g a = z at h'
    cases z with
    | ok b => exact fun H' e' => h' H' (e.trans e')
    | ex c pl => exact fun cls dx H' e' => h' cls dx H' (e.trans e')
    | bad => exact h'
  | ex c pl => exact h
  | bad => exact h
theorem OutP.ok {a : α} (h : OutP X W O σ H (.ok a) P) (e : Same H H') : P a H' := h H' e
end

/-! ### expressions -/
/-- the value stands for data that no one of the frame's own things lies in -/
structure DE (X : Cx) (W : WX) (e : Expr) (f : En → R PD) : Prop where
  ex : ∃ t, PE X e t ∧ ∀ H0 O0 O ρ σ H Q, Rel X.K H0 O0 O H ρ σ → OutP X W O σ H (f ρ) (fun d H' => ∀ v, Dq X.K (wo H' O) v d → Q v H') → t σ H Q
/-- .. or is itself such a list -/
def Dt (K : PySem.W.Frag) (O : Addr → Prop) (H : Hp) (v : V) (d : PD) : Prop :=
  Dq K (wo H O) v d ∨ ∃ p vs ds, v = .ref p ∧ H p = some (.lst vs) ∧ DqAll K (wo H O) vs ds ∧ d = .list ds
structure DV (X : Cx) (W : WX) (e : Expr) (f : En → R PD) : Prop where
  ex : ∃ t, PE X e t ∧ ∀ H0 O0 O ρ σ H Q, Rel X.K H0 O0 O H ρ σ → OutP X W O σ H (f ρ) (fun d H' => ∀ v, Dt X.K O H' v d → Q v H') → t σ H Q
theorem DE.dv {X : Cx} {W : WX} {e : Expr} {f : En → R PD} (h : DE X W e f) : DV X W e f :=
  let ⟨t, p, q⟩ := h.ex
  ⟨t, p, fun H0 O0 O ρ σ H Q r o => q H0 O0 O ρ σ H Q r (o.imp fun d H' _ z v hv => z v (.inl hv))⟩
theorem Dt.mono {K : PySem.W.Frag} {O : Addr → Prop} {H H' : Hp} {v : V} {d : PD} (h : Dt K O H v d) (e : Same H H') : Dt K O H' v d := by
  rcases h with h | ⟨p, vs, ds, r, q, z, y⟩
  · exact .inl (h.mono (same_wo e))
  · exact .inr ⟨p, vs, ds, r, e _ _ q, z.mono (same_wo e), y⟩
theorem Dt.dp {K : PySem.W.Frag} {O : Addr → Prop} {H : Hp} {v : V} {d : PD} (h : Dt K O H v d) : Dq K H v d := by
  rcases h with h | ⟨p, vs, ds, rfl, q, z, rfl⟩
  · exact h.mono wo_self
  · exact .lst (.inl (q)) (z.mono wo_self)
/-- a list or tuple, its items clean -/
theorem Dt.list {K : PySem.W.Frag} {O : Addr → Prop} {H : Hp} {v : V} {ds : List PD} (h : Dt K O H v (.list ds)) : ∃ a vs, v = .ref a ∧ Rd H a (.lst vs) ∧ DqAll K (wo H O) vs ds := by
  rcases h with h | ⟨p, vs, ds', rfl, q, z, e⟩
  · cases h with
    | lst h1 h2 => exact ⟨_, _, rfl, rd_mono wo_self h1, h2⟩
  · cases e; exact ⟨p, vs, rfl, .inl q, z⟩
theorem Dt.tuple {K : PySem.W.Frag} {O : Addr → Prop} {H : Hp} {v : V} {ds : List PD} (h : Dt K O H v (.tuple ds)) : ∃ a vs, v = .ref a ∧ SqT K (wo H O) a vs ∧ DqAll K (wo H O) vs ds := by
  rcases h with h | ⟨p, vs, ds', rfl, q, z, e⟩
  · cases h with
    | tup h1 h2 => exact ⟨_, _, rfl, h1, h2⟩
  · cases e
theorem Dq.sc_int {K : PySem.W.Frag} {H : Hp} {v : V} {i : Int} (h : Dq K H v (.int i)) : v = .int i := by cases h; rfl
theorem Dq.sc_bl {K : PySem.W.Frag} {H : Hp} {v : V} {b : Bool} (h : Dq K H v (.bool b)) : v = .bl b := by cases h; rfl
theorem Dq.sc_str {K : PySem.W.Frag} {H : Hp} {v : V} {z : Str} (h : Dq K H v (.str z)) : v = .str z := by cases h; rfl
theorem Dq.sc_non {K : PySem.W.Frag} {H : Hp} {v : V} (h : Dq K H v .none) : v = .non := by cases h; rfl
theorem Dt.sc_int {K : PySem.W.Frag} {O : Addr → Prop} {H : Hp} {v : V} {i : Int} (h : Dt K O H v (.int i)) : v = .int i := h.dp.sc_int
theorem Dt.sc_bl {K : PySem.W.Frag} {O : Addr → Prop} {H : Hp} {v : V} {i : Bool} (h : Dt K O H v (.bool i)) : v = .bl i := h.dp.sc_bl
theorem Dt.sc_str {K : PySem.W.Frag} {O : Addr → Prop} {H : Hp} {v : V} {i : Str} (h : Dt K O H v (.str i)) : v = .str i := h.dp.sc_str
theorem Dt.sc_non {K : PySem.W.Frag} {O : Addr → Prop} {H : Hp} {v : V} (h : Dt K O H v .none) : v = .non := h.dp.sc_non

section
variable {X : Cx} {W : WX} {a b e : Expr} {f g : En → R PD} {pos : Pos}
def cV (i : Nat) : En → R PD := fun ρ => match ρ[i]? with
  | some (.va d) => .ok d
  | _ => .bad
/-- .. whatever kind of list it is -/
def cW (i : Nat) : En → R PD := fun ρ => match ρ[i]? with
  | some (.va d) => .ok d
  | some (.ol ds) => .ok (.list ds)
  | _ => .bad
def cK (d : PD) : En → R PD := fun _ => .ok d
theorem de_v {i : Nat} (h : PE X e (tVar i)) : DE X W e (cV i) := by
  refine ⟨_, h, fun H0 O0 O ρ σ H Q r o => ?_⟩
  unfold cV at o
  cases hs : ρ[i]? with
  | none => rw [hs] at o; exact o.elim
  | some s =>
    rw [hs] at o
    have q := r.sl i s hs
    cases s with
    | va d => obtain ⟨v, e1, e2⟩ := q; exact ⟨v, e1, o H (Same.refl H) v e2⟩
    | un => exact o.elim
    | ol _ => exact o.elim
    | od _ => exact o.elim
    | ot _ => exact o.elim
    | sc _ => exact o.elim
theorem dv_v {i : Nat} (h : PE X e (tVar i)) : DV X W e (cW i) := by
  refine ⟨_, h, fun H0 O0 O ρ σ H Q r o => ?_⟩
  unfold cW at o
  cases hs : ρ[i]? with
  | none => rw [hs] at o; exact o.elim
  | some s =>
    rw [hs] at o
    have q := r.sl i s hs
    cases s with
    | va d => obtain ⟨v, e1, e2⟩ := q; exact ⟨v, e1, o H (Same.refl H) v (.inl e2)⟩
    | un => exact o.elim
    | ol ds => obtain ⟨p, vs, e1, _, _, e2, e3⟩ := q; exact ⟨_, e1, o H (Same.refl H) _ (.inr ⟨p, vs, ds, rfl, e2, e3, rfl⟩)⟩
    | od _ => exact o.elim
    | ot _ => exact o.elim
    | sc _ => exact o.elim
/-- a constant -/
theorem de_k {v : V} {d : PD} (h : PE X e (tC v)) (hd : ∀ K H, Dq K H v d) : DE X W e (cK d) :=
  ⟨_, h, fun H0 O0 O ρ σ H Q r o => o H (Same.refl H) v (hd _ _)⟩
theorem de_int {i : Int} {j} : DE X W (.Constant (.int i) j pos) (cK (.int i)) := de_k pe_int fun _ _ => .int i
theorem de_bl {i : Bool} {j} : DE X W (.Constant (.bool i) j pos) (cK (.bool i)) := de_k pe_bl fun _ _ => .bl i
theorem de_non {j} : DE X W (.Constant .none j pos) (cK .none) := de_k pe_non fun _ _ => .non
theorem de_str {x : Str} {j} : DE X W (.Constant (.str x) j pos) (cK (.str x)) := de_k pe_str fun _ _ => .str x

/-- an operation on two values -/
def OpD (X : Cx) (op : Value → Value → Sem Value) (F : PD → PD → R PD) : Prop :=
  ∃ r, OpR X op r ∧ ∀ W O σ H x y d e Q, (∀ p, H p = none → ¬ O p) → Dt X.K O H x d → Dt X.K O H y e → OutP X W O σ H (F d e) (fun d H' => ∀ v, Dq X.K (wo H' O) v d → Q v H') → r x y H Q
def c2 (F : PD → PD → R PD) (f g : En → R PD) : En → R PD := fun ρ => (f ρ).bind fun x => (g ρ).bind fun y => F x y
theorem de_op {op : Operator} {F : PD → PD → R PD} (ho : OpD X (binaryOp op) F) (ha : DV X W a f) (hb : DV X W b g) : DE X W (.BinOp a op b pos) (c2 F f g) := by
  obtain ⟨r, h1, h2⟩ := ho
  obtain ⟨ta, pa, qa⟩ := ha.ex
  obtain ⟨tb, pb, qb⟩ := hb.ex
  refine ⟨_, pe_op h1 pa pb, fun H0 O0 O ρ σ H Q rl o => ?_⟩
  refine qa H0 O0 O ρ σ H _ rl (o.bind.imp fun d H1 e1 o1 x hx => ?_)
  refine qb H0 O0 O ρ σ H1 _ (rl.grow e1) (o1.bind.imp fun d' H2 e2 o2 y hy => ?_)
  exact h2 W O σ H2 x y d d' Q (fun p n z => ((rl.grow e1).grow e2).al p z n) (hx.mono e2) hy o2
theorem de_cmp {op : CmpOp} {F : PD → PD → R PD} (ho : OpD X (compareOp op) F) (ha : DV X W a f) (hb : DV X W b g) (hm : behindInMarks op b = false) : DE X W (.Compare a [op] [b] pos) (c2 F f g) := by
  obtain ⟨r, h1, h2⟩ := ho
  obtain ⟨ta, pa, qa⟩ := ha.ex
  obtain ⟨tb, pb, qb⟩ := hb.ex
  refine ⟨_, pe_cmpR h1 pa pb hm, fun H0 O0 O ρ σ H Q rl o => ?_⟩
  refine qa H0 O0 O ρ σ H _ rl (o.bind.imp fun d H1 e1 o1 x hx => ?_)
  refine qb H0 O0 O ρ σ H1 _ (rl.grow e1) (o1.bind.imp fun d' H2 e2 o2 y hy => ?_)
  exact h2 W O σ H2 x y d d' Q (fun p n z => ((rl.grow e1).grow e2).al p z n) (hx.mono e2) hy o2
end
end DL
namespace DL
open PySem PySem.Spec L2

/-! ### truth -/
def big : Nat := 10000000
theorem big_line {n : Nat} (h : n ≤ big) : n ≤ sizeLine := by rw [sizeLine_eq]; unfold big at h; omega
theorem big_line' {n : Nat} (h : n < big) : n < sizeLine := by rw [sizeLine_eq]; unfold big at h; omega
def chk {α : Type} (c : Bool) (r : R α) : R α := if c = true then r else .bad
@[simp] theorem chk_t {α : Type} (r : R α) : chk true r = r := rfl
@[simp] theorem chk_f {α : Type} (r : R α) : chk false r = .bad := rfl
theorem chk_of {α : Type} {c : Bool} {r : R α} (h : c = true) : chk c r = r := by rw [h]; rfl
def tru : PD → R Bool
  | .none => .ok false
  | .bool b => .ok b
  | .int i => .ok (i != 0)
  | .str z => chk (decide (z.length ≤ big)) (.ok ((z.length : Int) != 0))
  | .list xs => .ok (!xs.isEmpty)
  | .tuple xs => .ok (!xs.isEmpty)
  | .dict _ => .bad
theorem OutP.chk {α : Type} {X : Cx} {W : WX} {O : Addr → Prop} {σ : L2.St} {H : Hp} {c : Bool} {r : R α} {P : α → Hp → Prop} (h : OutP X W O σ H (chk c r) P) : c = true ∧ OutP X W O σ H r P := by
  cases c with
  | true => exact ⟨rfl, h⟩
  | false => exact h.elim
theorem all_isEmpty {K : PySem.W.Frag} {H : Hp} {vs : List V} {ds : List PD} (h : DqAll K H vs ds) : (!vs.isEmpty) = !ds.isEmpty := by cases h <;> rfl
theorem tru_of {X : Cx} {W : WX} {O : Addr → Prop} {σ : L2.St} {H : Hp} {x : V} {d : PD} {Q : Bool → Hp → Prop} (hd : Dt X.K O H x d) (o : OutP X W O σ H (tru d) Q) : ∃ k, TruV X.K x H k ∧ Q k H := by
  cases d with
  | none => cases hd.sc_non; exact ⟨false, rfl, o H (Same.refl H)⟩
  | bool b => cases hd.sc_bl; exact ⟨b, rfl, o H (Same.refl H)⟩
  | int i => cases hd.sc_int; exact ⟨_, rfl, o H (Same.refl H)⟩
  | str z =>
    cases hd.sc_str
    obtain ⟨c, o⟩ := o.chk
    exact ⟨_, ⟨big_line (of_decide_eq_true c), rfl⟩, o H (Same.refl H)⟩
  | list xs =>
    obtain ⟨a, vs, rfl, h1, h2⟩ := hd.list
    exact ⟨_, .inl ⟨vs, .inl h1, rfl⟩, by rw [all_isEmpty h2]; exact o H (Same.refl H)⟩
  | tuple xs =>
    obtain ⟨a, vs, rfl, h1, h2⟩ := hd.tuple
    exact ⟨_, .inr (.inl ⟨vs, Same.seqT wo_self h1, rfl⟩), by rw [all_isEmpty h2]; exact o H (Same.refl H)⟩
  | dict _ => exact o.elim

/-! ### tests -/
structure DB (X : Cx) (W : WX) (e : Expr) (f : En → R Bool) : Prop where
  ex : ∃ t, PT X e t ∧ ∀ H0 O0 O ρ σ H Q, Rel X.K H0 O0 O H ρ σ → OutP X W O σ H (f ρ) Q → t σ H Q
/-- .. in a chain of and, or -/
structure DW (X : Cx) (W : WX) (e : Expr) (f : En → R Bool) : Prop where
  ex : ∃ t, PW X e t ∧ ∀ H0 O0 O ρ σ H Q, Rel X.K H0 O0 O H ρ σ → OutP X W O σ H (f ρ) Q → t σ H Q
def asB : PD → R Bool
  | .bool b => .ok b
  | _ => .bad
def bT (f : En → R PD) : En → R Bool := fun ρ => (f ρ).bind tru
def bC (F : PD → PD → R PD) (f g : En → R PD) : En → R Bool := fun ρ => (c2 F f g ρ).bind asB
def bAnd (f g : En → R Bool) : En → R Bool := fun ρ => (f ρ).bind fun b => if b = true then g ρ else .ok false
def bOr (f g : En → R Bool) : En → R Bool := fun ρ => (f ρ).bind fun b => if b = true then .ok true else g ρ
def bNot (f : En → R Bool) : En → R Bool := fun ρ => (f ρ).bind fun b => .ok (!b)
section
variable {X : Cx} {W : WX} {a b c e : Expr} {rest : List Expr} {f g h : En → R PD} {p q : En → R Bool} {pos : Pos}
theorem db_t (ha : DV X W a f) (he : ∀ whole, isTrue a X.env whole = (do let v ← whole; standAt a.pos; holding [v] (truthy v))) : DB X W a (bT f) := by
  obtain ⟨ta, pa, qa⟩ := ha.ex
  refine ⟨_, pt_truth pa he, fun H0 O0 O ρ σ H Q rl o => ?_⟩
  exact qa H0 O0 O ρ σ H _ rl (o.bind.imp fun d H1 e1 o1 x hx => tru_of hx o1)
theorem db_c {op : CmpOp} {F : PD → PD → R PD} (ho : OpD X (compareOp op) F) (ha : DV X W a f) (hb : DV X W b g) (hm : behindInMarks op b = false) : DB X W (.Compare a [op] [b] pos) (bC F f g) := by
  obtain ⟨r, h1, h2⟩ := ho
  obtain ⟨ta, pa, qa⟩ := ha.ex
  obtain ⟨tb, pb, qb⟩ := hb.ex
  refine ⟨_, pt_cmpR h1 pa pb hm, fun H0 O0 O ρ σ H Q rl o => ?_⟩
  refine qa H0 O0 O ρ σ H _ rl (o.bind.bind.imp fun d H1 e1 o1 x hx => ?_)
  refine qb H0 O0 O ρ σ H1 _ (rl.grow e1) (o1.bind.imp fun d' H2 e2 o2 y hy => ?_)
  refine h2 W O σ H2 x y d d' _ (fun p n z => ((rl.grow e1).grow e2).al p z n) (hx.mono e2) hy (o2.imp fun z H3 e3 o3 v hv => ?_)
  cases z with
  | bool k => cases hv.sc_bl; exact ⟨k, rfl, o3 H3 (Same.refl H3)⟩
  | _ => exact o3.elim
theorem db_w (h : DW X W e p) : DB X W e p := let ⟨t, x, y⟩ := h.ex; ⟨t, x.pt, y⟩
theorem dw_and1 (ha : DB X W a p) : DW X W (.BoolOp .And [a] pos) p := let ⟨t, x, y⟩ := ha.ex; ⟨t, pw_and1 x, y⟩
theorem dw_or1 (ha : DB X W a p) : DW X W (.BoolOp .Or [a] pos) p := let ⟨t, x, y⟩ := ha.ex; ⟨t, pw_or1 x, y⟩
theorem dw_and (ha : DB X W a p) (hb : DW X W (.BoolOp .And (b :: rest) pos) q) : DW X W (.BoolOp .And (a :: b :: rest) pos) (bAnd p q) := by
  obtain ⟨ta, pa, qa⟩ := ha.ex
  obtain ⟨tb, pb, qb⟩ := hb.ex
  refine ⟨_, pw_and pa pb, fun H0 O0 O ρ σ H Q rl o => ?_⟩
  refine qa H0 O0 O ρ σ H _ rl (o.bind.imp fun k H1 e1 o1 => ?_)
  cases k with
  | true => rw [if_pos rfl] at o1 ⊢; exact qb H0 O0 O ρ σ H1 Q (rl.grow e1) o1
  | false => rw [if_neg Bool.false_ne_true] at o1 ⊢; exact o1 H1 (Same.refl H1)
theorem dw_or (ha : DB X W a p) (hb : DW X W (.BoolOp .Or (b :: rest) pos) q) : DW X W (.BoolOp .Or (a :: b :: rest) pos) (bOr p q) := by
  obtain ⟨ta, pa, qa⟩ := ha.ex
  obtain ⟨tb, pb, qb⟩ := hb.ex
  refine ⟨_, pw_or pa pb, fun H0 O0 O ρ σ H Q rl o => ?_⟩
  refine qa H0 O0 O ρ σ H _ rl (o.bind.imp fun k H1 e1 o1 => ?_)
  cases k with
  | true => rw [if_pos rfl] at o1 ⊢; exact o1 H1 (Same.refl H1)
  | false => rw [if_neg Bool.false_ne_true] at o1 ⊢; exact qb H0 O0 O ρ σ H1 Q (rl.grow e1) o1
theorem db_not (ha : DB X W a p) : DB X W (.UnaryOp .Not a pos) (bNot p) := by
  obtain ⟨ta, pa, qa⟩ := ha.ex
  refine ⟨_, pt_not pa, fun H0 O0 O ρ σ H Q rl o => ?_⟩
  exact qa H0 O0 O ρ σ H _ rl (o.bind.imp fun k H1 e1 o1 => o1 H1 (Same.refl H1))

/-! ### and, or, not, if as values -/
def cAnd (f g : En → R PD) : En → R PD := fun ρ => (f ρ).bind fun d => (tru d).bind fun b => if b = true then g ρ else .ok d
def cOr (f g : En → R PD) : En → R PD := fun ρ => (f ρ).bind fun d => (tru d).bind fun b => if b = true then .ok d else g ρ
def cNot (f : En → R PD) : En → R PD := fun ρ => (f ρ).bind fun d => (tru d).bind fun b => .ok (.bool (!b))
def cIf (p : En → R Bool) (f g : En → R PD) : En → R PD := fun ρ => (p ρ).bind fun b => if b = true then f ρ else g ρ
theorem de_one {op} (h : DE X W a f) : DE X W (.BoolOp op [a] pos) f := let ⟨t, x, y⟩ := h.ex; ⟨t, pe_one x, y⟩
theorem de_and (ha : DE X W a f) (hb : DE X W (.BoolOp .And (b :: rest) pos) g) : DE X W (.BoolOp .And (a :: b :: rest) pos) (cAnd f g) := by
  obtain ⟨ta, pa, qa⟩ := ha.ex
  obtain ⟨tb, pb, qb⟩ := hb.ex
  refine ⟨_, pe_andT pa pb, fun H0 O0 O ρ σ H Q rl o => ?_⟩
  refine qa H0 O0 O ρ σ H _ rl (o.bind.imp fun d H1 e1 o1 x hx => ?_)
  obtain ⟨k, h1, h2⟩ := tru_of (.inl hx) o1.bind
  refine ⟨k, h1, ?_⟩
  cases k with
  | true => rw [if_pos rfl] at h2 ⊢; exact qb H0 O0 O ρ σ H1 Q (rl.grow e1) h2
  | false => rw [if_neg Bool.false_ne_true] at h2 ⊢; exact h2 H1 (Same.refl H1) x hx
theorem de_or (ha : DE X W a f) (hb : DE X W (.BoolOp .Or (b :: rest) pos) g) : DE X W (.BoolOp .Or (a :: b :: rest) pos) (cOr f g) := by
  obtain ⟨ta, pa, qa⟩ := ha.ex
  obtain ⟨tb, pb, qb⟩ := hb.ex
  refine ⟨_, pe_orT pa pb, fun H0 O0 O ρ σ H Q rl o => ?_⟩
  refine qa H0 O0 O ρ σ H _ rl (o.bind.imp fun d H1 e1 o1 x hx => ?_)
  obtain ⟨k, h1, h2⟩ := tru_of (.inl hx) o1.bind
  refine ⟨k, h1, ?_⟩
  cases k with
  | true => rw [if_pos rfl] at h2 ⊢; exact h2 H1 (Same.refl H1) x hx
  | false => rw [if_neg Bool.false_ne_true] at h2 ⊢; exact qb H0 O0 O ρ σ H1 Q (rl.grow e1) h2
theorem de_not (ha : DV X W a f) : DE X W (.UnaryOp .Not a pos) (cNot f) := by
  obtain ⟨ta, pa, qa⟩ := ha.ex
  refine ⟨_, pe_notT pa, fun H0 O0 O ρ σ H Q rl o => ?_⟩
  refine qa H0 O0 O ρ σ H _ rl (o.bind.imp fun d H1 e1 o1 x hx => ?_)
  obtain ⟨k, h1, h2⟩ := tru_of hx o1.bind
  exact ⟨k, h1, h2 H1 (Same.refl H1) _ (.bl _)⟩
theorem de_if (hc : DB X W c p) (ha : DE X W a f) (hb : DE X W b g) : DE X W (.IfExp c a b pos) (cIf p f g) := by
  obtain ⟨tc, pc, qc⟩ := hc.ex
  obtain ⟨ta, pa, qa⟩ := ha.ex
  obtain ⟨tb, pb, qb⟩ := hb.ex
  refine ⟨_, pe_ifExp pc pa pb, fun H0 O0 O ρ σ H Q rl o => ?_⟩
  refine qc H0 O0 O ρ σ H _ rl (o.bind.imp fun k H1 e1 o1 => ?_)
  cases k with
  | true => rw [if_pos rfl] at o1 ⊢; exact qa H0 O0 O ρ σ H1 Q (rl.grow e1) o1
  | false => rw [if_neg Bool.false_ne_true] at o1 ⊢; exact qb H0 O0 O ρ σ H1 Q (rl.grow e1) o1
/-- a op b op' c -/
def cChain (F G : PD → PD → R PD) (f g h : En → R PD) : En → R PD := fun ρ => (f ρ).bind fun x => (g ρ).bind fun y => (F x y).bind fun z => (asB z).bind fun k => if k = true then (h ρ).bind fun u => G y u else .ok (.bool false)
theorem chain_go {r r' : R2} {F G : PD → PD → R PD} (h2 : ∀ W O σ H x y d e Q, (∀ p, H p = none → ¬ O p) → Dt X.K O H x d → Dt X.K O H y e → OutP X W O σ H (F d e) (fun d H' => ∀ v, Dq X.K (wo H' O) v d → Q v H') → r x y H Q)
    (h2' : ∀ W O σ H x y d e Q, (∀ p, H p = none → ¬ O p) → Dt X.K O H x d → Dt X.K O H y e → OutP X W O σ H (G d e) (fun d H' => ∀ v, Dq X.K (wo H' O) v d → Q v H') → r' x y H Q)
    {ta tb tc : TE} (qa : ∀ H0 O0 O ρ σ H Q, Rel X.K H0 O0 O H ρ σ → OutP X W O σ H (f ρ) (fun d H' => ∀ v, Dt X.K O H' v d → Q v H') → ta σ H Q)
    (qb : ∀ H0 O0 O ρ σ H Q, Rel X.K H0 O0 O H ρ σ → OutP X W O σ H (g ρ) (fun d H' => ∀ v, Dt X.K O H' v d → Q v H') → tb σ H Q)
    (qc : ∀ H0 O0 O ρ σ H Q, Rel X.K H0 O0 O H ρ σ → OutP X W O σ H (h ρ) (fun d H' => ∀ v, Dt X.K O H' v d → Q v H') → tc σ H Q)
    (H0 : Hp) (O0 O : Addr → Prop) (ρ : En) (σ : L2.St) (H : Hp) (Q : VK) (rl : Rel X.K H0 O0 O H ρ σ) (o : OutP X W O σ H (cChain F G f g h ρ) (fun d H' => ∀ v, Dq X.K (wo H' O) v d → Q v H')) : tChain r r' ta tb tc σ H Q := by
  refine qa H0 O0 O ρ σ H _ rl (o.bind.imp fun d H1 e1 o1 x hx => ?_)
  refine qb H0 O0 O ρ σ H1 _ (rl.grow e1) (o1.bind.imp fun d' H2 e2 o2 y hy => ?_)
  refine h2 W O σ H2 x y d d' _ (fun p n z => ((rl.grow e1).grow e2).al p z n) (hx.mono e2) hy (o2.bind.imp fun z H3 e3 o3 v hv => ?_)
  cases z with
  | bool k =>
    cases hv.sc_bl
    refine ⟨k, rfl, ?_⟩
    have o4 := o3.bind H3 (Same.refl H3)
    cases k with
    | false => rw [if_neg Bool.false_ne_true] at o4 ⊢; exact o4 H3 (Same.refl H3) _ (.bl _)
    | true =>
      rw [if_pos rfl] at o4 ⊢
      exact qc H0 O0 O ρ σ H3 _ (rl.grow ((e1.trans e2).trans e3)) (o4.bind.imp fun u H4 e4 o5 w hw => h2' W O σ H4 y w d' u Q (fun p n z => (rl.grow (((e1.trans e2).trans e3).trans e4)).al p z n) (hy.mono (e3.trans e4)) hw o5)
  | _ => exact o3.elim
theorem de_chain {op op' : CmpOp} {F G : PD → PD → R PD} (ho : OpD X (compareOp op) F) (ho' : OpD X (compareOp op') G) (ha : DV X W a f) (hb : DV X W b g) (hc : DV X W c h)
    (hm : lastMarks [op, op'] [b, c] = false := by with_unfolding_all rfl) : DE X W (.Compare a [op, op'] [b, c] pos) (cChain F G f g h) := by
  obtain ⟨r, h1, h2⟩ := ho
  obtain ⟨r', h1', h2'⟩ := ho'
  obtain ⟨ta, pa, qa⟩ := ha.ex
  obtain ⟨tb, pb, qb⟩ := hb.ex
  obtain ⟨tc, pc, qc⟩ := hc.ex
  exact ⟨_, pe_chain h1 h1' pa pb pc hm, chain_go h2 h2' qa qb qc⟩
def bChain (F G : PD → PD → R PD) (f g h : En → R PD) : En → R Bool := fun ρ => (cChain F G f g h ρ).bind asB
theorem db_chain {op op' : CmpOp} {F G : PD → PD → R PD} (ho : OpD X (compareOp op) F) (ho' : OpD X (compareOp op') G) (ha : DV X W a f) (hb : DV X W b g) (hc : DV X W c h)
    (hm : lastMarks [op, op'] [b, c] = false := by with_unfolding_all rfl) : DB X W (.Compare a [op, op'] [b, c] pos) (bChain F G f g h) := by
  obtain ⟨r, h1, h2⟩ := ho
  obtain ⟨r', h1', h2'⟩ := ho'
  obtain ⟨ta, pa, qa⟩ := ha.ex
  obtain ⟨tb, pb, qb⟩ := hb.ex
  obtain ⟨tc, pc, qc⟩ := hc.ex
  refine ⟨_, pt_chain h1 h1' pa pb pc hm, fun H0 O0 O ρ σ H Q rl o => ?_⟩
  refine chain_go h2 h2' qa qb qc H0 O0 O ρ σ H _ rl (o.bind.imp fun z H1 e1 o1 v hv => ?_)
  cases z with
  | bool k => cases hv.sc_bl; exact ⟨k, rfl, o1 H1 (Same.refl H1)⟩
  | _ => exact o1.elim
end

/-! ### argument lists -/
/-- clean arguments (of a display, of a call of a def of the text) -/
structure DC (X : Cx) (W : WX) (es : List Expr) (f : En → R (List PD)) : Prop where
  ex : ∃ t, PA X es t ∧ ∀ H0 O0 O ρ σ H Q, Rel X.K H0 O0 O H ρ σ → OutP X W O σ H (f ρ) (fun ds H' => ∀ vs, DqAll X.K (wo H' O) vs ds → Q vs H') → t σ H Q
/-- arguments of a built-in -/
abbrev DtAll (K : PySem.W.Frag) (O : Addr → Prop) (H : Hp) : List V → List PD → Prop := Paired (Dt K O H)
structure DA (X : Cx) (W : WX) (es : List Expr) (f : En → R (List PD)) : Prop where
  ex : ∃ t, PA X es t ∧ ∀ H0 O0 O ρ σ H Q, Rel X.K H0 O0 O H ρ σ → OutP X W O σ H (f ρ) (fun ds H' => ∀ vs, DtAll X.K O H' vs ds → Q vs H') → t σ H Q
def cNil : En → R (List PD) := fun _ => .ok []
def cCons (f : En → R PD) (g : En → R (List PD)) : En → R (List PD) := fun ρ => (f ρ).bind fun d => (g ρ).bind fun ds => .ok (d :: ds)
section
variable {X : Cx} {W : WX} {e : Expr} {es : List Expr} {f : En → R PD} {g : En → R (List PD)} {pos : Pos}
theorem dc_nil : DC X W [] cNil := ⟨_, pa_nil, fun H0 O0 O ρ σ H Q rl o => o H (Same.refl H) [] .nil⟩
theorem dc_cons (ha : DE X W e f) (hr : DC X W es g) (hs : starEach (e :: es) X.env = (false, eval e X.env) :: starEach es X.env := by rfl) : DC X W (e :: es) (cCons f g) := by
  obtain ⟨ta, pa, qa⟩ := ha.ex
  obtain ⟨tb, pb, qb⟩ := hr.ex
  refine ⟨_, pa_cons pa pb hs, fun H0 O0 O ρ σ H Q rl o => ?_⟩
  refine qa H0 O0 O ρ σ H _ rl (o.bind.imp fun d H1 e1 o1 x hx => ?_)
  refine qb H0 O0 O ρ σ H1 _ (rl.grow e1) (o1.bind.imp fun ds H2 e2 o2 vs hv => ?_)
  exact o2 H2 (Same.refl H2) _ (.cons (hx.mono (same_wo e2)) hv)
theorem da_nil : DA X W [] cNil := ⟨_, pa_nil, fun H0 O0 O ρ σ H Q rl o => o H (Same.refl H) [] .nil⟩
theorem da_cons (ha : DV X W e f) (hr : DA X W es g) (hs : starEach (e :: es) X.env = (false, eval e X.env) :: starEach es X.env := by rfl) : DA X W (e :: es) (cCons f g) := by
  obtain ⟨ta, pa, qa⟩ := ha.ex
  obtain ⟨tb, pb, qb⟩ := hr.ex
  refine ⟨_, pa_cons pa pb hs, fun H0 O0 O ρ σ H Q rl o => ?_⟩
  refine qa H0 O0 O ρ σ H _ rl (o.bind.imp fun d H1 e1 o1 x hx => ?_)
  refine qb H0 O0 O ρ σ H1 _ (rl.grow e1) (o1.bind.imp fun ds H2 e2 o2 vs hv => ?_)
  exact o2 H2 (Same.refl H2) _ (.cons (hx.mono e2) hv)

/-! ### displays -/
theorem Rel.fresh {K : PySem.W.Frag} {H0 H : Hp} {O0 O : Addr → Prop} {ρ : En} {σ : L2.St} (rl : Rel K H0 O0 O H ρ σ) {p : Addr} (h : H p = none) : ¬ O p := fun z => rl.al p z h
theorem wo_new {H : Hp} {O : Addr → Prop} {p : Addr} {o : HO} (h : ¬ O p) : wo (upd H p o) O p = some o := wo_some h upd_same
theorem all_grow {K : PySem.W.Frag} {H : Hp} {O : Addr → Prop} {p : Addr} {o : HO} {vs : List V} {ds : List PD} (n : H p = none) (h : DqAll K (wo H O) vs ds) : DqAll K (wo (upd H p o) O) vs ds := h.mono (same_wo (Same.updNew n))
def mkT (ds : List PD) : R PD := chk (decide (ds.length ≤ big)) (.ok (.tuple ds))
def mkL (ds : List PD) : R (List PD) := chk (decide (ds.length ≤ big)) (.ok ds)
def cTup (g : En → R (List PD)) : En → R PD := fun ρ => (g ρ).bind mkT
theorem de_tup {k : Nat} (h : DC X W es g) : DE X W (.Tuple es k pos) (cTup g) := by
  obtain ⟨ta, pa, qa⟩ := h.ex
  refine ⟨_, pe_tup pa, fun H0 O0 O ρ σ H Q rl o => ?_⟩
  refine qa H0 O0 O ρ σ H _ rl (o.bind.imp fun ds H1 e1 o1 vs hv => ?_)
  obtain ⟨c, o1⟩ := OutP.chk o1
  refine ⟨by rw [hv.length]; exact big_line (of_decide_eq_true c), fun p np => ?_⟩
  have nO := (rl.grow e1).fresh np
  exact o1 _ (Same.updNew np) _ (.tup (.inl (.inl (wo_new nO))) (all_grow np hv))
/-- a value that is a new list -/
structure DF (X : Cx) (W : WX) (e : Expr) (f : En → R (List PD)) : Prop where
  ex : ∃ t, PE X e t ∧ ∀ H0 O0 O ρ σ H Q, Rel X.K H0 O0 O H ρ σ → OutP X W O σ H (f ρ) (fun ds H1 => ∀ p vs H2, H1 p = none → DqAll X.K (wo H1 O) vs ds → H2 = upd H1 p (.lst vs) → Q (.ref p) H2) → t σ H Q
def cL (f : En → R (List PD)) : En → R PD := fun ρ => (f ρ).bind fun ds => .ok (.list ds)
theorem DF.de (h : DF X W e g) : DE X W e (cL g) := by
  obtain ⟨ta, pa, qa⟩ := h.ex
  refine ⟨_, pa, fun H0 O0 O ρ σ H Q rl o => ?_⟩
  refine qa H0 O0 O ρ σ H _ rl (o.bind.imp fun ds H1 e1 o1 p vs H2 np hv e2 => ?_)
  subst e2
  have nO := (rl.grow e1).fresh np
  exact o1 _ (Same.updNew np) _ (.lst (.inl ((wo_new nO))) (all_grow np hv))
def cLst (g : En → R (List PD)) : En → R (List PD) := fun ρ => (g ρ).bind mkL
theorem df_lst (h : DC X W es g) : DF X W (.List es pos) (cLst g) := by
  obtain ⟨ta, pa, qa⟩ := h.ex
  refine ⟨_, pe_lst pa, fun H0 O0 O ρ σ H Q rl o => ?_⟩
  refine qa H0 O0 O ρ σ H _ rl (o.bind.imp fun ds H1 e1 o1 vs hv => ?_)
  obtain ⟨c, o1⟩ := OutP.chk o1
  exact ⟨by rw [hv.length]; exact big_line (of_decide_eq_true c), fun p np => o1 H1 (Same.refl H1) p vs _ np hv rfl⟩

/-! ### calls of built-ins -/
def CallD (X : Cx) (u : Value) (F : List PD → R PD) : Prop :=
  ∃ r, CallR X u r ∧ ∀ W O σ H xs ds Q, (∀ p, H p = none → ¬ O p) → DtAll X.K O H xs ds → OutP X W O σ H (F ds) (fun d H' => ∀ v, Dq X.K (wo H' O) v d → Q v H') → r xs H Q
def cCl (F : List PD → R PD) (g : En → R (List PD)) : En → R PD := fun ρ => (g ρ).bind F
theorem de_callB {x : Str} {p : Pos} {id : String} {F : List PD → R PD} (hc : CallD X (.builtin id) F) (hg : Gl X x) (hm : X.mg x = none) (hv : bootBuiltins x = some (.builtin id)) (ha : DA X W (e :: es) g) (hn : x ≠ "__name__" := by decide) (hdb : (x == ("__debug__" : Str)) = false := by decide)
    (he : starEach (e :: es) X.env = (false, eval e X.env) :: starEach es X.env := by rfl) (hpl : (backTo pos (starEach es X.env)).any (·.1) = false := by rfl) : DE X W (.Call (.Name x p) (e :: es) [] pos) (cCl F g) := by
  obtain ⟨r, h1, h2⟩ := hc
  obtain ⟨ta, pa, qa⟩ := ha.ex
  refine ⟨_, pe_callB h1 hg hm hv pa hn hdb he hpl, fun H0 O0 O ρ σ H Q rl o => ?_⟩
  exact qa H0 O0 O ρ σ H _ rl (o.bind.imp fun ds H1 e1 o1 vs hv => h2 W O σ H1 vs ds Q (fun p n => (rl.grow e1).fresh n) hv o1)
theorem de_callTy {x : Str} {p : Pos} {T : String} {F : List PD → R PD} (hc : CallD X (.type T) F) (hg : Gl X x) (hm : X.mg x = none) (hv : bootBuiltins x = some (.type T)) (ha : DA X W (e :: es) g) (hn : x ≠ "__name__" := by decide) (hdb : (x == ("__debug__" : Str)) = false := by decide)
    (he : starEach (e :: es) X.env = (false, eval e X.env) :: starEach es X.env := by rfl) (hpl : (backTo pos (starEach es X.env)).any (·.1) = false := by rfl) : DE X W (.Call (.Name x p) (e :: es) [] pos) (cCl F g) := by
  obtain ⟨r, h1, h2⟩ := hc
  obtain ⟨ta, pa, qa⟩ := ha.ex
  refine ⟨_, pe_callTy h1 hg hm hv pa hn hdb he hpl, fun H0 O0 O ρ σ H Q rl o => ?_⟩
  exact qa H0 O0 O ρ σ H _ rl (o.bind.imp fun ds H1 e1 o1 vs hv => h2 W O σ H1 vs ds Q (fun p n => (rl.grow e1).fresh n) hv o1)

/-- .. that gives a new list -/
def CallF (X : Cx) (u : Value) (F : List PD → R (List PD)) : Prop :=
  ∃ r, CallR X u r ∧ ∀ W O σ H xs ds Q, (∀ p, H p = none → ¬ O p) → DtAll X.K O H xs ds → OutP X W O σ H (F ds) (fun ds H1 => ∀ p vs H2, H1 p = none → DqAll X.K (wo H1 O) vs ds → H2 = upd H1 p (.lst vs) → Q (.ref p) H2) → r xs H Q
def cClF (F : List PD → R (List PD)) (g : En → R (List PD)) : En → R (List PD) := fun ρ => (g ρ).bind F
theorem df_callB {x : Str} {p : Pos} {id : String} {F : List PD → R (List PD)} (hc : CallF X (.builtin id) F) (hg : Gl X x) (hm : X.mg x = none) (hv : bootBuiltins x = some (.builtin id)) (ha : DA X W (e :: es) g) (hn : x ≠ "__name__" := by decide) (hdb : (x == ("__debug__" : Str)) = false := by decide)
    (he : starEach (e :: es) X.env = (false, eval e X.env) :: starEach es X.env := by rfl) (hpl : (backTo pos (starEach es X.env)).any (·.1) = false := by rfl) : DF X W (.Call (.Name x p) (e :: es) [] pos) (cClF F g) := by
  obtain ⟨r, h1, h2⟩ := hc
  obtain ⟨ta, pa, qa⟩ := ha.ex
  refine ⟨_, pe_callB h1 hg hm hv pa hn hdb he hpl, fun H0 O0 O ρ σ H Q rl o => ?_⟩
  exact qa H0 O0 O ρ σ H _ rl (o.bind.imp fun ds H1 e1 o1 vs hv => h2 W O σ H1 vs ds _ (fun p n => (rl.grow e1).fresh n) hv o1)
theorem df_callTy {x : Str} {p : Pos} {T : String} {F : List PD → R (List PD)} (hc : CallF X (.type T) F) (hg : Gl X x) (hm : X.mg x = none) (hv : bootBuiltins x = some (.type T)) (ha : DA X W (e :: es) g) (hn : x ≠ "__name__" := by decide) (hdb : (x == ("__debug__" : Str)) = false := by decide)
    (he : starEach (e :: es) X.env = (false, eval e X.env) :: starEach es X.env := by rfl) (hpl : (backTo pos (starEach es X.env)).any (·.1) = false := by rfl) : DF X W (.Call (.Name x p) (e :: es) [] pos) (cClF F g) := by
  obtain ⟨r, h1, h2⟩ := hc
  obtain ⟨ta, pa, qa⟩ := ha.ex
  refine ⟨_, pe_callTy h1 hg hm hv pa hn hdb he hpl, fun H0 O0 O ρ σ H Q rl o => ?_⟩
  exact qa H0 O0 O ρ σ H _ rl (o.bind.imp fun ds H1 e1 o1 vs hv => h2 W O σ H1 vs ds _ (fun p n => (rl.grow e1).fresh n) hv o1)

/-! ### a unary operator -/
def UnD (X : Cx) (op : Value → Sem Value) (F : PD → R PD) : Prop :=
  ∃ r, UnR X op r ∧ ∀ W O σ H x d Q, (∀ p, H p = none → ¬ O p) → Dt X.K O H x d → OutP X W O σ H (F d) (fun d H' => ∀ v, Dq X.K (wo H' O) v d → Q v H') → r x H Q
def c1 (F : PD → R PD) (f : En → R PD) : En → R PD := fun ρ => (f ρ).bind F
theorem de_un {op : UnaryOp} {F : PD → R PD} (ho : UnD X (unaryOp op) F) (ha : DE X W e f) : DE X W (.UnaryOp op e pos) (c1 F f) := by
  obtain ⟨r, h1, h2⟩ := ho
  obtain ⟨ta, pa, qa⟩ := ha.ex
  refine ⟨_, pe_un h1 pa, fun H0 O0 O ρ σ H Q rl o => ?_⟩
  exact qa H0 O0 O ρ σ H _ rl (o.bind.imp fun d H1 e1 o1 x hx => h2 W O σ H1 x d Q (fun p n => (rl.grow e1).fresh n) (.inl hx) o1)

/-! ### items -/
def ixD : PD → PD → R PD
  | .list ds, .int i => match atI ds i with
    | some d => .ok d
    | none => .bad
  | .tuple ds, .int i => match atI ds i with
    | some d => .ok d
    | none => .bad
  | .str z, .int i => chk (decide (z.length ≤ big)) (match atI z.cps.toList i with
    | some c => .ok (.str ⟨#[c]⟩)
    | none => .bad)
  | _, _ => .bad
theorem atI_all {K : PySem.W.Frag} {H : Hp} {vs : List V} {ds : List PD} {i : Int} {d : PD} (h : DqAll K H vs ds) (e : atI ds i = some d) : ∃ v, atI vs i = some v ∧ Dq K H v d := by
  unfold atI at e ⊢
  rw [h.length]
  cases q : ixN ds.length i with
  | none => rw [q] at e; cases e
  | some j =>
    rw [q] at e
    exact h.get e
theorem de_ix {a b : Expr} {f g : En → R PD} (ha : DV X W a f) (hb : DV X W b g) (hs : PlainIx b) : DE X W (.Subscript a b pos) (c2 ixD f g) := by
  obtain ⟨ta, pa, qa⟩ := ha.ex
  obtain ⟨tb, pb, qb⟩ := hb.ex
  refine ⟨_, pe_ix ix_seq pa pb hs, fun H0 O0 O ρ σ H Q rl o => ?_⟩
  refine qa H0 O0 O ρ σ H _ rl (o.bind.imp fun d H1 e1 o1 x hx => ?_)
  refine qb H0 O0 O ρ σ H1 _ (rl.grow e1) (o1.bind.imp fun d' H2 e2 o2 y hy => ?_)
  have hx := hx.mono e2
  cases d' with
  | int i =>
    cases hy.sc_int
    cases d with
    | list ds =>
      obtain ⟨a, vs, rfl, h1, h2⟩ := hx.list
      unfold ixD at o2
      cases q : atI ds i with
      | none => simp only [q] at o2; exact o2.elim
      | some d =>
        simp only [q] at o2
        obtain ⟨v, k1, k2⟩ := atI_all h2 q
        exact .inl ⟨a, vs, i, v, rfl, rfl, .inl h1, k1, o2 H2 (Same.refl H2) v k2⟩
    | tuple ds =>
      obtain ⟨a, vs, rfl, h1, h2⟩ := hx.tuple
      unfold ixD at o2
      cases q : atI ds i with
      | none => simp only [q] at o2; exact o2.elim
      | some d =>
        simp only [q] at o2
        obtain ⟨v, k1, k2⟩ := atI_all h2 q
        exact .inr (.inl ⟨a, vs, i, v, rfl, rfl, Same.seqT wo_self h1, k1, o2 H2 (Same.refl H2) v k2⟩)
    | str z =>
      cases hx.sc_str
      unfold ixD at o2
      obtain ⟨c, o2⟩ := OutP.chk o2
      cases q : atI z.cps.toList i with
      | none => simp only [q] at o2; exact o2.elim
      | some d =>
        simp only [q] at o2
        exact .inr (.inr ⟨z, i, d, rfl, rfl, big_line (of_decide_eq_true c), q, o2 H2 (Same.refl H2) _ (.str _)⟩)
    | _ => exact o2.elim
  | _ => cases d <;> exact o2.elim
end
end DL
namespace DL
open PySem PySem.Spec L2

/-! ### statements -/
def OutS (K : PySem.W.Frag) (mg : Str → Option Value) (W : WX) (H0 : Hp) (O0 : Addr → Prop) (D : Ends) (o : Fl) : Prop :=
  match o with
  | .nx ρ => ∀ O H σ, Rel K H0 O0 O H ρ σ → D.nx σ H
  | .rt d => ∀ v H, Same H0 H → Dq K (wo H O0) v d → D.rt v H
  | .bk ρ => ∀ O H σ, Rel K H0 O0 O H ρ σ → D.bk σ H
  | .ct ρ => ∀ O H σ, Rel K H0 O0 O H ρ σ → D.ct σ H
  | .ex c pl ρ => ∀ O H σ cls dx, Rel K H0 O0 O H ρ σ → IsEx K mg c pl cls dx (wo H O) → W cls dx σ H
  | .bad => False
structure DS (X : Cx) (W : WX) (st : Stmt) (g : En → Fl) : Prop where
  ex : ∃ t, PS X st t ∧ ∀ H0 O0 O ρ σ H D, Rel X.K H0 O0 O H ρ σ → OutS X.K X.mg W H0 O0 D (g ρ) → t D σ H
structure DSs (X : Cx) (W : WX) (st : List Stmt) (g : En → Fl) : Prop where
  ex : ∃ t, PSs X st t ∧ ∀ H0 O0 O ρ σ H D, Rel X.K H0 O0 O H ρ σ → OutS X.K X.mg W H0 O0 D (g ρ) → t D σ H

def toS {α : Type} (ρ : En) (r : R α) (k : α → Fl) : Fl := match r with
  | .ok a => k a
  | .ex c pl => .ex c pl ρ
  | .bad => .bad
@[simp] theorem toS_ok {α : Type} (ρ : En) (a : α) (k : α → Fl) : toS ρ (.ok a) k = k a := rfl
@[simp] theorem toS_ex {α : Type} (ρ : En) (c pl) (k : α → Fl) : toS ρ (.ex c pl) k = .ex c pl ρ := rfl
@[simp] theorem toS_bad {α : Type} (ρ : En) (k : α → Fl) : toS ρ .bad k = .bad := rfl
section
variable {K : PySem.W.Frag} {mg : Str → Option Value} {W : WX} {H0 H H' H1 : Hp} {O0 O : Addr → Prop} {ρ : En} {σ : L2.St} {D : Ends} {p : Addr} {o : HO} {i : Nat} {X : Cx}
theorem OutS.ofR {α : Type} {r : R α} {k : α → Fl} (rl : Rel X.K H0 O0 O H ρ σ) (h : OutS X.K X.mg W H0 O0 D (toS ρ r k)) : OutP X W O σ H r (fun a _ => OutS X.K X.mg W H0 O0 D (k a)) := by
  cases r with
  | ok a => exact fun _ _ => h
  | ex c pl => exact fun cls dx H' e i => h O H' σ cls dx (rl.grow e) i
  | bad => exact h
theorem SlR.weak {O' : Addr → Prop} {s : Sl} {x : Option (Option V)} (h : SlR K O0 O H s x) (ns : Sl.own s = false) (e : Same (wo H O) (wo H' O')) : SlR K O0 O' H' s x := by
  cases s with
  | un => trivial
  | va d => obtain ⟨v, q, r⟩ := h; exact ⟨v, q, r.mono e⟩
  | sc ns => obtain ⟨v, q, r⟩ := h; exact ⟨v, q, e.seq r⟩
  | _ => cases ns
/-- an own thing at p, by its slot -/
def OwnAt (K : PySem.W.Frag) (O0 O : Addr → Prop) (H : Hp) (s : Sl) (p : Addr) : Prop := O p ∧ ¬ O0 p ∧ H p ≠ none
theorem SlR.own_at {s : Sl} {x : Option (Option V)} (h : SlR K O0 O H s x) (ns : Sl.own s = true) : ∃ p, x = some (some (.ref p)) ∧ O p ∧ ¬ O0 p ∧ H p ≠ none := by
  cases s with
  | un => cases ns
  | va d => cases ns
  | sc d => cases ns
  | ol ds => obtain ⟨p, vs, q, m, n, r, z⟩ := h; exact ⟨p, q, m, n, by rw [r]; exact fun y => nomatch y⟩
  | od ds => obtain ⟨p, vs, q, m, n, r, z⟩ := h; exact ⟨p, q, m, n, by rw [r]; exact fun y => nomatch y⟩
  | ot ds => obtain ⟨p, vs, q, m, n, r, z⟩ := h; exact ⟨p, q, m, n, by rw [r]; exact fun y => nomatch y⟩
/-- another heap and other own addresses: the frozen part grows, this slot's own object stands -/
theorem SlR.move {O' : Addr → Prop} {s : Sl} {x : Option (Option V)} (h : SlR K O0 O H s x) (e : Same (wo H O) (wo H' O')) (k : ∀ p, x = some (some (.ref p)) → O p → H p ≠ none → O' p ∧ H' p = H p ∨ Sl.own s = false) : SlR K O0 O' H' s x := by
  cases s with
  | un => trivial
  | va d => obtain ⟨v, q, r⟩ := h; exact ⟨v, q, r.mono e⟩
  | sc ns => obtain ⟨v, q, r⟩ := h; exact ⟨v, q, e.seq r⟩
  | ol ds =>
    obtain ⟨p, vs, q, m, n, r, z⟩ := h
    rcases k p q m (by rw [r]; exact fun y => nomatch y) with ⟨k1, k2⟩ | k
    · exact ⟨p, vs, q, k1, n, by rw [k2]; exact r, z.mono e⟩
    · cases k
  | od ds =>
    obtain ⟨p, vs, q, m, n, r, z⟩ := h
    rcases k p q m (by rw [r]; exact fun y => nomatch y) with ⟨k1, k2⟩ | k
    · exact ⟨p, vs, q, k1, n, by rw [k2]; exact r, z.mono e⟩
    · cases k
  | ot ds =>
    obtain ⟨p, vs, q, m, n, r, z⟩ := h
    rcases k p q m (by rw [r]; exact fun y => nomatch y) with ⟨k1, k2⟩ | k
    · exact ⟨p, vs, q, k1, n, by rw [k2]; exact r, z.mono e⟩
    · cases k
theorem get_set {α : Type} {l : List α} {i j : Nat} {a s : α} (h : (l.set i a)[j]? = some s) : (j = i ∧ s = a ∧ i < l.length) ∨ (j ≠ i ∧ l[j]? = some s) := by
  by_cases e : i = j
  · subst e
    by_cases hi : i < l.length
    · rw [List.getElem?_set_self hi] at h; exact .inl ⟨rfl, (Option.some.inj h).symm, hi⟩
    · rw [List.getElem?_eq_none (by simpa using hi)] at h; cases h
  · rw [List.getElem?_set_ne e] at h; exact .inr ⟨fun z => e z.symm, h⟩
/-- a slot takes data -/
theorem Rel.setV {v : V} {d : PD} (h : Rel K H0 O0 O H ρ σ) (hd : Dq K (wo H O) v d) (i : Nat) : Rel K H0 O0 O H (ρ.set i (.va d)) (σ.set i (some v)) := by
  refine ⟨h.fr, h.sub, h.nw, h.al, by simp [h.len], fun j s q => ?_, fun j l s s' p hjl q q' ns ns' e e' => ?_⟩
  · rcases get_set q with ⟨rfl, rfl, hi⟩ | ⟨hj, q⟩
    · rw [List.getElem?_set_self (by rw [← h.len]; exact hi)]; exact ⟨v, rfl, hd⟩
    · rw [List.getElem?_set_ne (Ne.symm hj)]; exact h.sl j s q
  · rcases get_set q with ⟨rfl, rfl, hi⟩ | ⟨hj, q⟩
    · cases ns
    · rcases get_set q' with ⟨rfl, rfl, hi⟩ | ⟨hl, q'⟩
      · cases ns'
      · rw [List.getElem?_set_ne (Ne.symm hj)] at e
        rw [List.getElem?_set_ne (Ne.symm hl)] at e'
        exact h.dj j l s s' p hjl q q' ns ns' e e'
theorem wo_add (n : H p = none) : Same (wo H O) (wo (upd H p o) (fun q => O q ∨ q = p)) := fun b u e => by
  obtain ⟨e1, e2⟩ := wo_inv e
  have hb : b ≠ p := ne_of_none e2 n
  refine wo_some (fun z => z.elim e1 hb) ?_
  rw [upd_ne hb]; exact e2
/-- a slot takes a new own thing -/
theorem Rel.setO {s' : Sl} (h : Rel K H0 O0 O H ρ σ) (n : H p = none) (i : Nat) (hs : SlR K O0 (fun q => O q ∨ q = p) (upd H p o) s' (some (some (.ref p)))) : Rel K H0 O0 (fun q => O q ∨ q = p) (upd H p o) (ρ.set i s') (σ.set i (some (.ref p))) := by
  refine ⟨h.fr.trans (Same.updNew n), fun q z => .inl (h.sub q z), fun q z => ?_, fun q z => ?_, by simp [h.len], fun j s q => ?_, fun j l s s2 q hjl g g' ns ns' e e' => ?_⟩
  · rcases z with z | rfl
    · exact h.nw q z
    · exact .inr (h.fr.free n)
  · by_cases hq : q = p
    · subst hq; rw [upd_same]; exact fun y => nomatch y
    · rw [upd_ne hq]; exact h.al q (z.resolve_right hq)
  · rcases get_set q with ⟨rfl, rfl, hi⟩ | ⟨hj, q⟩
    · rw [List.getElem?_set_self (by rw [← h.len]; exact hi)]; exact hs
    · rw [List.getElem?_set_ne (Ne.symm hj)]
      refine (h.sl j s q).move (wo_add n) fun r hr hO hn => .inl ⟨.inl hO, ?_⟩
      rw [upd_ne (fun z => hn (by rw [z]; exact n))]
  · have old : ∀ {j : Nat} {s : Sl} {q : Addr}, ρ[j]? = some s → Sl.own s = true → σ[j]? = some (some (.ref q)) → q ≠ p := fun {j s q} g ns e z => by
      obtain ⟨r, e1, _, _, e2⟩ := (h.sl j s g).own_at ns
      rw [e] at e1; cases e1
      exact e2 (by rw [z]; exact n)
    rcases get_set g with ⟨rfl, rfl, hi⟩ | ⟨hj, k1⟩
    · rcases get_set g' with ⟨rfl, rfl, hl⟩ | ⟨hl, k2⟩
      · exact hjl rfl
      · rw [List.getElem?_set_self (by rw [← h.len]; exact hi)] at e
        rw [List.getElem?_set_ne (Ne.symm hl)] at e'
        cases e
        exact old k2 ns' e' rfl
    · rw [List.getElem?_set_ne (Ne.symm hj)] at e
      rcases get_set g' with ⟨rfl, rfl, hl⟩ | ⟨hl, k2⟩
      · rw [List.getElem?_set_self (by rw [← h.len]; exact hl)] at e'
        cases e'
        exact old k1 ns e rfl
      · rw [List.getElem?_set_ne (Ne.symm hl)] at e'
        exact h.dj j l s s2 q hjl k1 k2 ns ns' e e'
/-- an own thing is changed -/
theorem Rel.updO {s s' : Sl} (h : Rel K H0 O0 O H ρ σ) (hi : ρ[i]? = some s) (ns : Sl.own s = true) (ns' : Sl.own s' = true) (hσ : σ[i]? = some (some (.ref p))) (hs : SlR K O0 O (upd H p o) s' (some (some (.ref p)))) : Rel K H0 O0 O (upd H p o) (ρ.set i s') σ := by
  obtain ⟨p', e1, m1, m2, m3⟩ := (h.sl i s hi).own_at ns
  rw [hσ] at e1; cases e1
  have h0 : H0 p = none := by
    rcases h.nw p m1 with z | z
    · exact absurd z m2
    · exact z
  refine ⟨fun b u e => ?_, h.sub, h.nw, fun q z => ?_, by simp [h.len], fun j t q => ?_, fun j l t t2 q hjl g g' n1 n2 e e' => ?_⟩
  · rw [upd_ne (ne_of_none e h0)]; exact h.fr b u e
  · by_cases hq : q = p
    · subst hq; rw [upd_same]; exact fun y => nomatch y
    · rw [upd_ne hq]; exact h.al q z
  · rcases get_set q with ⟨rfl, rfl, hi'⟩ | ⟨hj, q⟩
    · rw [hσ]; exact hs
    · refine (h.sl j t q).move (by rw [wo_upd m1]; exact Same.refl _) fun r hr hO hn => ?_
      by_cases hown : Sl.own t = true
      · refine .inl ⟨hO, ?_⟩
        rw [upd_ne (fun z => h.dj i j s t p (Ne.symm hj) hi q ns hown hσ (by rw [hr, z]))]
      · exact .inr (by simpa using hown)
  · rcases get_set g with ⟨rfl, rfl, _⟩ | ⟨hj, k1⟩
    · rcases get_set g' with ⟨rfl, rfl, _⟩ | ⟨hl, k2⟩
      · exact hjl rfl
      · exact h.dj j l s t2 q hjl hi k2 ns n2 e e'
    · rcases get_set g' with ⟨rfl, rfl, _⟩ | ⟨hl, k2⟩
      · exact h.dj j l t s q hjl k1 hi n1 ns e e'
      · exact h.dj j l t t2 q hjl k1 k2 n1 n2 e e'
/-- an own list is changed no more -/
theorem Rel.freeze {ds : List PD} (h : Rel K H0 O0 O H ρ σ) (hi : ρ[i]? = some (.ol ds)) : ∃ O', Rel K H0 O0 O' H (ρ.set i (.va (.list ds))) σ := by
  obtain ⟨p, vs, e1, m1, m2, m3, m4⟩ := h.sl i _ hi
  have sb : Same (wo H O) (wo H fun q => O q ∧ q ≠ p) := wo_sub fun q z => z.1
  refine ⟨fun q => O q ∧ q ≠ p, h.fr, fun q z => ⟨h.sub q z, fun y => m2 (by rw [← y]; exact z)⟩, fun q z => h.nw q z.1, fun q z => h.al q z.1, by simp [h.len], fun j t q => ?_, fun j l t t2 q hjl g g' n1 n2 e e' => ?_⟩
  · rcases get_set q with ⟨rfl, rfl, _⟩ | ⟨hj, q⟩
    · exact ⟨_, e1, .lst (.inl ((wo_some (fun z => z.2 rfl) m3))) (m4.mono sb)⟩
    · refine (h.sl j t q).move sb fun r hr hO hn => ?_
      by_cases hown : Sl.own t = true
      · exact .inl ⟨⟨hO, fun z => h.dj i j _ t p (Ne.symm hj) hi q rfl hown e1 (by rw [hr, z])⟩, rfl⟩
      · exact .inr (by simpa using hown)
  · rcases get_set g with ⟨rfl, rfl, _⟩ | ⟨hj, k1⟩
    · cases n1
    · rcases get_set g' with ⟨rfl, rfl, _⟩ | ⟨hl, k2⟩
      · cases n2
      · exact h.dj j l t t2 q hjl k1 k2 n1 n2 e e'
end

/-! ### blocks -/
def sNx : En → Fl := fun ρ => .nx ρ
def sSeq (g h : En → Fl) : En → Fl := fun ρ => match g ρ with
  | .nx ρ' => h ρ'
  | .rt d => .rt d
  | .bk ρ' => .bk ρ'
  | .ct ρ' => .ct ρ'
  | .ex c pl ρ' => .ex c pl ρ'
  | .bad => .bad
def sSet (i : Nat) (f : En → R PD) : En → Fl := fun ρ => toS ρ (f ρ) fun d => .nx (ρ.set i (.va d))
def sSetL (i : Nat) (f : En → R (List PD)) : En → Fl := fun ρ => toS ρ (f ρ) fun ds => .nx (ρ.set i (.ol ds))
def sDrop (f : En → R PD) : En → Fl := fun ρ => toS ρ (f ρ) fun _ => .nx ρ
def sRet (f : En → R PD) : En → Fl := fun ρ => toS ρ (f ρ) fun d => .rt d
def sIf (p : En → R Bool) (g h : En → Fl) : En → Fl := fun ρ => toS ρ (p ρ) fun b => if b = true then g ρ else h ρ
def frz (i : Nat) (ρ : En) : En := match ρ[i]? with
  | some (.ol ds) => ρ.set i (.va (.list ds))
  | _ => ρ
def sFrz (i : Nat) (g : En → Fl) : En → Fl := fun ρ => g (frz i ρ)
def sApp (i : Nat) (f : En → R PD) : En → Fl := fun ρ => match ρ[i]? with
  | some (.ol ds) => toS ρ (f ρ) fun d => if ds.length < big then .nx (ρ.set i (.ol (ds ++ [d]))) else .bad
  | _ => .bad
section
variable {X : Cx} {W : WX} {st : Stmt} {sts rest : List Stmt} {g h : En → Fl} {e : Expr} {f : En → R PD} {fl : En → R (List PD)} {p : En → R Bool} {pos : Pos} {i : Nat} {x : Str}
theorem dss_nil : DSs X W [] sNx := ⟨_, pss_nil, fun H0 O0 O ρ σ H D rl o => o O H σ rl⟩
theorem dss_one (a : DS X W st g) : DSs X W [st] g := let ⟨t, x, y⟩ := a.ex; ⟨t, pss_one x, y⟩
theorem dss_cons (a : DS X W st g) (b : DSs X W rest h) : DSs X W (st :: rest) (sSeq g h) := by
  obtain ⟨t, pt, qt⟩ := a.ex
  obtain ⟨u, pu, qu⟩ := b.ex
  refine ⟨_, pss_cons pt pu, fun H0 O0 O ρ σ H D rl o => ?_⟩
  refine qt H0 O0 O ρ σ H _ rl ?_
  unfold sSeq at o
  cases q : g ρ with
  | nx ρ' => rw [q] at o; exact fun O' H' σ' r => qu H0 O0 O' ρ' σ' H' D r o
  | rt d => rw [q] at o; exact o
  | bk ρ' => rw [q] at o; exact o
  | ct ρ' => rw [q] at o; exact o
  | ex c pl ρ' => rw [q] at o; exact o
  | bad => rw [q] at o; exact o
theorem dss_frz (i : Nat) (a : DSs X W sts g) : DSs X W sts (sFrz i g) := by
  obtain ⟨t, pt, qt⟩ := a.ex
  refine ⟨t, pt, fun H0 O0 O ρ σ H D rl o => ?_⟩
  unfold sFrz frz at o
  cases q : ρ[i]? with
  | none => rw [q] at o; exact qt H0 O0 O ρ σ H D rl o
  | some s =>
    rw [q] at o
    cases s with
    | ol ds => obtain ⟨O', r⟩ := rl.freeze q; exact qt H0 O0 O' _ σ H D r o
    | _ => exact qt H0 O0 O ρ σ H D rl o
theorem ds_pass : DS X W (.Pass pos) sNx := ⟨_, ps_pass, fun H0 O0 O ρ σ H D rl o => o O H σ rl⟩
theorem ds_break : DS X W (.Break pos) (fun ρ => .bk ρ) := ⟨_, ps_break, fun H0 O0 O ρ σ H D rl o => o O H σ rl⟩
theorem ds_continue : DS X W (.Continue pos) (fun ρ => .ct ρ) := ⟨_, ps_continue, fun H0 O0 O ρ σ H D rl o => o O H σ rl⟩
theorem ds_set {pos' : Pos} (hN : X.N.Nodup) (hi : X.N[i]? = some x) (hx : Loc X.env.scope x) (he : DE X W e f) (hs : swapsWith e (some (.Name x pos')) pos.line X.env = pure false := by rfl) (hf : X.fn x = true ∨ X.env.scope.names.lookup x = some .local := by first | exact .inl rfl | exact .inr rfl | assumption) :
    DS X W (.Assign [.Name x pos'] e pos) (sSet i f) := by
  obtain ⟨t, pt, qt⟩ := he.ex
  refine ⟨_, ps_set hN hi hx pt hs hf, fun H0 O0 O ρ σ H D rl o => ?_⟩
  exact qt H0 O0 O ρ σ H _ rl ((OutS.ofR rl o).imp fun d H1 e1 o1 v hv => o1 O H1 _ ((rl.grow e1).setV hv i))
/-- a new list of the frame's own -/
theorem ds_setL {pos' : Pos} (hN : X.N.Nodup) (hi : X.N[i]? = some x) (hx : Loc X.env.scope x) (he : DF X W e fl) (hs : swapsWith e (some (.Name x pos')) pos.line X.env = pure false := by rfl) (hf : X.fn x = true ∨ X.env.scope.names.lookup x = some .local := by first | exact .inl rfl | exact .inr rfl | assumption) :
    DS X W (.Assign [.Name x pos'] e pos) (sSetL i fl) := by
  obtain ⟨t, pt, qt⟩ := he.ex
  refine ⟨_, ps_set hN hi hx pt hs hf, fun H0 O0 O ρ σ H D rl o => ?_⟩
  refine qt H0 O0 O ρ σ H _ rl ((OutS.ofR rl o).imp fun ds H1 e1 o1 p vs H2 np hv e2 => ?_)
  subst e2
  have r1 := rl.grow e1
  refine o1 _ _ _ (r1.setO np i ⟨p, vs, rfl, .inr rfl, fun z => r1.al p (r1.sub p z) np, upd_same, hv.mono (wo_add np)⟩)
theorem ds_expr (he : DE X W e f) (hs : swapsWith e none pos.line X.env = pure false := by rfl) : DS X W (.Expr e pos) (sDrop f) := by
  obtain ⟨t, pt, qt⟩ := he.ex
  refine ⟨_, ps_expr pt hs, fun H0 O0 O ρ σ H D rl o => ?_⟩
  exact qt H0 O0 O ρ σ H _ rl ((OutS.ofR rl o).imp fun d H1 e1 o1 v hv => o1 O H1 σ (rl.grow e1))
theorem ds_ret (he : DE X W e f) : DS X W (.Return (some e) pos) (sRet f) := by
  obtain ⟨t, pt, qt⟩ := he.ex
  refine ⟨_, ps_ret pt, fun H0 O0 O ρ σ H D rl o => ?_⟩
  exact qt H0 O0 O ρ σ H _ rl ((OutS.ofR rl o).imp fun d H1 e1 o1 v hv => o1 v H1 (rl.fr.trans e1) (hv.mono (wo_sub rl.sub)))
theorem ds_retN : DS X W (.Return none pos) (fun _ => .rt .none) := ⟨_, ps_retN, fun H0 O0 O ρ σ H D rl o => o .non H rl.fr .non⟩
theorem ds_if {c : Expr} {a b : List Stmt} (hc : DB X W c p) (ha : DSs X W a g) (hb : DSs X W b h) : DS X W (.If c a b pos) (sIf p g h) := by
  obtain ⟨tc, pc, qc⟩ := hc.ex
  obtain ⟨ta, pa, qa⟩ := ha.ex
  obtain ⟨tb, pb, qb⟩ := hb.ex
  refine ⟨_, ps_if pc pa pb, fun H0 O0 O ρ σ H D rl o => ?_⟩
  refine qc H0 O0 O ρ σ H _ rl ((OutS.ofR rl o).imp fun k H1 e1 o1 => ?_)
  cases k with
  | true => rw [if_pos rfl] at o1 ⊢; exact qa H0 O0 O ρ σ H1 D (rl.grow e1) o1
  | false => rw [if_neg Bool.false_ne_true] at o1 ⊢; exact qb H0 O0 O ρ σ H1 D (rl.grow e1) o1
/-- x.append(e), x an own list -/
theorem ds_app {a : Expr} {apos cpos : Pos} (hx : PE X a (tVar i)) (he : DE X W e f) (hs : swapsWith (.Call (.Attribute a "append" apos) [e] [] cpos) none pos.line X.env = pure false := by rfl)
    (hbase : attributeBase a "append" X.env (eval a X.env) = eval a X.env := by rfl)
    (hfew : ((backTo cpos (starEach [e] X.env)).all (fun x => !x.1) && (backToKw cpos (keywordEach [] X.env)).all (fun x => x.1.isSome)
      && decide (([e] : List Expr).length + ([] : List Keyword).length + (if ([] : List Keyword).isEmpty then 0 else 1) < 30)) = true := by rfl)
    (hline : (apos.endLine == cpos.line) = true := by rfl) (hst : starEach [e] X.env = (false, eval e X.env) :: starEach [] X.env := by rfl) (hplain : (backTo cpos (starEach [] X.env)).any (·.1) = false := by rfl) :
    DS X W (.Expr (.Call (.Attribute a "append" apos) [e] [] cpos) pos) (sApp i f) := by
  obtain ⟨t, pt, qt⟩ := he.ex
  refine ⟨_, ps_expr (pe_bm PySem.F.plainAttrs_list PySem.F.slot_list_append PySem.F.type_list_append mt_append hx (pa_cons pt pa_nil hst) hbase hfew hline hst hplain) hs, fun H0 O0 O ρ σ H D rl o => ?_⟩
  unfold sApp at o
  cases q : ρ[i]? with
  | none => rw [q] at o; exact o.elim
  | some s =>
    rw [q] at o
    cases s with
    | ol ds =>
      obtain ⟨p, vs, e1, m1, m2, m3, m4⟩ := rl.sl i _ q
      refine ⟨_, e1, .inl ⟨rfl, vs, .inl (.inl m3)⟩, ?_⟩
      refine qt H0 O0 O ρ σ H _ rl ((OutS.ofR rl o).imp fun d H1 ex o1 v hv => ?_)
      by_cases hz : ds.length < big
      · rw [if_pos hz] at o1
        have m5 := m4.mono (same_wo (O := O) ex)
        refine ⟨p, vs, v, rfl, rfl, ex _ _ m3, by rw [m4.length]; exact big_line' hz, ?_⟩
        refine o1 O _ σ ((rl.grow ex).updO q rfl rfl e1 ⟨p, vs ++ [v], rfl, m1, m2, upd_same, ?_⟩)
        rw [wo_upd m1]
        exact m5.append (.one hv)
      · rw [if_neg hz] at o1; exact o1.elim
    | _ => exact o.elim

/-! ### targets -/
def OutG (K : PySem.W.Frag) (H0 : Hp) (O0 O : Addr → Prop) (H : Hp) (vs : List Nat) (σ : L2.St) (r : R En) (Q : L2.St → Hp → Prop) : Prop := match r with
  | .ok ρ' => ∀ σ', Rel K H0 O0 O H ρ' σ' → σ'.length = σ.length → (∀ j, j ∉ vs → σ'[j]? = σ[j]?) → Q σ' H
  | _ => False
structure DG (X : Cx) (tg : Expr) (vs : List Nat) (g : PD → En → R En) : Prop where
  ex : ∃ t, PG X tg t ∧ ∀ H0 O0 O ρ σ H x d Q, Rel X.K H0 O0 O H ρ σ → Dq X.K (wo H O) x d → OutG X.K H0 O0 O H vs σ (g d ρ) Q → t x σ H Q
structure DGs (X : Cx) (tgs : List Expr) (vs : List Nat) (g : List PD → En → R En) : Prop where
  ex : ∃ t, PGs X tgs t ∧ ∀ H0 O0 O ρ σ H xs ds Q, Rel X.K H0 O0 O H ρ σ → DqAll X.K (wo H O) xs ds → OutG X.K H0 O0 O H vs σ (g ds ρ) Q → t xs σ H Q
def gN (i : Nat) : PD → En → R En := fun d ρ => .ok (ρ.set i (.va d))
def gZ : List PD → En → R En := fun ds ρ => match ds with
  | [] => .ok ρ
  | _ => .bad
def gC (a : PD → En → R En) (b : List PD → En → R En) : List PD → En → R En := fun ds ρ => match ds with
  | [] => .bad
  | d :: r => match a d ρ with
    | .ok ρ' => b r ρ'
    | _ => .bad
def gT (n : Nat) (a : List PD → En → R En) : PD → En → R En := fun d ρ => match d with
  | .tuple ds => chk (ds.length == n) (a ds ρ)
  | .list ds => chk (ds.length == n) (a ds ρ)
  | _ => .bad
theorem dg_name (hN : X.N.Nodup) (hi : X.N[i]? = some x) (hx : Loc X.env.scope x) (hf : X.fn x = true ∨ X.env.scope.names.lookup x = some .local := by first | exact .inl rfl | exact .inr rfl | assumption) : DG X (.Name x pos) [i] (gN i) :=
  ⟨_, pg_name hN hi hx hf, fun H0 O0 O ρ σ H v d Q rl hd o => o _ (rl.setV hd i) (by simp) fun j hj => List.getElem?_set_ne (fun z => hj (by simp [z]))⟩
theorem dgs_nil : DGs X [] [] gZ := ⟨_, pgs_nil, fun H0 O0 O ρ σ H xs ds Q rl hd o => by
  cases hd with
  | nil => exact ⟨rfl, o σ rl rfl fun _ _ => rfl⟩
  | cons => exact o.elim⟩
theorem dgs_cons {e : Expr} {es : List Expr} {vs ws : List Nat} {a : PD → En → R En} {b : List PD → En → R En} (h1 : DG X e vs a) (h2 : DGs X es ws b)
    (hs : (assignEach (e :: es) X.env).map (·.2) = assign e X.env :: (assignEach es X.env).map (·.2) := by rfl) : DGs X (e :: es) (vs ++ ws) (gC a b) := by
  obtain ⟨t, pt, qt⟩ := h1.ex
  obtain ⟨u, pu, qu⟩ := h2.ex
  refine ⟨_, pgs_cons pt pu hs, fun H0 O0 O ρ σ H xs ds Q rl hd o => ?_⟩
  cases hd with
  | nil => exact o.elim
  | cons h1 h2 =>
    rename_i v vr d dr
    refine ⟨_, _, rfl, qt H0 O0 O ρ σ H _ _ _ rl h1 ?_⟩
    unfold gC at o
    cases q : a d ρ with
    | ok ρ' =>
      simp only [q] at o
      intro σ' rl' hl hk
      refine qu H0 O0 O ρ' σ' H _ _ _ rl' h2 ?_
      cases q2 : b dr ρ' with
      | ok ρ2 =>
        rw [q2] at o
        exact fun σ2 r2 hl2 hk2 => o σ2 r2 (hl2.trans hl) fun j hj => (hk2 j fun z => hj (List.mem_append_right _ z)).trans (hk j fun z => hj (List.mem_append_left _ z))
      | ex _ _ => rw [q2] at o; exact o.elim
      | bad => rw [q2] at o; exact o.elim
    | ex _ _ => simp only [q] at o; exact o.elim
    | bad => simp only [q] at o; exact o.elim
theorem PG.or {t u : TG} {tg : Expr} (a : PG X tg t) (b : PG X tg u) : PG X tg (fun v σ H Q => t v σ H Q ∨ u v σ H Q) :=
  ⟨fun pins s σ H v w Q I r h => h.elim (a.run pins s σ H v w Q I r) (b.run pins s σ H v w Q I r)⟩
theorem OutG.chk {K : PySem.W.Frag} {H0 : Hp} {O0 O : Addr → Prop} {H : Hp} {vs : List Nat} {σ : L2.St} {c : Bool} {r : R En} {Q : L2.St → Hp → Prop} (h : OutG K H0 O0 O H vs σ (chk c r) Q) : c = true ∧ OutG K H0 O0 O H vs σ r Q := by
  cases c with
  | true => exact ⟨rfl, h⟩
  | false => exact h.elim
theorem dg_tup {es : List Expr} {k : Nat} {n : Nat} {vs : List Nat} {a : List PD → En → R En} (hc : X.calm = true) (h : DGs X es vs a) (hn : (assignEach es X.env).length = n := by rfl) (hst : (assignEach es X.env).findIdx? (·.1) = none := by rfl) :
    DG X (.Tuple es k pos) vs (gT n a) := by
  obtain ⟨t, pt, qt⟩ := h.ex
  refine ⟨_, PG.or (pg_tup hc pt hn hst) (pg_lst hc pt hn hst), fun H0 O0 O ρ σ H x d Q rl hd o => ?_⟩
  cases hd with
  | tup h1 h2 =>
    obtain ⟨c, o⟩ := OutG.chk o
    exact .inl ⟨_, _, rfl, Same.seqT wo_self h1, by rw [h2.length]; exact eq_of_beq c, qt H0 O0 O ρ σ H _ _ _ rl h2 o⟩
  | lst h1 h2 =>
    obtain ⟨c, o⟩ := OutG.chk o
    exact .inr ⟨_, _, rfl, .inl (rd_mono wo_self h1), by rw [h2.length]; exact eq_of_beq c, qt H0 O0 O ρ σ H _ _ _ rl h2 o⟩
  | _ => exact o.elim
def sAsg (f : En → R PD) (g : PD → En → R En) : En → Fl := fun ρ => toS ρ (f ρ) fun d => match g d ρ with
  | .ok ρ' => .nx ρ'
  | _ => .bad
theorem ds_asg {tg : Expr} {vs : List Nat} {a : PD → En → R En} (he : DE X W e f) (hg : DG X tg vs a) (hs : swapsWithSole [tg] e pos.line X.env = pure false := by rfl) (hw : swappedStores [tg] e X.env = pure none := by rfl)
    (h1 : (assignEach [tg] X.env).map (·.2) = [assign tg X.env] := by rfl) : DS X W (.Assign [tg] e pos) (sAsg f a) := by
  obtain ⟨t, pt, qt⟩ := he.ex
  obtain ⟨u, pu, qu⟩ := hg.ex
  refine ⟨_, ps_asg pt pu hs hw h1, fun H0 O0 O ρ σ H D rl o => ?_⟩
  refine qt H0 O0 O ρ σ H _ rl ((OutS.ofR rl o).imp fun d H1 e1 o1 v hv => ?_)
  refine qu H0 O0 O ρ σ H1 v d _ (rl.grow e1) hv ?_
  cases q : a d ρ with
  | ok ρ' => simp only [q] at o1; exact fun σ' r _ _ => o1 O H1 σ' r
  | ex _ _ => simp only [q] at o1; exact o1.elim
  | bad => simp only [q] at o1; exact o1.elim
/-- a, b = x, y, stored from the right -/
def sPar (i j : Nat) (f g : En → R PD) : En → Fl := fun ρ => toS ρ (f ρ) fun d => toS ρ (g ρ) fun d' => .nx ((ρ.set i (.va d)).set j (.va d'))
theorem ds_par {j : Nat} {y : Str} {a b : Expr} {f g : En → R PD} {px py pt : Pos} {kt k2 pt2} (hc : X.calm = true) (hN : X.N.Nodup) (hi : X.N[i]? = some x) (hj : X.N[j]? = some y) (hij : i ≠ j)
    (hx : X.env.scope.names.lookup x = some .local) (hy : X.env.scope.names.lookup y = some .local) (ha : DE X W a f) (hb : DE X W b g)
    (hw : swappedStores [.Tuple [.Name x px, .Name y py] kt pt] (.Tuple [a, b] k2 pt2) X.env = pure (some [x, y]))
    (hs : swapsWithSole [.Tuple [.Name x px, .Name y py] kt pt] (.Tuple [a, b] k2 pt2) pos.line X.env = pure false := by rfl)
    (h1 : starEach [a, b] X.env = (false, eval a X.env) :: starEach [b] X.env := by rfl) (h2 : starEach [b] X.env = (false, eval b X.env) :: starEach [] X.env := by rfl) :
    DS X W (.Assign [.Tuple [.Name x px, .Name y py] kt pt] (.Tuple [a, b] k2 pt2) pos) (sPar i j f g) := by
  obtain ⟨t, pt, qt⟩ := ha.ex
  obtain ⟨u, pu, qu⟩ := hb.ex
  refine ⟨_, ps_par hc hN hi hj hij hx hy (pa_cons pt (pa_cons pu pa_nil h2) h1) hw hs, fun H0 O0 O ρ σ H D rl o => ?_⟩
  refine qt H0 O0 O ρ σ H _ rl ((OutS.ofR rl o).imp fun d H1 e1 o1 v hv => ?_)
  refine qu H0 O0 O ρ σ H1 _ (rl.grow e1) ((OutS.ofR (rl.grow e1) o1).imp fun d' H2 e2 o2 v' hv' => ?_)
  exact ⟨v, v', rfl, o2 O H2 _ ((((rl.grow e1).grow e2).setV (hv.mono (same_wo e2)) i).setV hv' j)⟩
end
end DL
namespace DL
open PySem PySem.Spec L2

/-! ### what a loop or a comprehension walks -/
structure Wk (K : PySem.W.Frag) (J : It) (items : List PD) (G : Hp) : Prop where
  go : ∀ i H, Same G H → i < items.length → J.go i H
  stop : ∀ i H, Same G H → items.length ≤ i → J.stop i H
  yld : ∀ i H x H', Same G H → J.yld i H x H' → Same H H' ∧ ∀ d, items[i]? = some d → ∀ O, Same G (wo H O) → (∀ p, H p = none → ¬ O p) → Dq K (wo H' O) x d
structure DI (X : Cx) (W : WX) (tg iter : Expr) (f : En → R (List PD)) : Prop where
  ex : ∃ wi, PI X tg iter wi ∧ ∀ H0 O0 O ρ σ H (Rr : It → Hp → Prop), Rel X.K H0 O0 O H ρ σ → OutP X W O σ H (f ρ) (fun items H1 => ∀ J, Wk X.K J items (wo H1 O) → Rr J H1) → wi σ H Rr
section
variable {K : PySem.W.Frag} {G : Hp} {a : Addr} {vs : List V} {ds : List PD}
theorem rd_inj {H : Hp} {u u' : HO} (h : Rd H a u) (h' : Rd H a u') (d : ∀ o, u ≠ .frz o u') (d' : ∀ o, u' ≠ .frz o u) : u = u' := by
  rcases h with h | ⟨o, h⟩ <;> rcases h' with h' | ⟨o', h'⟩ <;> rw [h] at h' <;> cases h'
  · rfl
  · exact absurd rfl (d _)
  · exact absurd rfl (d' _)
  · rfl
/-- a list's reading is one, over any heap that holds (by Inv); here for heaps that are not known to hold: by what is tracked or written -/
theorem wk_list (h1 : SqL K G a vs) (h2 : DqAll K G vs ds) : Wk K (Itl K a) ds G where
  go := fun i H e hi => ⟨vs, vs[i]'(by rw [h2.length]; exact hi), e.seq h1, List.getElem?_eq_getElem _⟩
  stop := fun i H e hi => ⟨vs, e.seq h1, by rw [h2.length]; exact hi⟩
  yld := fun i H x H' e ⟨eH, q⟩ => ⟨by rw [eH]; exact Same.refl H, fun d hd O eo nO => by
    obtain ⟨d', k1, k2⟩ := h2.getV (q vs (e.seq h1))
    rw [hd] at k1; cases k1
    rw [eH]; exact k2.mono eo⟩
theorem wk_tup (h1 : SqT K G a vs) (h2 : DqAll K G vs ds) : Wk K (Itt K a) ds G where
  go := fun i H e hi => ⟨vs, vs[i]'(by rw [h2.length]; exact hi), Same.seqT e h1, List.getElem?_eq_getElem _⟩
  stop := fun i H e hi => ⟨vs, Same.seqT e h1, by rw [h2.length]; exact hi⟩
  yld := fun i H x H' e ⟨eH, q⟩ => ⟨by rw [eH]; exact Same.refl H, fun d hd O eo nO => by
    obtain ⟨d', k1, k2⟩ := h2.getV (q vs (Same.seqT e h1))
    rw [hd] at k1; cases k1
    rw [eH]; exact k2.mono eo⟩
def rangeL (lo : Int) (n : Nat) : List PD := (List.range n).map fun (i : Nat) => .int (lo + (i : Int))
theorem rangeL_len (lo : Int) (n : Nat) : (rangeL lo n).length = n := by simp [rangeL]
theorem rangeL_get {lo : Int} {n i : Nat} {d : PD} (h : (rangeL lo n)[i]? = some d) : d = .int (lo + (i : Int)) := by
  unfold rangeL at h
  rw [List.getElem?_map] at h
  by_cases hi : i < n
  · rw [List.getElem?_range hi] at h; cases h; rfl
  · rw [List.getElem?_eq_none (by simpa using hi)] at h; cases h
theorem wk_range (lo : Int) (n : Nat) : Wk K (Itr lo n) (rangeL lo n) G where
  go := fun i H e hi => by rw [rangeL_len] at hi; exact hi
  stop := fun i H e hi => by rw [rangeL_len] at hi; exact hi
  yld := fun i H x H' e ⟨eH, q⟩ => ⟨by rw [eH]; exact Same.refl H, fun d hd O eo nO => by
    rw [rangeL_get hd, q]; exact .int _⟩
end
theorem PI.or {X : Cx} {tg iter : Expr} {w u : TI} (a : PI X tg iter w) (b : PI X tg iter u) : PI X tg iter (fun σ H R => w σ H R ∨ u σ H R) :=
  ⟨fun pins s σ H R I h => h.elim (a.run pins s σ H R I) (b.run pins s σ H R I)⟩
/-- lists and tuples (others: texts) -/
def itD : PD → R (List PD)
  | .list ds => .ok ds
  | .tuple ds => .ok ds
  | _ => .bad
def iSeq (f : En → R PD) : En → R (List PD) := fun ρ => (f ρ).bind itD
def rg1 (d : PD) : R (List PD) := match d with
  | .int n => chk (decide (-1000000000000000 ≤ n ∧ n ≤ 1000000000000000)) (.ok (rangeL 0 n.toNat))
  | _ => .bad
def iR1 (f : En → R PD) : En → R (List PD) := fun ρ => (f ρ).bind rg1
def rg2 (d e : PD) : R (List PD) := match d, e with
  | .int m, .int n => chk (decide (-1000000000000000 ≤ m ∧ m ≤ 1000000000000000 ∧ -1000000000000000 ≤ n ∧ n ≤ 1000000000000000)) (.ok (rangeL m (n - m).toNat))
  | _, _ => .bad
def iR2 (f g : En → R PD) : En → R (List PD) := fun ρ => (f ρ).bind fun d => (g ρ).bind fun e => rg2 d e
section
variable {X : Cx} {W : WX} {tg iter a b : Expr} {f g : En → R PD} {pos p : Pos}
theorem PI.ofPre {w w' : TI} (h : PI X tg iter w) (e : ∀ σ H R, w' σ H R → w σ H R) : PI X tg iter w' := ⟨fun pins s σ H R I q => h.run pins s σ H R I (e σ H R q)⟩
theorem di_seq (h : DE X W iter f) : DI X W tg iter (iSeq f) := by
  obtain ⟨t, pt, qt⟩ := h.ex
  refine ⟨_, PI.or (pi_list pt) (pi_tup pt), fun H0 O0 O ρ σ H Rr rl o => ?_⟩
  unfold iSeq at o
  cases q : f ρ with
  | ok d =>
    rw [q] at o
    cases d with
    | list ds =>
      refine .inl (qt H0 O0 O ρ σ H _ rl ?_)
      rw [q]
      intro H1 e1 v hv
      cases hv with
      | lst h1 h2 => exact ⟨_, rfl, ⟨_, .inl (rd_mono wo_self h1)⟩, o H1 e1 _ (wk_list (.inl h1) h2)⟩
    | tuple ds =>
      refine .inr (qt H0 O0 O ρ σ H _ rl ?_)
      rw [q]
      intro H1 e1 v hv
      cases hv with
      | tup h1 h2 => exact ⟨_, rfl, ⟨_, Same.seqT wo_self h1⟩, o H1 e1 _ (wk_tup h1 h2)⟩
    | _ => exact o.elim
  | ex c pl =>
    rw [q] at o
    refine .inl (qt H0 O0 O ρ σ H _ rl ?_)
    rw [q]; exact o
  | bad => rw [q] at o; exact o.elim
theorem di_r1 (hg : Gl X "range") (hm : X.mg "range" = none) (ha : DE X W a f) (hs : starEach [a] X.env = (false, eval a X.env) :: starEach [] X.env := by rfl) (hs2 : starEach [a] X.env = [(false, eval a X.env)] := by rfl) : DI X W tg (.Call (.Name "range" p) [a] [] pos) (iR1 f) := by
  obtain ⟨t, pt, qt⟩ := ha.ex
  refine ⟨_, pi_range1 hg hm (pa_cons pt pa_nil hs) hs2, fun H0 O0 O ρ σ H Rr rl o => ?_⟩
  refine qt H0 O0 O ρ σ H _ rl (o.bind.imp fun d H1 e1 o1 v hv => ?_)
  cases d with
  | int n =>
    cases hv.sc_int
    obtain ⟨c, o1⟩ := OutP.chk o1
    have c' := of_decide_eq_true c
    exact ⟨n, rfl, by omega, by omega, o1 H1 (Same.refl H1) _ (wk_range 0 _)⟩
  | _ => exact o1.elim
theorem di_r2 (hg : Gl X "range") (hm : X.mg "range" = none) (ha : DE X W a f) (hb : DE X W b g) (hs : starEach [a, b] X.env = [(false, eval a X.env), (false, eval b X.env)] := by rfl) (hs2 : starEach [b] X.env = [(false, eval b X.env)] := by rfl)
    (h1 : starEach [a, b] X.env = (false, eval a X.env) :: starEach [b] X.env := by rfl) (h2 : starEach [b] X.env = (false, eval b X.env) :: starEach [] X.env := by rfl) : DI X W tg (.Call (.Name "range" p) [a, b] [] pos) (iR2 f g) := by
  obtain ⟨t, pt, qt⟩ := ha.ex
  obtain ⟨u, pu, qu⟩ := hb.ex
  refine ⟨_, pi_range2 hg hm (pa_cons pt (pa_cons pu pa_nil h2) h1) hs hs2, fun H0 O0 O ρ σ H Rr rl o => ?_⟩
  refine qt H0 O0 O ρ σ H _ rl (o.bind.imp fun d H1 e1 o1 v hv => ?_)
  refine qu H0 O0 O ρ σ H1 _ (rl.grow e1) (o1.bind.imp fun d' H2 e2 o2 v' hv' => ?_)
  cases d with
  | int m =>
    cases hv.sc_int
    cases d' with
    | int n =>
      cases hv'.sc_int
      obtain ⟨c, o2⟩ := OutP.chk o2
      have c' := of_decide_eq_true c
      exact ⟨m, n, rfl, by omega, o2 H2 (Same.refl H2) _ (wk_range m _)⟩
    | _ => exact o2.elim
  | _ => cases d' <;> exact o2.elim
end

/-! ### for -/
def forL (tgt : PD → En → R En) (body : En → Fl) : List PD → En → Fl
  | [], ρ => .nx ρ
  | x :: xs, ρ => match tgt x ρ with
    | .ok ρ1 => match body ρ1 with
      | .nx ρ2 => forL tgt body xs ρ2
      | .ct ρ2 => forL tgt body xs ρ2
      | .bk ρ2 => .nx ρ2
      | .rt d => .rt d
      | .ex c pl ρ2 => .ex c pl ρ2
      | .bad => .bad
    | _ => .bad
def sFor (src : En → R (List PD)) (tgt : PD → En → R En) (body : En → Fl) : En → Fl := fun ρ => toS ρ (src ρ) fun items => forL tgt body items ρ
section
variable {X : Cx} {W : WX} {tg iter c : Expr} {body : List Stmt} {src : En → R (List PD)} {tgt : PD → En → R En} {g : En → Fl} {p : En → R Bool} {pos : Pos} {vs : List Nat}
theorem OutS.back {K : PySem.W.Frag} {mg : Str → Option Value} {H0 Hb : Hp} {O0 : Addr → Prop} {D : Ends} {o : Fl} (e : Same H0 Hb) (h : OutS K mg W H0 O0 D o) : OutS K mg W Hb O0 D o := by
  cases o with
  | nx ρ => exact fun O H σ r => h O H σ (r.back e)
  | rt d => exact fun v H r => h v H (e.trans r)
  | bk ρ => exact fun O H σ r => h O H σ (r.back e)
  | ct ρ => exact fun O H σ r => h O H σ (r.back e)
  | ex c pl ρ => exact fun O H σ cls dx r => h O H σ cls dx (r.back e)
  | bad => exact h
theorem drop_cons {α : Type} {l : List α} {i : Nat} (h : i < l.length) : l.drop i = l[i] :: l.drop (i + 1) := List.drop_eq_getElem_cons h
theorem ds_for (hp : PassesOwn (model X.prog X.w) X.A X.env X.xe) (hc : X.calm = true) (hi : DI X W tg iter src) (hg : DG X tg vs tgt) (hb : DSs X W body g)
    (hs : ∀ x, foldedSetIterable iter X.env x = pure x := by intro _; rfl) : DS X W (.For tg iter body [] pos) (sFor src tgt g) := by
  obtain ⟨wi, pw, qw⟩ := hi.ex
  obtain ⟨tG, pg, qg⟩ := hg.ex
  obtain ⟨tb, pb, qb⟩ := hb.ex
  refine ⟨_, ps_for hp hc pw pg pb hs, fun H0 O0 O ρ σ H D rl o => ?_⟩
  refine qw H0 O0 O ρ σ H _ rl ((OutS.ofR rl o).imp fun items H1 e1 o1 J wk => ?_)
  have r1 := rl.grow e1
  have rb := r1.rebase
  refine ⟨fun i m σ' H' => m = items.length - i ∧ i ≤ items.length ∧ ∃ O' ρ', Rel X.K (baseOf H1 O0 O) O0 O' H' ρ' σ' ∧ OutS X.K X.mg W H0 O0 D (forL tgt g (items.drop i) ρ'), ⟨items.length, by simp, Nat.zero_le _, O, ρ, rb, by simpa using o1⟩, ?_⟩
  rintro i m σ' H' ⟨rfl, hi, O', ρ', r', o'⟩
  have kG : Same (wo H1 O) (wo H' O') := r1.keep r'
  have kH : Same (wo H1 O) H' := kG.trans wo_self
  by_cases hlt : i < items.length
  · refine .inr ⟨wk.go i H' kH hlt, fun σ2 H2 => ∃ O2 ρ2, Rel X.K (baseOf H1 O0 O) O0 O2 H2 ρ2 σ2 ∧ OutS X.K X.mg W H0 O0 D (forL tgt g (items.drop (i + 1)) ρ2), fun σ2 H2 ⟨O2, ρ2, a, b⟩ => ⟨items.length - (i + 1), by omega, rfl, hlt, O2, ρ2, a, b⟩, fun x H3 y => ?_⟩
    obtain ⟨y1, y2⟩ := wk.yld i H' x H3 kH y
    have y3 := y2 _ (List.getElem?_eq_getElem hlt) O' kG (fun p n => r'.fresh n)
    refine qg _ O0 O' ρ' σ' H3 x _ _ (r'.grow y1) y3 ?_
    rw [drop_cons hlt] at o'
    unfold forL at o'
    cases q : tgt items[i] ρ' with
    | ok ρ1 =>
      simp only [q] at o'
      intro σ1 rr _ _
      refine qb _ O0 O' ρ1 σ1 H3 _ rr ?_
      cases q2 : g ρ1 with
      | nx ρ2 => simp only [q2] at o'; exact fun O2 H4 σ2 r4 => ⟨O2, ρ2, r4, o'⟩
      | ct ρ2 => simp only [q2] at o'; exact fun O2 H4 σ2 r4 => ⟨O2, ρ2, r4, o'⟩
      | bk ρ2 => simp only [q2] at o'; exact OutS.back r1.same_base (o := .nx ρ2) o'
      | rt d => simp only [q2] at o'; exact OutS.back r1.same_base (o := .rt d) o'
      | ex c pl ρ2 => simp only [q2] at o'; exact OutS.back r1.same_base (o := .ex c pl ρ2) o'
      | bad => simp only [q2] at o'; exact o'.elim
    | ex _ _ => simp only [q] at o'; exact o'.elim
    | bad => simp only [q] at o'; exact o'.elim
  · refine .inl ⟨wk.stop i H' kH (by omega), ?_⟩
    rw [List.drop_of_length_le (by omega)] at o'
    exact o' O' H' σ' (r'.back r1.same_base)

/-! ### while -/
def whL (p : En → R Bool) (g : En → Fl) : Nat → En → Fl
  | 0, _ => .bad
  | n + 1, ρ => toS ρ (p ρ) fun b => if b = true then (match g ρ with
      | .nx ρ2 => whL p g n ρ2
      | .ct ρ2 => whL p g n ρ2
      | .bk ρ2 => .nx ρ2
      | .rt d => .rt d
      | .ex c pl ρ2 => .ex c pl ρ2
      | .bad => .bad) else .nx ρ
theorem ds_while (n : Nat) (hp : PassesOwn (model X.prog X.w) X.A X.env X.xe) (hc : DB X W c p) (hb : DSs X W body g) : DS X W (.While c body [] pos) (whL p g n) := by
  obtain ⟨tc, pc, qc⟩ := hc.ex
  obtain ⟨tb, pb, qb⟩ := hb.ex
  refine ⟨_, ps_while hp pc pb, fun H0 O0 O ρ σ H D rl o => ?_⟩
  refine ⟨fun m σ' H' => ∃ O' ρ', Rel X.K H0 O0 O' H' ρ' σ' ∧ OutS X.K X.mg W H0 O0 D (whL p g m ρ'), ⟨n, O, ρ, rl, o⟩, ?_⟩
  rintro m σ' H' ⟨O', ρ', r', o'⟩
  cases m with
  | zero => exact o'.elim
  | succ m =>
    unfold whL at o'
    refine qc H0 O0 O' ρ' σ' H' _ r' ((OutS.ofR r' o').imp fun b H1 e1 o1 => ?_)
    cases b with
    | true =>
      rw [if_pos rfl] at o1 ⊢
      refine ⟨fun σ2 H2 => ∃ O2 ρ2, Rel X.K H0 O0 O2 H2 ρ2 σ2 ∧ OutS X.K X.mg W H0 O0 D (whL p g m ρ2), fun σ2 H2 h => ⟨m, Nat.lt_succ_self m, h⟩, ?_⟩
      refine qb H0 O0 O' ρ' σ' H1 _ (r'.grow e1) ?_
      cases q2 : g ρ' with
      | nx ρ2 => simp only [q2] at o1; exact fun O2 H4 σ2 r4 => ⟨O2, ρ2, r4, o1⟩
      | ct ρ2 => simp only [q2] at o1; exact fun O2 H4 σ2 r4 => ⟨O2, ρ2, r4, o1⟩
      | bk ρ2 => simp only [q2] at o1; exact o1
      | rt d => simp only [q2] at o1; exact o1
      | ex c pl ρ2 => simp only [q2] at o1; exact o1
      | bad => simp only [q2] at o1; exact o1.elim
    | false =>
      rw [if_neg Bool.false_ne_true] at o1 ⊢
      exact o1 O' H1 σ' (r'.grow e1)
end

/-! ### comprehensions -/
abbrev W0 : WX := fun _ _ _ _ => False
theorem takesW0 {X : Cx} : Takes X W0 := fun _ _ x => by
  obtain ⟨_, _, _, _, _, _, _, _, _, _, _, _, _, _, _, _, z⟩ := x
  exact z.elim
structure DT (X : Cx) (ifs : List Expr) (f : En → R Bool) : Prop where
  ex : ∃ t, PTs X ifs t ∧ ∀ H0 O0 O ρ σ H Q, Rel X.K H0 O0 O H ρ σ → OutP X W0 O σ H (f ρ) Q → t σ H Q
def bYes : En → R Bool := fun _ => .ok true
theorem dt_nil {X : Cx} : DT X [] bYes := ⟨_, pts_nil, fun H0 O0 O ρ σ H Q rl o => o H (Same.refl H)⟩
theorem dt_one {X : Cx} {c : Expr} {p : En → R Bool} (h : DB X W0 c p) : DT X [c] p := let ⟨t, x, y⟩ := h.ex; ⟨t, pts_one x, y⟩
def wipeE (ρ : En) : List Nat → En
  | [] => ρ
  | v :: vs => (wipeE ρ vs).set v .un
def compL (tgt : PD → En → R En) (p : En → R Bool) (f : En → R PD) (ρ : En) : List PD → R (List PD)
  | [] => .ok []
  | x :: xs => (tgt x ρ).nx.bind fun ρ1 => (p ρ1).nx.bind fun b => if b = true then (f ρ1).nx.bind fun d => (compL tgt p f ρ xs).bind fun r => .ok (d :: r) else compL tgt p f ρ xs
def cLc (own : List Nat) (src : En → R (List PD)) (tgt : PD → En → R En) (p : En → R Bool) (f : En → R PD) : En → R (List PD) := fun ρ => (src ρ).bind fun items => chk (decide (items.length ≤ big)) (compL tgt p f (wipeE ρ own) items)
section
variable {K : PySem.W.Frag} {H0 H : Hp} {O0 O : Addr → Prop} {ρ : En} {σ : L2.St}
theorem Rel.un (h : Rel K H0 O0 O H ρ σ) (i : Nat) : Rel K H0 O0 O H (ρ.set i .un) (σ.set i none) := by
  refine ⟨h.fr, h.sub, h.nw, h.al, by simp [h.len], fun j s q => ?_, fun j l s s' p hjl q q' ns ns' e e' => ?_⟩
  · rcases get_set q with ⟨rfl, rfl, hi⟩ | ⟨hj, q⟩
    · trivial
    · rw [List.getElem?_set_ne (Ne.symm hj)]; exact h.sl j s q
  · rcases get_set q with ⟨rfl, rfl, hi⟩ | ⟨hj, k1⟩
    · cases ns
    · rcases get_set q' with ⟨rfl, rfl, hi⟩ | ⟨hl, k2⟩
      · cases ns'
      · rw [List.getElem?_set_ne (Ne.symm hj)] at e
        rw [List.getElem?_set_ne (Ne.symm hl)] at e'
        exact h.dj j l s s' p hjl k1 k2 ns ns' e e'
theorem Rel.wipe (h : Rel K H0 O0 O H ρ σ) : ∀ vs : List Nat, Rel K H0 O0 O H (wipeE ρ vs) (L2.wipe σ vs)
  | [] => h
  | v :: vs => (h.wipe vs).un v
theorem wipe_get (σ : L2.St) (j : Nat) : ∀ vs : List Nat, (L2.wipe σ vs)[j]? = if j ∈ vs then (if j < σ.length then some none else none) else σ[j]?
  | [] => by simp [L2.wipe]
  | v :: vs => by
    unfold L2.wipe
    by_cases e : v = j
    · subst e
      by_cases hv : v < σ.length
      · rw [List.getElem?_set_self (by rw [wipe_length]; exact hv)]; simp [hv]
      · rw [List.getElem?_eq_none (by rw [List.length_set, wipe_length]; omega)]; simp [hv]
    · rw [List.getElem?_set_ne e, wipe_get σ j vs]
      have : (j ∈ v :: vs) = (j ∈ vs) := by simp [Ne.symm e]
      simp only [this]
theorem wipe_ext {σ σ' : L2.St} {vs own : List Nat} (hl : σ'.length = σ.length) (h : ∀ j, j ∉ vs → σ'[j]? = σ[j]?) (hs : ∀ j ∈ vs, j ∈ own) : L2.wipe σ' own = L2.wipe σ own := by
  apply List.ext_getElem?
  intro j
  rw [wipe_get, wipe_get, hl]
  by_cases hj : j ∈ own
  · rw [if_pos hj, if_pos hj]
  · rw [if_neg hj, if_neg hj]; exact h j fun z => hj (hs j z)
theorem wipe_wipe (σ : L2.St) (vs : List Nat) : L2.wipe (L2.wipe σ vs) vs = L2.wipe σ vs := by
  apply List.ext_getElem?
  intro j
  rw [wipe_get, wipe_get, wipe_length]
  by_cases hj : j ∈ vs
  · rw [if_pos hj, if_pos hj]
  · rw [if_neg hj, if_neg hj]
/-- one more own thing, of no slot -/
theorem Rel.extra {p : Addr} {o : HO} (h : Rel K H0 O0 O H ρ σ) (n : H p = none) : Rel K H0 O0 (fun q => O q ∨ q = p) (upd H p o) ρ σ := by
  refine ⟨h.fr.trans (Same.updNew n), fun q z => .inl (h.sub q z), fun q z => ?_, fun q z => ?_, h.len, fun j s q => ?_, h.dj⟩
  · rcases z with z | rfl
    · exact h.nw q z
    · exact .inr (h.fr.free n)
  · by_cases hq : q = p
    · subst hq; rw [upd_same]; exact fun y => nomatch y
    · rw [upd_ne hq]; exact h.al q (z.resolve_right hq)
  · refine (h.sl j s q).move (wo_add n) fun r hr hO hn => .inl ⟨.inl hO, ?_⟩
    rw [upd_ne (fun z => hn (by rw [z]; exact n))]
/-- .. it is changed -/
theorem Rel.updX {p : Addr} {o : HO} (h : Rel K H0 O0 O H ρ σ) (m : O p) (n0 : ¬ O0 p) (hd : ∀ (i : Nat) (s : Sl), ρ[i]? = some s → Sl.own s = true → σ[i]? ≠ some (some (V.ref p))) : Rel K H0 O0 O (upd H p o) ρ σ := by
  have h0 : H0 p = none := by
    rcases h.nw p m with z | z
    · exact absurd z n0
    · exact z
  refine ⟨fun b u e => ?_, h.sub, h.nw, fun q z => ?_, h.len, fun j t q => ?_, h.dj⟩
  · rw [upd_ne (ne_of_none e h0)]; exact h.fr b u e
  · by_cases hq : q = p
    · subst hq; rw [upd_same]; exact fun y => nomatch y
    · rw [upd_ne hq]; exact h.al q z
  · refine (h.sl j t q).move (by rw [wo_upd m]; exact Same.refl _) fun r hr hO hn => ?_
    by_cases hown : Sl.own t = true
    · refine .inl ⟨hO, ?_⟩
      rw [upd_ne (fun z => hd j t q hown (by rw [hr, z]))]
    · exact .inr (by simpa using hown)
end
end DL
namespace DL
open PySem PySem.Spec L2

/-! ### canonical readings -/
def eCan (X : Cx) (W : WX) (f : En → R PD) : TE := fun σ H Q => ∃ H0 O0 O ρ, Rel X.K H0 O0 O H ρ σ ∧ OutP X W O σ H (f ρ) (fun d H' => ∀ v, Dq X.K (wo H' O) v d → Q v H')
def bCan (X : Cx) (W : WX) (f : En → R Bool) : TT := fun σ H Q => ∃ H0 O0 O ρ, Rel X.K H0 O0 O H ρ σ ∧ OutP X W O σ H (f ρ) Q
def gCan (K : PySem.W.Frag) (vs : List Nat) (g : PD → En → R En) : TG := fun x σ H Q => ∃ H0 O0 O ρ d, Rel K H0 O0 O H ρ σ ∧ Dq K (wo H O) x d ∧ OutG K H0 O0 O H vs σ (g d ρ) Q
def iCan (X : Cx) (W : WX) (f : En → R (List PD)) : TI := fun σ H Rr => ∃ H0 O0 O ρ, Rel X.K H0 O0 O H ρ σ ∧ OutP X W O σ H (f ρ) (fun items H1 => ∀ J, Wk X.K J items (wo H1 O) → Rr J H1)
def sCan (K : PySem.W.Frag) (mg : Str → Option Value) (W : WX) (g : En → Fl) : TS := fun D σ H => ∃ H0 O0 O ρ, Rel K H0 O0 O H ρ σ ∧ OutS K mg W H0 O0 D (g ρ)
section
variable {X : Cx} {W : WX} {e tg iter : Expr} {f : En → R PD} {p : En → R Bool} {src : En → R (List PD)} {g : En → Fl} {tgt : PD → En → R En} {vs : List Nat} {ifs : List Expr} {sts : List Stmt}
theorem DE.can (h : DE X W e f) : PE X e (eCan X W f) := let ⟨_, a, b⟩ := h.ex; ⟨fun pins s σ H Q I ⟨H0, O0, O, ρ, r, o⟩ => a.run pins s σ H Q I (b H0 O0 O ρ σ H Q r o)⟩
theorem DT.can (h : DT X ifs p) : PTs X ifs (bCan X W0 p) := let ⟨_, a, b⟩ := h.ex; ⟨fun pins s σ H Q I ⟨H0, O0, O, ρ, r, o⟩ => a.run pins s σ H Q I (b H0 O0 O ρ σ H Q r o)⟩
theorem DG.can (h : DG X tg vs tgt) : PG X tg (gCan X.K vs tgt) := let ⟨_, a, b⟩ := h.ex; ⟨fun pins s σ H v u Q I rv ⟨H0, O0, O, ρ, d, r, hd, o⟩ => a.run pins s σ H v u Q I rv (b H0 O0 O ρ σ H v d Q r hd o)⟩
theorem DI.can (h : DI X W tg iter src) : PI X tg iter (iCan X W src) := let ⟨_, a, b⟩ := h.ex; ⟨fun pins s σ H Rr I ⟨H0, O0, O, ρ, r, o⟩ => a.run pins s σ H Rr I (b H0 O0 O ρ σ H Rr r o)⟩
theorem DSs.can (h : DSs X W sts g) : PSs X sts (sCan X.K X.mg W g) := let ⟨_, a, b⟩ := h.ex; ⟨fun pins s σ H D I ⟨H0, O0, O, ρ, r, o⟩ => a.run pins s σ H D I (b H0 O0 O ρ σ H D r o)⟩
end

/-! ### the list comprehension of one clause -/
theorem nx_ok {α : Type} {r : R α} {a : α} (h : r.nx = .ok a) : r = .ok a := by cases r <;> simp_all
theorem nx_bind_ok {α β : Type} {r : R α} {f : α → R β} {b : β} (h : r.nx.bind f = .ok b) : ∃ a, r = .ok a ∧ f a = .ok b := by
  cases r with
  | ok a => exact ⟨a, rfl, h⟩
  | ex _ _ => cases h
  | bad => cases h
theorem bind_ok {α β : Type} {r : R α} {f : α → R β} {b : β} (h : r.bind f = .ok b) : ∃ a, r = .ok a ∧ f a = .ok b := by
  cases r with
  | ok a => exact ⟨a, rfl, h⟩
  | ex _ _ => cases h
  | bad => cases h
theorem compL_noex {tgt : PD → En → R En} {p : En → R Bool} {f : En → R PD} {ρ : En} : ∀ (xs : List PD) (c pl), compL tgt p f ρ xs ≠ .ex c pl := by
  intro xs
  induction xs with
  | nil => intro c pl h; cases h
  | cons x xs ih =>
    intro c pl h
    unfold compL at h
    cases h1 : tgt x ρ with
    | ex _ _ => rw [h1] at h; cases h
    | bad => rw [h1] at h; cases h
    | ok ρ1 =>
      rw [h1] at h
      simp only [R.ok_nx, R.ok_bind] at h
      cases h2 : p ρ1 with
      | ex _ _ => rw [h2] at h; cases h
      | bad => rw [h2] at h; cases h
      | ok b =>
        rw [h2] at h
        simp only [R.ok_nx, R.ok_bind] at h
        cases b with
        | false => rw [if_neg Bool.false_ne_true] at h; exact ih c pl h
        | true =>
          rw [if_pos rfl] at h
          cases h3 : f ρ1 with
          | ex _ _ => rw [h3] at h; cases h
          | bad => rw [h3] at h; cases h
          | ok d =>
            rw [h3] at h
            simp only [R.ok_nx, R.ok_bind] at h
            cases h4 : compL tgt p f ρ xs with
            | ex c' pl' => exact ih c' pl' h4
            | bad => rw [h4] at h; cases h
            | ok r => rw [h4] at h; cases h
/-- the heap without one address -/
noncomputable def without (H : Hp) (D : Addr) : Hp := wo H fun q => q = D
theorem upd_without {H : Hp} {D : Addr} {o : HO} (h : H D = some o) : H = upd (without H D) D o := by
  funext b
  by_cases e : b = D
  · subst e; rw [upd_same]; exact h
  · rw [upd_ne e]; unfold without wo; rw [if_neg e]
theorem wo_without {H : Hp} {D : Addr} {O : Addr → Prop} : wo (without H D) O = wo H fun q => O q ∨ q = D := by
  funext b
  unfold without wo
  by_cases e : O b
  · rw [if_pos e, if_pos (.inl e)]
  · by_cases e2 : b = D
    · rw [if_neg e, if_pos e2, if_pos (.inr e2)]
    · rw [if_neg e, if_neg e2, if_neg (fun z => z.elim e e2)]
section
variable {X : Cx} {W : WX} {elt tg iter : Expr} {ifs : List Expr} {scope : Scope} {own : List (Str × Nat)} {pos spos py : Pos} {src : En → R (List PD)} {tgt : PD → En → R En} {p : En → R Bool} {f : En → R PD} {vs : List Nat} {i : Nat} {y : Str}
/-- the reading, from what the parts do -/
theorem lc_read (hvs : ∀ j ∈ vs, j ∈ own.map (·.2)) {H0 : Hp} {O0 O : Addr → Prop} {ρ : En} {σ : L2.St} {H : Hp} {Q : VK} (rl : Rel X.K H0 O0 O H ρ σ)
    (o : OutP X W O σ H (cLc (own.map (·.2)) src tgt p f ρ) (fun ds H1 => ∀ p vs H2, H1 p = none → DqAll X.K (wo H1 O) vs ds → H2 = upd H1 p (.lst vs) → Q (.ref p) H2)) :
    tLc (iCan X W src) (gCan X.K vs tgt) (bCan X W0 p) (eCan X W0 f) (own.map (·.2)) σ H Q := by
  refine ⟨H0, O0, O, ρ, rl, o.bind.imp fun items H1 e1 o1 J wk => ?_⟩
  obtain ⟨c, o1⟩ := OutP.chk o1
  have hbig : items.length ≤ big := of_decide_eq_true c
  have r1 := rl.grow e1
  intro D nD
  cases hc : compL tgt p f (wipeE ρ (own.map (·.2))) items with
  | ex c' pl => exact absurd hc (compL_noex _ _ _)
  | bad => rw [hc] at o1; exact o1.elim
  | ok ds =>
    rw [hc] at o1
    have rb := (r1.rebase.wipe (own.map (·.2))).extra (o := .lst []) nD
    have nO0 : ¬ O0 D := fun z => r1.al D (r1.sub D z) nD
    have noD : ∀ (j : Nat) (s : Sl), (wipeE ρ (own.map (·.2)))[j]? = some s → Sl.own s = true → (L2.wipe σ (own.map (·.2)))[j]? ≠ some (some (V.ref D)) := fun j s a b z => by
      obtain ⟨q, q1, _, _, q2⟩ := ((r1.rebase.wipe (own.map (·.2))).sl j s a).own_at b
      rw [z] at q1; cases q1
      exact q2 nD
    refine ⟨fun i m H' => m = items.length - i ∧ i ≤ items.length ∧ ∃ acc dacc rest, compL tgt p f (wipeE ρ (own.map (·.2))) (items.drop i) = .ok rest ∧ ds = dacc ++ rest ∧ dacc.length ≤ i ∧ Same H1 H' ∧ H' D = some (.lst acc) ∧
      DqAll X.K (wo H' fun q => O q ∨ q = D) acc dacc ∧ Rel X.K (baseOf H1 O0 O) O0 (fun q => O q ∨ q = D) H' (wipeE ρ (own.map (·.2))) (L2.wipe σ (own.map (·.2))),
      ⟨items.length, by simp, Nat.zero_le _, [], [], ds, by simpa using hc, rfl, Nat.le_refl _, Same.updNew nD, upd_same, .nil, rb⟩, ?_⟩
    rintro i m H' ⟨rfl, hi, acc, dacc, rest, hrest, eds, hdl, kk, hD, hacc, r'⟩
    have kG : Same (wo H1 O) (wo H' fun q => O q ∨ q = D) := by
      have := r'.frz
      rwa [wo_base r1.sub] at this
    have kH : Same (wo H1 O) H' := kG.trans wo_self
    by_cases hlt : i < items.length
    · refine .inr ⟨wk.go i H' kH hlt, fun H2 => i + 1 ≤ items.length ∧ ∃ acc dacc rest, compL tgt p f (wipeE ρ (own.map (·.2))) (items.drop (i + 1)) = .ok rest ∧ ds = dacc ++ rest ∧ dacc.length ≤ i + 1 ∧ Same H1 H2 ∧ H2 D = some (.lst acc) ∧
        DqAll X.K (wo H2 fun q => O q ∨ q = D) acc dacc ∧ Rel X.K (baseOf H1 O0 O) O0 (fun q => O q ∨ q = D) H2 (wipeE ρ (own.map (·.2))) (L2.wipe σ (own.map (·.2))),
        fun H2 q => ⟨items.length - (i + 1), by omega, rfl, q⟩, fun x H3 y => ?_⟩
      obtain ⟨y1, y2⟩ := wk.yld i H' x H3 kH y
      have y3 := y2 _ (List.getElem?_eq_getElem hlt) _ kG (fun p n => r'.fresh n)
      rw [drop_cons hlt] at hrest
      unfold compL at hrest
      obtain ⟨ρ1, t1, hrest⟩ := nx_bind_ok hrest
      obtain ⟨b, t2, hrest⟩ := nx_bind_ok hrest
      refine ⟨_, O0, _, _, _, r'.grow y1, y3, ?_⟩
      rw [t1]
      intro σ1 rr hl hk
      refine ⟨(wipe_ext (σ := L2.wipe σ (own.map (·.2))) hl hk hvs).trans (wipe_wipe _ _), _, O0, _, _, rr, ?_⟩
      rw [t2]
      intro H4 e4
      cases b with
      | false =>
        rw [if_neg Bool.false_ne_true] at hrest ⊢
        have e34 := y1.trans e4
        exact ⟨hlt, acc, dacc, rest, hrest, eds, Nat.le_succ_of_le hdl, kk.trans e34, e34 _ _ hD, hacc.mono (same_wo e34), r'.grow e34⟩
      | true =>
        rw [if_pos rfl] at hrest ⊢
        obtain ⟨d, t3, hrest⟩ := nx_bind_ok hrest
        obtain ⟨rest', t4, hrest⟩ := bind_ok hrest
        cases hrest
        refine ⟨_, O0, _, _, rr.grow e4, ?_⟩
        rw [t3]
        intro H5 e5 v hv
        have e35 := (y1.trans e4).trans e5
        refine ⟨acc, e35 _ _ hD, ?_, hlt, acc ++ [v], dacc ++ [d], rest', t4, by rw [eds, List.append_assoc]; rfl, by rw [List.length_append]; simpa using hdl, fun b u e => by rw [upd_ne (ne_of_none e nD)]; exact (kk.trans e35) b u e, upd_same, ?_, (r'.grow e35).updX (.inr rfl) nO0 noD⟩
        · rw [hacc.length]; exact big_line' (Nat.lt_of_le_of_lt hdl (Nat.lt_of_lt_of_le hlt hbig))
        · rw [wo_upd (.inr rfl)]
          exact (hacc.mono (same_wo e35)).append (.one hv)
    · refine .inl ⟨wk.stop i H' kH (by omega), ?_⟩
      rw [List.drop_of_length_le (by omega)] at hrest
      cases hrest
      rw [List.append_nil] at eds
      subst eds
      have sm : Same H1 (without H' D) := fun b u e => wo_some (ne_of_none e nD) (kk b u e)
      exact o1 (without H' D) sm D acc H' (wo_in rfl) (by rw [wo_without]; exact hacc) (upd_without hD)

theorem df_lc (hc : X.calm = true) (hN : X.N.Nodup) (hi : DI X W tg iter src) (ok : BlkOk X.N X.env.scope scope own) (hvs : ∀ j ∈ vs, j ∈ own.map (·.2))
    (hg : ∀ (s : Shared) (H : Hp) (C : Addr) (cl : List (Str × Addr)) (fp : List Addr), DG (X.blk s H scope (compEnvC scope cl C X.env) fp) tg vs tgt) (ht : ∀ (s : Shared) (H : Hp) (C : Addr) (cl : List (Str × Addr)) (fp : List Addr), DT (X.blk s H scope (compEnvC scope cl C X.env) fp) ifs p)
    (he : ∀ (s : Shared) (H : Hp) (C : Addr) (cl : List (Str × Addr)) (fp : List Addr), DE (X.blk s H scope (compEnvC scope cl C X.env) fp) W0 elt f) (hs : ∀ x, foldedSetIterable iter X.env x = pure x := by intro _; rfl) :
    DF X W (.ListComp elt [⟨tg, iter, ifs, 0⟩] scope pos) (cLc (own.map (·.2)) src tgt p f) :=
  ⟨_, pe_lc (wi := iCan X W src) (g := gCan X.K vs tgt) (tt := bCan X W0 p) (te := eCan X W0 f) hc hN hi.can ok (fun s H C cl fp => (hg s H C cl fp).can) (fun s H C cl fp => (ht s H C cl fp).can) (fun s H C cl fp => (he s H C cl fp).can) hs,
    fun H0 O0 O ρ σ H Q rl o => lc_read hvs rl o⟩
/-- name = [..] on one line, the name a local: data, or the frame's own -/
theorem ds_setLc (hc : X.calm = true) (hN : X.N.Nodup) (hy : X.N[i]? = some y) (hyl : X.env.scope.names.lookup y = some .local)
    (hsw : swapsWith (.ListComp elt [⟨tg, iter, ifs, 0⟩] scope pos) (some (.Name y py)) spos.line X.env = pure true) (hi : DI X W tg iter src) (ok : BlkOk X.N X.env.scope scope own) (hvs : ∀ j ∈ vs, j ∈ own.map (·.2))
    (hg : ∀ (s : Shared) (H : Hp) (C : Addr) (cl : List (Str × Addr)) (fp : List Addr), DG (X.blk s H scope (compEnvC scope cl C X.env) fp) tg vs tgt) (ht : ∀ (s : Shared) (H : Hp) (C : Addr) (cl : List (Str × Addr)) (fp : List Addr), DT (X.blk s H scope (compEnvC scope cl C X.env) fp) ifs p)
    (he : ∀ (s : Shared) (H : Hp) (C : Addr) (cl : List (Str × Addr)) (fp : List Addr), DE (X.blk s H scope (compEnvC scope cl C X.env) fp) W0 elt f) (hs : ∀ x, foldedSetIterable iter X.env x = pure x := by intro _; rfl) :
    DS X W (.Assign [.Name y py] (.ListComp elt [⟨tg, iter, ifs, 0⟩] scope pos) spos) (sSetL i (cLc (own.map (·.2)) src tgt p f)) := by
  refine ⟨_, ps_setLc (wi := iCan X W src) (g := gCan X.K vs tgt) (tt := bCan X W0 p) (te := eCan X W0 f) hc hN hy hyl hsw hi.can ok (fun s H C cl fp => (hg s H C cl fp).can) (fun s H C cl fp => (ht s H C cl fp).can) (fun s H C cl fp => (he s H C cl fp).can) hs,
    fun H0 O0 O ρ σ H D rl o => ?_⟩
  refine lc_read hvs rl ((OutS.ofR rl o).imp fun ds H1 e1 o1 p vs H2 np hv e2 => ?_)
  subst e2
  have r1 := rl.grow e1
  exact o1 _ _ _ (r1.setO np i ⟨p, vs, rfl, .inr rfl, fun z => r1.al p (r1.sub p z) np, upd_same, hv.mono (wo_add np)⟩)
theorem ds_setLcV (hc : X.calm = true) (hN : X.N.Nodup) (hy : X.N[i]? = some y) (hyl : X.env.scope.names.lookup y = some .local)
    (hsw : swapsWith (.ListComp elt [⟨tg, iter, ifs, 0⟩] scope pos) (some (.Name y py)) spos.line X.env = pure true) (hi : DI X W tg iter src) (ok : BlkOk X.N X.env.scope scope own) (hvs : ∀ j ∈ vs, j ∈ own.map (·.2))
    (hg : ∀ (s : Shared) (H : Hp) (C : Addr) (cl : List (Str × Addr)) (fp : List Addr), DG (X.blk s H scope (compEnvC scope cl C X.env) fp) tg vs tgt) (ht : ∀ (s : Shared) (H : Hp) (C : Addr) (cl : List (Str × Addr)) (fp : List Addr), DT (X.blk s H scope (compEnvC scope cl C X.env) fp) ifs p)
    (he : ∀ (s : Shared) (H : Hp) (C : Addr) (cl : List (Str × Addr)) (fp : List Addr), DE (X.blk s H scope (compEnvC scope cl C X.env) fp) W0 elt f) (hs : ∀ x, foldedSetIterable iter X.env x = pure x := by intro _; rfl) :
    DS X W (.Assign [.Name y py] (.ListComp elt [⟨tg, iter, ifs, 0⟩] scope pos) spos) (sSet i (cL (cLc (own.map (·.2)) src tgt p f))) := by
  refine ⟨_, ps_setLc (wi := iCan X W src) (g := gCan X.K vs tgt) (tt := bCan X W0 p) (te := eCan X W0 f) hc hN hy hyl hsw hi.can ok (fun s H C cl fp => (hg s H C cl fp).can) (fun s H C cl fp => (ht s H C cl fp).can) (fun s H C cl fp => (he s H C cl fp).can) hs,
    fun H0 O0 O ρ σ H D rl o => ?_⟩
  refine lc_read hvs rl ((OutP.bind (OutS.ofR rl o)).imp fun ds H1 e1 o1 p vs H2 np hv e2 => ?_)
  subst e2
  have r1 := rl.grow e1
  have nO := r1.fresh np
  exact o1 _ (Same.updNew (o := .lst vs) np) O _ _ ((r1.grow (Same.updNew np)).setV (.lst (.inl ((wo_new nO))) (all_grow np hv)) i)
end

/-! ### calls of the text's own defs -/
def spD (K : PySem.W.Frag) (mg : Str → Option Value) (n : Nat) (F : List PD → R PD) : Sp := fun vs H Q E => ∃ O ds, (∀ p, O p → H p ≠ none) ∧ vs.length = n ∧ DqAll K (wo H O) vs ds ∧
  match F ds with
  | .ok d => ∀ v H', Same H H' → Dq K (wo H' O) v d → Q v H'
  | .ex c pl => ∀ cls dx H', Same H H' → IsEx K mg c pl cls dx (wo H' O) → E cls dx H'
  | .bad => False
/-- the def at f gives F -/
abbrev FnD (P : Program) (w : World) (K : PySem.W.Frag) (mg : Str → Option Value) (base : Heap) (k : Nat) (f : Addr) (fd : FuncData) (ps : List Str) (F : List PD → R PD) : Prop :=
  FnOk P w K mg base (L2.CX P w) k f fd ps (spD K mg ps.length F)
def cCall (n : Nat) (F : List PD → R PD) (g : En → R (List PD)) : En → R PD := fun ρ => (g ρ).bind fun ds => chk (ds.length == n) (F ds)
section
variable {X : Cx} {W : WX} {k : Nat} {f : Addr} {fd : FuncData} {ps : List Str} {F : List PD → R PD} {x : Str} {p pos : Pos} {e : Expr} {es : List Expr} {g : En → R (List PD)}
theorem de_call (G : FnD X.prog X.w X.K X.mg X.base k f fd ps F) (hr : Room k X.A) (hg : Gl X x) (hm : X.mg x = some (.ref f)) (hk : PySem.W.keepIn X.K (.ref f) = true) (hb : Binds X.K fd ps []) (tk : Takes X W)
    (ha : DC X W (e :: es) g) (hdb : (x == ("__debug__" : Str)) = false := by decide) (he : starEach (e :: es) X.env = (false, eval e X.env) :: starEach es X.env := by rfl) (hpl : (backTo pos (starEach es X.env)).any (·.1) = false := by rfl) :
    DE X W (.Call (.Name x p) (e :: es) [] pos) (cCall ps.length F g) := by
  obtain ⟨t, pt, qt⟩ := ha.ex
  refine ⟨_, pe_callS (E := WE W) G hr hg hm hk hb (fun σ => passAt tk σ) pt hdb he hpl, fun H0 O0 O ρ σ H Q rl o => ?_⟩
  refine qt H0 O0 O ρ σ H _ rl (o.bind.imp fun ds H1 e1 o1 vs hv => ?_)
  obtain ⟨c, o1⟩ := OutP.chk o1
  refine ⟨O, ds, (rl.grow e1).al, by rw [hv.length]; exact eq_of_beq c, hv, ?_⟩
  cases q : F ds with
  | ok d => rw [q] at o1; exact fun v H' e' hd => o1 H' e' v hd
  | ex c pl => rw [q] at o1; exact fun cls dx H' e' i => o1 cls dx H' e' i
  | bad => rw [q] at o1; exact o1.elim
end

/-! ### a def's body -/
def fin : Fl → R PD
  | .nx _ => .ok .none
  | .rt d => .ok d
  | .ex c pl _ => .ex c pl
  | _ => .bad
def startE (n : Nat) (ds : List PD) : En := ds.map Sl.va ++ List.replicate (n - ds.length) .un
abbrev WofE (E : XK) : WX := fun cls d _ H => E cls d H
theorem _root_.L2.KvR.monoE {κ : Type} {K : PySem.W.Frag} {H H' : Hp} {a : List (κ × V)} {b : List (κ × PD)} (h : KvR K H a b) (e : Same H H') : KvR K H' a b := h.mono e
theorem IsEx.mono {K : PySem.W.Frag} {mg : Str → Option Value} {c : Str} {pl : List (Str × PD)} {cls : Value} {dx : Option Addr} {G G' : Hp} (h : IsEx K mg c pl cls dx G) (e : Same G G') : IsEx K mg c pl cls dx G' := by
  obtain ⟨C, h1, h2, h3⟩ := h
  refine ⟨C, h1, h2, ?_⟩
  rcases h3 with h3 | ⟨p, fs, h4, h5, h6⟩
  · exact .inl h3
  · exact .inr ⟨p, fs, h4, e _ _ h5, h6.mono e⟩
theorem start_rel {K : PySem.W.Frag} {H : Hp} {O : Addr → Prop} {vs : List V} {ds : List PD} {N : List Str} (al : ∀ p, O p → H p ≠ none) (h : DqAll K (wo H O) vs ds) : Rel K H O O H (startE N.length ds) (L2.start N vs) := by
  have hl := h.length
  refine ⟨Same.refl H, fun _ z => z, fun _ z => .inl z, al, by simp [startE, L2.start, hl], fun i s q => ?_, fun i j s s' p hij q q' ns ns' _ => ?_⟩
  · unfold startE at q
    unfold L2.start
    by_cases hi : i < ds.length
    · rw [List.getElem?_append_left (by simpa using hi), List.getElem?_map] at q
      cases hd : ds[i]? with
      | none => rw [hd] at q; cases q
      | some d =>
        rw [hd] at q; cases q
        obtain ⟨v, h1, h2⟩ := h.get hd
        refine ⟨v, ?_, h2⟩
        rw [List.getElem?_append_left (by simpa [hl] using hi), List.getElem?_map, h1]; rfl
    · rw [List.getElem?_append_right (by simpa using hi)] at q
      rw [List.getElem?_replicate] at q
      split at q
      · cases q; trivial
      · cases q
  · exfalso
    unfold startE at q
    by_cases hi : i < ds.length
    · rw [List.getElem?_append_left (by simpa using hi), List.getElem?_map] at q
      cases hd : ds[i]? with
      | none => rw [hd] at q; cases q
      | some d => rw [hd] at q; cases q; cases ns
    · rw [List.getElem?_append_right (by simpa using hi), List.getElem?_replicate] at q
      split at q
      · cases q; cases ns
      · cases q
section
variable {P : Program} {w : World} {K : PySem.W.Frag} {mg : Str → Option Value} {base : Heap}
theorem fnD_of {x qual : Str} {st : Stmt} {f : Addr} {fd : FuncData} {N ps : List Str} {k : Nat} {g : En → Fl} (F : Fun K x qual st f fd) (S : FnScope N ps (defScope st))
    (hbody : ∀ (cdv : Value) (A : Around) (outer : List PySem.Env) (s : Shared) (H : Hp) (E : XK), Room k (A.deeper (PyProof.Rows.envOfC qual (defScope st) s.heap.objs.size f cdv)) →
      DSs (cxOf (L2.CX P w) P w K mg base N qual (defScope st) f cdv A outer s H E) (WofE E) (defBody st) g) : FnD P w K mg base (k + 1) f fd ps (fun ds => fin (g (startE N.length ds))) := by
  refine F.okX S (fun vs H Q E h => ?_) (fun cdv A outer s H vs Q E hr h => ?_)
  · obtain ⟨_, _, _, h, _⟩ := h; exact h
  · obtain ⟨O, ds, al, hn, hd, o⟩ := h
    obtain ⟨t, pt, qt⟩ := (hbody cdv A outer s H E hr).ex
    refine ⟨t, pt, qt H O O _ _ H _ (start_rel al hd) ?_⟩
    show OutS K mg (WofE E) H O _ (g (startE N.length ds))
    have o : (match fin (g (startE N.length ds)) with
      | .ok d => ∀ v H', Same H H' → Dq K (wo H' O) v d → Q v H'
      | .ex c pl => ∀ cls dx H', Same H H' → IsEx K mg c pl cls dx (wo H' O) → E cls dx H'
      | .bad => False) := o
    cases q : g (startE N.length ds) with
    | nx ρ => rw [q] at o; exact fun O' H' σ' r => o .non H' r.fr .non
    | rt d => rw [q] at o; exact fun v H' e hv => o v H' e hv
    | bk ρ => rw [q] at o; exact o.elim
    | ct ρ => rw [q] at o; exact o.elim
    | ex c pl ρ => rw [q] at o; exact fun O' H' σ' cls dx r i => o cls dx H' r.fr (i.mono (wo_sub r.sub))
    | bad => rw [q] at o; exact o.elim
end

/-! ### raise, try -/
section
variable {X : Cx} {W : WX} {C : Addr} {bmB : List Value} {B newId initId : String} {x m : Str} {j : Nat} {p p2 pos pos2 : Pos}
theorem ds_raise (hc : X.calm = true) (tk : Takes X W) (F : PySem.ExcBaseFacts B newId initId bmB) (q : PySem.W.excIn X.K C bmB newId = true) (gC : X.mg x = some (.ref C)) (kC : PySem.W.keepIn X.K (.ref C) = true) (r : Raises X (.ref C)) (hg : Gl X x)
    (hdb : (x == ("__debug__" : Str)) = false := by decide) : DS X W (.Raise (some (.Call (.Name x p) [.Constant (.str m) j p2] [] pos)) none pos2) (fun ρ => .ex x [] ρ) :=
  ⟨_, ps_raise hc tk (pmk_own F q gC kC r hg hdb), fun H0 O0 O ρ σ H D rl o => o O H σ (.ref C) none rl ⟨C, gC, rfl, .inl rfl⟩⟩
end

def noEx : Fl → Fl
  | .ex _ _ _ => .bad
  | o => o
def hdl : List (Str × (En → Fl)) → Str → List (Str × PD) → En → Fl
  | [], c, pl, ρ => .ex c pl ρ
  | (n, g) :: r, c, pl, ρ => if (c == n) = true then noEx (g ρ) else hdl r c pl ρ
def sTry (cs : List Str) (body : En → Fl) (hs : List (Str × (En → Fl))) : En → Fl := fun ρ => match body ρ with
  | .ex c pl ρ' => if cs.contains c = true then hdl hs c pl ρ' else .bad
  | o => o
/-- the classes of cs are apart -/
def Apart (K : PySem.W.Frag) (mg : Str → Option Value) (cs : List Str) : Prop :=
  ∀ c ∈ cs, ∀ c' ∈ cs, ∀ C C', mg c = some (.ref C) → mg c' = some (.ref C') → PySem.W.exmOne K (.ref C) (.ref C') = some (c == c')
inductive HdD (X : Cx) : List ExceptHandler → List (Str × (En → Fl)) → Prop
  | nil : HdD X [] []
  | cons {x : Str} {C : Addr} {g : En → Fl} {b₀ : Stmt} {suite : List Stmt} {np pos' : Pos} {hds : List ExceptHandler} {l : List (Str × (En → Fl))} (hg : Gl X x) (hm : X.mg x = some (.ref C))
      (hsu : ∀ (a : Addr) (oe : Obj) (cls : Value) (d : Option Addr) (pn : List (Addr × Obj)), DSs (X.suite a ((a, oe) :: pn)) W0 (b₀ :: suite) g) (r : HdD X hds l) (hdb : (x == ("__debug__" : Str)) = false := by decide) :
      HdD X (.ExceptHandler (some (.Name x np)) none (b₀ :: suite) pos' :: hds) ((x, g) :: l)
section
variable {X : Cx} {W : WX} {body : List Stmt} {g : En → Fl} {h₀ : ExceptHandler} {hds : List ExceptHandler} {l : List (Str × (En → Fl))} {pos : Pos} {cs : List Str}
abbrev HdRel (X : Cx) : (Str × (En → Fl)) → (Value × (Addr → Value → Option Addr → TS)) → Prop := fun p q => ∃ C, X.mg p.1 = some (.ref C) ∧ q.1 = .ref C ∧ q.2 = fun _ _ _ => sCan X.K X.mg W0 p.2
theorem HdD.ok : ∀ {hds : List ExceptHandler} {l : List (Str × (En → Fl))}, HdD X hds l → ∃ l', HdsOk X hds l' ∧ Paired (HdRel X) l l'
  | _, _, .nil => ⟨[], .nil, .nil⟩
  | _, _, .cons hg hm hsu r hdb => by
    obtain ⟨l', h1, h2⟩ := HdD.ok r
    exact ⟨_, .cons (ts := fun _ _ _ => sCan X.K X.mg W0 _) ⟨hg, hdb, .inl hm⟩ (fun a oe cls d pn _ _ => (hsu a oe cls d pn).can) h1, .cons ⟨_, hm, rfl, rfl⟩ h2⟩
theorem OutS.noEx {K : PySem.W.Frag} {mg : Str → Option Value} {H0 : Hp} {O0 : Addr → Prop} {D : Ends} {o : Fl} (h : OutS K mg W H0 O0 D (noEx o)) : OutS K mg W0 H0 O0 D o := by
  cases o with
  | ex _ _ _ => exact h.elim
  | _ => exact h
theorem many_of (ap : Apart X.K X.mg cs) {c : Str} {pl : List (Str × PD)} {H0 H : Hp} {O0 O : Addr → Prop} {ρ : En} {σ : L2.St} {cls : Value} {dx : Option Addr} {D : Ends} (hc : c ∈ cs) (rl : Rel X.K H0 O0 O H ρ σ) (ie : IsEx X.K X.mg c pl cls dx (wo H O)) :
    ∀ {l : List (Str × (En → Fl))} {l' : List (Value × (Addr → Value → Option Addr → TS))}, Paired (HdRel X) l l' → (∀ p ∈ l, p.1 ∈ cs) → OutS X.K X.mg W H0 O0 D (hdl l c pl ρ) → wMany X.K W D l' cls dx σ H
  | _, _, .nil, _, o => o O H σ cls dx rl ie
  | _, _, .cons (a := (n, g)) (b := q) hr r, hin, o => by
    obtain ⟨C, hm, e1, e2⟩ := hr
    obtain ⟨q1, q2⟩ := q
    simp only at e1 e2
    subst e1 e2
    obtain ⟨C0, m0, ec, pls⟩ := id ie
    subst ec
    have em := ap c hc n (hin (n, g) List.mem_cons_self) C0 C m0 hm
    unfold hdl at o
    refine ⟨_, em, fun hb a ha => ?_, fun hb => ?_⟩
    · rw [if_pos hb] at o
      exact ⟨H0, O0, O, ρ, rl, o.noEx⟩
    · rw [if_neg (by rw [hb]; exact Bool.false_ne_true)] at o
      exact many_of ap hc rl ie r (fun p hp => hin p (List.mem_cons_of_mem _ hp)) o
theorem ds_try (hs : X.stack = X.env :: X.outer) (hf : X.env.frame = some X.env.locals) (tk : Takes X W) (ap : Apart X.K X.mg cs)
    (hb : ∀ (W' : WX) (pn : List (Addr × Obj)) (xe : Value → Shared → Prop), Takes (X.tr pn xe) W' → PassesOwn (model X.prog X.w) X.A X.env xe → DSs (X.tr pn xe) W' body g)
    (hh : HdD X (h₀ :: hds) l) (hin : ∀ p ∈ l, p.1 ∈ cs) : DS X W (.Try body (h₀ :: hds) [] [] pos) (sTry cs g l) := by
  obtain ⟨l', h1, h2⟩ := hh.ok
  refine ⟨_, ps_try_many (tb := fun W' => sCan X.K X.mg W' g) hs hf tk (fun W' pn xe t1 t2 => (hb W' pn xe t1 t2).can) h1, fun H0 O0 O ρ σ H D rl o => ⟨H0, O0, O, ρ, rl, ?_⟩⟩
  unfold sTry at o
  cases q : g ρ with
  | ex c pl ρ' =>
    simp only [q] at o
    by_cases hc : cs.contains c = true
    · rw [if_pos hc] at o
      exact fun O' H' σ' cls dx r i => many_of ap (List.contains_iff_mem.mp hc) r i h2 hin o
    · rw [if_neg hc] at o; exact o.elim
  | nx ρ' => simp only [q] at o; exact o
  | rt d => simp only [q] at o; exact o
  | bk ρ' => simp only [q] at o; exact o
  | ct ρ' => simp only [q] at o; exact o
  | bad => simp only [q] at o; exact o.elim
end
end DL
namespace DL
open PySem PySem.Spec L2

theorem OutP.grow {α : Type} {X : Cx} {W : WX} {O : Addr → Prop} {σ : L2.St} {H H1 : Hp} {r : R α} {P : α → Hp → Prop} (h : OutP X W O σ H r P) (e : Same H H1) : OutP X W O σ H1 r P := by
  cases r with
  | ok a => exact fun H' e' => h H' (e.trans e')
  | ex c pl => exact fun cls dx H' e' => h cls dx H' (e.trans e')
  | bad => exact h
/-! ### data -/
mutual
theorem dplain {K : PySem.W.Frag} {H : Hp} : ∀ (d : PD) (v : V), Dq K H v d → d.plain = true
  | _, _, .non => rfl
  | _, _, .bl b => rfl
  | _, _, .int i => rfl
  | _, _, .str x => rfl
  | _, _, .lst _ h2 => dplainAll _ _ h2
  | _, _, .tup _ h2 => dplainAll _ _ h2
theorem dplainAll {K : PySem.W.Frag} {H : Hp} : ∀ (ds : List PD) (vs : List V), DqAll K H vs ds → PyData.plainAll ds = true
  | _, _, .nil => rfl
  | _, _, .cons h1 h2 => by rw [PyData.plainAll, dplain _ _ h1, dplainAll _ _ h2]; rfl
end
theorem Dt.plain {K : PySem.W.Frag} {O : Addr → Prop} {H : Hp} {v : V} {d : PD} (h : Dt K O H v d) : d.plain = true := dplain _ _ h.dp
section
variable {X : Cx} {pins : List (Addr × Obj)} {σ : L2.St} {H : Hp} {s : Shared} {O : Addr → Prop}
theorem Dt.reads (I : Inv X pins σ H s) {v : V} {d : PD} {u : Value} (h : Dt X.K O H v d) (r : RelV v u) : ∃ as, PySem.Reads s.heap u d as := Dp.reads I d v u h.dp.dp r
theorem dp_unique (I : Inv X pins σ H s) {v : V} {d e : PD} {u : Value} {as : List Addr} (h : Dq X.K H v d) (r : RelV v u) (h' : PySem.Reads s.heap u e as) : d = e := by
  obtain ⟨bs, q⟩ := Dp.reads I d v u h.dp r
  exact SeqAt.plain_unique d e u bs as (dplain _ _ h) q h'
end
/-- room for deep looks -/
def Deep (X : Cx) : Prop := X.A.units + 190 < cLine
theorem Deep.of {X : Cx} {k : Nat} (h : Room k X.A) : Deep X := by have := h.un; unfold Deep; omega
def dOk (d e : PD) : Bool := decide (min d.depth e.depth ≤ 100)

/-! ### comparisons -/
def rEqP (K : PySem.W.Frag) : R2 := fun x y H Q => ∃ d e, Dq K H x d ∧ Dq K H y e ∧ dOk d e = true ∧ Q (.bl (PyData.eqv d e)) H
def rNeP (K : PySem.W.Frag) : R2 := fun x y H Q => ∃ d e, Dq K H x d ∧ Dq K H y e ∧ dOk d e = true ∧ Q (.bl (!PyData.eqv d e)) H
section
variable {X : Cx}
theorem op_eqP (hu : Deep X) : OpR X (compareOp .Eq) (rEqP X.K) := by
  intro pins s σ H x y v u Q I rx ry h
  obtain ⟨d, e, hd, he, ho, q⟩ := h
  obtain ⟨as, r1⟩ := Dp.reads I d x v hd.dp rx
  obtain ⟨bs, r2⟩ := Dp.reads I e y u he.dp ry
  have ho' := of_decide_eq_true ho
  exact SeqAt.eq_plain r1 r2 (dplain _ _ hd) (dplain _ _ he) (by unfold Deep at hu; omega) ⟨.bl _, H, I, rfl, q⟩
theorem op_neP (hu : Deep X) : OpR X (compareOp .NotEq) (rNeP X.K) := by
  intro pins s σ H x y v u Q I rx ry h
  obtain ⟨d, e, hd, he, ho, q⟩ := h
  obtain ⟨as, r1⟩ := Dp.reads I d x v hd.dp rx
  obtain ⟨bs, r2⟩ := Dp.reads I e y u he.dp ry
  have ho' := of_decide_eq_true ho
  exact SeqAt.ne_plain r1 r2 (dplain _ _ hd) (dplain _ _ he) (by unfold Deep at hu; omega) ⟨.bl _, H, I, rfl, q⟩
def eqD (d e : PD) : R PD := chk (dOk d e) (.ok (.bool (PyData.eqv d e)))
def neD (d e : PD) : R PD := chk (dOk d e) (.ok (.bool (!PyData.eqv d e)))
theorem opd_eq (hu : Deep X) : OpD X (compareOp .Eq) eqD :=
  ⟨_, op_eqP hu, fun W O σ H x y d e Q nO hx hy o => by
    obtain ⟨c, o⟩ := OutP.chk o
    exact ⟨d, e, hx.dp, hy.dp, c, o H (Same.refl H) _ (.bl _)⟩⟩
theorem opd_ne (hu : Deep X) : OpD X (compareOp .NotEq) neD :=
  ⟨_, op_neP hu, fun W O σ H x y d e Q nO hx hy o => by
    obtain ⟨c, o⟩ := OutP.chk o
    exact ⟨d, e, hx.dp, hy.dp, c, o H (Same.refl H) _ (.bl _)⟩⟩
/-- an order, of ints or of alike data -/
def ordD (p : Int → Int → Bool) (F : PD → PD → Bool) (d e : PD) : R PD := match d, e with
  | .int i, .int j => .ok (.bool (p i j))
  | .tuple xs, .tuple ys => chk (PySem.W.alike (.tuple xs) (.tuple ys) && dOk (.tuple xs) (.tuple ys)) (.ok (.bool (F (.tuple xs) (.tuple ys))))
  | .str x, .str y => .ok (.bool (F (.str x) (.str y)))
  | _, _ => .bad
def rOrd (K : PySem.W.Frag) (F : PD → PD → Bool) : R2 := fun x y H Q => ∃ d e, Dq K H x d ∧ Dq K H y e ∧ d ≠ .none ∧ PySem.W.alike d e = true ∧ dOk d e = true ∧ Q (.bl (F d e)) H
theorem op_ordP (hu : Deep X) {op : CmpOp} {F : PD → PD → Bool}
    (rule : ∀ (s : Shared) (a b : Value) (da db : PD) (as bs : List Addr) (Q E : Value → Shared → Prop), PySem.Reads s.heap a da as → PySem.Reads s.heap b db bs → PySem.W.alike da db = true → da ≠ .none → X.A.units + min da.depth db.depth < cLine → Q (.bool (F da db)) s → wpAny (model X.prog X.w) X.A (compareOp op a b) Q E s) :
    OpR X (compareOp op) (rOrd X.K F) := by
  intro pins s σ H x y v u Q I rx ry h
  obtain ⟨d, e, hd, he, hn, ha, ho, q⟩ := h
  obtain ⟨as, r1⟩ := Dp.reads I d x v hd.dp rx
  obtain ⟨bs, r2⟩ := Dp.reads I e y u he.dp ry
  have ho' := of_decide_eq_true ho
  exact rule s v u d e as bs _ _ r1 r2 ha hn (by unfold Deep at hu; omega) ⟨.bl _, H, I, rfl, q⟩
theorem opd_ord {op : CmpOp} {p : Int → Int → Bool} {F : PD → PD → Bool} (h1 : OpR X (compareOp op) (rI0 fun i j => .bl (p i j))) (h2 : OpR X (compareOp op) (rOrd X.K F)) : OpD X (compareOp op) (ordD p F) := by
  refine ⟨_, h1.or h2, fun W O σ H x y d e Q nO hx hy o => ?_⟩
  cases d with
  | int i =>
    cases e with
    | int j => cases hx.sc_int; cases hy.sc_int; exact .inl ⟨i, j, rfl, rfl, o H (Same.refl H) _ (.bl _)⟩
    | _ => exact o.elim
  | tuple xs =>
    cases e with
    | tuple ys =>
      obtain ⟨c, o⟩ := OutP.chk o
      rw [Bool.and_eq_true] at c
      exact .inr ⟨_, _, hx.dp, hy.dp, (fun z => by cases z), c.1, c.2, o H (Same.refl H) _ (.bl _)⟩
    | _ => exact o.elim
  | str xs =>
    cases e with
    | str ys => exact .inr ⟨_, _, hx.dp, hy.dp, (fun z => by cases z), by simp [PySem.W.alike], by simp [dOk, PyData.depth], o H (Same.refl H) _ (.bl _)⟩
    | _ => exact o.elim
  | _ => cases e <;> exact o.elim
def ltD := ordD (fun i j => decide (i < j)) PySem.W.dataLt
def leD := ordD (fun i j => decide (i ≤ j)) fun d e => !PySem.W.dataLt e d
def gtD := ordD (fun i j => decide (j < i)) fun d e => PySem.W.dataLt e d
def geD := ordD (fun i j => decide (j ≤ i)) fun d e => !PySem.W.dataLt d e
theorem opd_lt (hu : Deep X) : OpD X (compareOp .Lt) ltD := opd_ord op_lt (op_ordP hu fun s a b da db as bs Q E r1 r2 h hn hz q => PySem.W.lt_data r1 r2 h hn hz q)
theorem opd_le (hu : Deep X) : OpD X (compareOp .LtE) leD := opd_ord op_le (op_ordP hu fun s a b da db as bs Q E r1 r2 h hn hz q => PySem.W.le_data r1 r2 h hn hz q)
theorem opd_gt (hu : Deep X) : OpD X (compareOp .Gt) gtD := opd_ord op_gt (op_ordP hu fun s a b da db as bs Q E r1 r2 h hn hz q => PySem.W.gt_data r1 r2 h hn hz q)
theorem opd_ge (hu : Deep X) : OpD X (compareOp .GtE) geD := opd_ord op_ge (op_ordP hu fun s a b da db as bs Q E r1 r2 h hn hz q => PySem.W.ge_data r1 r2 h hn hz q)
/-- is, is not: None, truth values -/
def isNo : PD → Bool
  | .none => true
  | _ => false
def isD (d e : PD) : R PD := match d, e with
  | x, .none => .ok (.bool (isNo x))
  | .bool a, .bool b => .ok (.bool (a == b))
  | _, _ => .bad
def isnD (d e : PD) : R PD := match d, e with
  | x, .none => .ok (.bool (!isNo x))
  | .bool a, .bool b => .ok (.bool (!(a == b)))
  | _, _ => .bad
theorem non_iff {K : PySem.W.Frag} {O : Addr → Prop} {H : Hp} {x : V} {d : PD} (h : Dt K O H x d) : decide (x = .non) = isNo d := by
  have := h.dp
  cases this <;> simp [isNo]
theorem opd_is : OpD X (compareOp .Is) isD := by
  refine ⟨_, op_isN.or op_isBl, fun W O σ H x y d e Q nO hx hy o => ?_⟩
  cases e with
  | none =>
    cases hy.sc_non
    refine .inl ⟨rfl, ?_⟩
    rw [non_iff hx]
    have o' : OutP X W O σ H (.ok (.bool (isNo d))) (fun d H' => ∀ v, Dq X.K (wo H' O) v d → Q v H') := by cases d <;> exact o
    exact o' H (Same.refl H) _ (.bl _)
  | bool b =>
    cases d with
    | bool a =>
      cases hx.sc_bl; cases hy.sc_bl
      refine .inr ⟨a, b, rfl, rfl, ?_⟩
      have := o H (Same.refl H) _ (.bl _)
      cases a <;> cases b <;> exact this
    | _ => exact o.elim
  | _ => cases d <;> exact o.elim
theorem opd_isn : OpD X (compareOp .IsNot) isnD := by
  refine ⟨_, op_notN.or op_notBl, fun W O σ H x y d e Q nO hx hy o => ?_⟩
  cases e with
  | none =>
    cases hy.sc_non
    refine .inl ⟨rfl, ?_⟩
    rw [non_iff hx]
    have o' : OutP X W O σ H (.ok (.bool (!isNo d))) (fun d H' => ∀ v, Dq X.K (wo H' O) v d → Q v H') := by cases d <;> exact o
    exact o' H (Same.refl H) _ (.bl _)
  | bool b =>
    cases d with
    | bool a =>
      cases hx.sc_bl; cases hy.sc_bl
      refine .inr ⟨a, b, rfl, rfl, ?_⟩
      have := o H (Same.refl H) _ (.bl _)
      cases a <;> cases b <;> exact this
    | _ => exact o.elim
  | _ => cases d <;> exact o.elim
/-- in, not in: lists and tuples (texts: inS) -/
def inOk (d : PD) (xs : List PD) : Bool := decide (min (PyData.depthAll xs) d.depth ≤ 100)
def inD (d e : PD) : R PD := match e with
  | .list xs => chk (inOk d xs) (.ok (.bool (xs.any fun y => PyData.eqv y d)))
  | .tuple xs => chk (inOk d xs) (.ok (.bool (xs.any fun y => PyData.eqv y d)))
  | .str z => match d with
    | .str i => .ok (.bool (!(Builtin.Str.occurrences z i 0 z.length 1).isEmpty))
    | _ => .bad
  | _ => .bad
def notinD (d e : PD) : R PD := match e with
  | .list xs => chk (inOk d xs) (.ok (.bool (!xs.any fun y => PyData.eqv y d)))
  | .tuple xs => chk (inOk d xs) (.ok (.bool (!xs.any fun y => PyData.eqv y d)))
  | .str z => match d with
    | .str i => .ok (.bool (!!(Builtin.Str.occurrences z i 0 z.length 1).isEmpty))
    | _ => .bad
  | _ => .bad
def rInP (K : PySem.W.Frag) (neg : Bool) : R2 := fun x y H Q => ∃ d xs, Dq K H x d ∧ (Dq K H y (.list xs) ∨ Dq K H y (.tuple xs)) ∧ inOk d xs = true ∧ Q (.bl (if neg then !xs.any fun y => PyData.eqv y d else xs.any fun y => PyData.eqv y d)) H
theorem op_inP (hu : Deep X) : OpR X (compareOp .In) (rInP X.K false) := by
  intro pins s σ H x y v u Q I rx ry h
  obtain ⟨d, xs, hd, he, ho, q⟩ := h
  have ho' := of_decide_eq_true ho
  obtain ⟨as, r1⟩ := Dp.reads I d x v hd.dp rx
  rcases he with he | he
  · obtain ⟨bs, r2⟩ := Dp.reads I _ y u he.dp ry
    exact SeqAt.in_list_data r2 r1 (by have := dplain _ _ he; exact this) (dplain _ _ hd) (by unfold Deep at hu; omega) ⟨.bl _, H, I, rfl, q⟩
  · obtain ⟨bs, r2⟩ := Dp.reads I _ y u he.dp ry
    exact SeqAt.in_tuple_data r2 r1 (by have := dplain _ _ he; exact this) (dplain _ _ hd) (by unfold Deep at hu; omega) ⟨.bl _, H, I, rfl, q⟩
theorem op_notinP (hu : Deep X) : OpR X (compareOp .NotIn) (rInP X.K true) := by
  intro pins s σ H x y v u Q I rx ry h
  obtain ⟨d, xs, hd, he, ho, q⟩ := h
  have ho' := of_decide_eq_true ho
  obtain ⟨as, r1⟩ := Dp.reads I d x v hd.dp rx
  rcases he with he | he
  · obtain ⟨bs, r2⟩ := Dp.reads I _ y u he.dp ry
    exact SeqAt.notIn_list_data r2 r1 (by have := dplain _ _ he; exact this) (dplain _ _ hd) (by unfold Deep at hu; omega) ⟨.bl _, H, I, rfl, q⟩
  · obtain ⟨bs, r2⟩ := Dp.reads I _ y u he.dp ry
    exact SeqAt.notIn_tuple_data r2 r1 (by have := dplain _ _ he; exact this) (dplain _ _ hd) (by unfold Deep at hu; omega) ⟨.bl _, H, I, rfl, q⟩
theorem opd_in (hu : Deep X) : OpD X (compareOp .In) inD := by
  refine ⟨_, (op_inP hu).or op_in_str, fun W O σ H x y d e Q nO hx hy o => ?_⟩
  cases e with
  | list xs => obtain ⟨c, o⟩ := OutP.chk o; exact .inl ⟨d, xs, hx.dp, .inl hy.dp, c, o H (Same.refl H) _ (.bl _)⟩
  | tuple xs => obtain ⟨c, o⟩ := OutP.chk o; exact .inl ⟨d, xs, hx.dp, .inr hy.dp, c, o H (Same.refl H) _ (.bl _)⟩
  | str z =>
    cases d with
    | str i => cases hx.sc_str; cases hy.sc_str; exact .inr ⟨i, z, rfl, rfl, o H (Same.refl H) _ (.bl _)⟩
    | _ => exact o.elim
  | _ => exact o.elim
theorem opd_notin (hu : Deep X) : OpD X (compareOp .NotIn) notinD := by
  refine ⟨_, (op_notinP hu).or op_notIn_str, fun W O σ H x y d e Q nO hx hy o => ?_⟩
  cases e with
  | list xs => obtain ⟨c, o⟩ := OutP.chk o; exact .inl ⟨d, xs, hx.dp, .inl hy.dp, c, o H (Same.refl H) _ (.bl _)⟩
  | tuple xs => obtain ⟨c, o⟩ := OutP.chk o; exact .inl ⟨d, xs, hx.dp, .inr hy.dp, c, o H (Same.refl H) _ (.bl _)⟩
  | str z =>
    cases d with
    | str i => cases hx.sc_str; cases hy.sc_str; exact .inr ⟨i, z, rfl, rfl, o H (Same.refl H) _ (.bl _)⟩
    | _ => exact o.elim
  | _ => exact o.elim

/-! ### arithmetic -/
def addD (d e : PD) : R PD := match d, e with
  | .int i, .int j => .ok (.int (i + j))
  | .str x, .str y => chk (decide (x.length + y.length ≤ big)) (.ok (.str (x ++ y)))
  | .tuple xs, .tuple ys => chk (decide (xs.length + ys.length ≤ big)) (.ok (.tuple (xs ++ ys)))
  | .list xs, .list ys => chk (decide (xs.length + ys.length ≤ big)) (.ok (.list (xs ++ ys)))
  | _, _ => .bad
/-- list + list, whatever they are -/
def rCatP : R2 := fun x y H Q => ∃ l b xs zs, x = .ref l ∧ y = .ref b ∧ Rd H l (.lst xs) ∧ Rd H b (.lst zs) ∧ xs.length + zs.length ≤ sizeLine ∧ ∀ p, H p = none → Q (.ref p) (upd H p (.lst (xs ++ zs)))
theorem op_catP : OpR X (binaryOp .Add) rCatP := by
  intro pins s σ H x y v u Q I rx ry h
  obtain ⟨l, b, xs, zs, rfl, rfl, hH, hB, hz, q⟩ := h
  cases rx
  cases ry
  obtain ⟨_, its, n, r, e⟩ := hH.ok I.hok
  obtain ⟨_, its2, n2, r2, e2⟩ := hB.ok I.hok
  have hl := r.length
  have hl2 := r2.length
  refine PySem.P.add_list e e2 ?_ (by rw [List.size_toArray, List.size_toArray]; omega)
  have ea : its.toArray ++ its2.toArray = (its ++ its2).toArray := by simp
  rw [ea]
  exact ⟨.ref _, _, I.lnew (t' := s.toks) (r.append r2) (by rw [List.length_append]; omega), rfl, q _ I.fresh⟩
theorem opd_add : OpD X (binaryOp .Add) addD := by
  refine ⟨_, op_add.or (op_add_str.or (op_catA.or op_catP)), fun W O σ H x y d e Q nO hx hy o => ?_⟩
  cases d with
  | int i =>
    cases e with
    | int j => cases hx.sc_int; cases hy.sc_int; exact .inl ⟨i, j, rfl, rfl, o H (Same.refl H) _ (.int _)⟩
    | _ => exact o.elim
  | str i =>
    cases e with
    | str j => cases hx.sc_str; cases hy.sc_str; obtain ⟨c, o⟩ := OutP.chk o; exact .inr (.inl ⟨i, j, rfl, rfl, big_line (of_decide_eq_true c), o H (Same.refl H) _ (.str _)⟩)
    | _ => exact o.elim
  | tuple xs =>
    cases e with
    | tuple ys =>
      obtain ⟨c, o⟩ := OutP.chk o
      obtain ⟨a, vs, rfl, h1, h2⟩ := hx.tuple
      obtain ⟨b, ws, rfl, h3, h4⟩ := hy.tuple
      refine .inr (.inr (.inl ⟨a, b, vs, ws, rfl, rfl, Same.seqT wo_self h1, Same.seqT wo_self h3, by rw [h2.length, h4.length]; exact big_line (of_decide_eq_true c), fun e0 => ?_, fun _ e0 => ?_, fun _ _ p np => ?_⟩))
      · subst e0
        cases h2
        exact o H (Same.refl H) _ (.tup h3 h4)
      · subst e0
        cases h4
        rw [List.append_nil] at o
        exact o H (Same.refl H) _ (.tup h1 h2)
      · exact o _ (Same.updNew np) _ (.tup (.inl (.inl (wo_new (nO p np)))) (all_grow np (h2.append h4)))
    | _ => exact o.elim
  | list xs =>
    cases e with
    | list ys =>
      obtain ⟨c, o⟩ := OutP.chk o
      obtain ⟨a, vs, rfl, h1, h2⟩ := hx.list
      obtain ⟨b, ws, rfl, h3, h4⟩ := hy.list
      exact .inr (.inr (.inr ⟨a, b, vs, ws, rfl, rfl, h1, h3, by rw [h2.length, h4.length]; exact big_line (of_decide_eq_true c), fun p np => o _ (Same.updNew np) _ (.lst (.inl ((wo_new (nO p np)))) (all_grow np (h2.append h4)))⟩))
    | _ => exact o.elim
  | _ => cases e <;> exact o.elim
def subD (d e : PD) : R PD := match d, e with
  | .int i, .int j => .ok (.int (i - j))
  | _, _ => .bad
theorem opd_sub : OpD X (binaryOp .Sub) subD := by
  refine ⟨_, op_sub, fun W O σ H x y d e Q nO hx hy o => ?_⟩
  cases d with
  | int i =>
    cases e with
    | int j => cases hx.sc_int; cases hy.sc_int; exact ⟨i, j, rfl, rfl, o H (Same.refl H) _ (.int _)⟩
    | _ => exact o.elim
  | _ => cases e <;> exact o.elim
def modD (d e : PD) : R PD := match d, e with
  | .int i, .int j => chk (decide (0 < j)) (.ok (.int (i % j)))
  | _, _ => .bad
theorem opd_mod : OpD X (binaryOp .Mod) modD := by
  refine ⟨_, op_mod, fun W O σ H x y d e Q nO hx hy o => ?_⟩
  cases d with
  | int i =>
    cases e with
    | int j => cases hx.sc_int; cases hy.sc_int; obtain ⟨c, o⟩ := OutP.chk o; exact ⟨i, j, rfl, rfl, of_decide_eq_true c, o H (Same.refl H) _ (.int _)⟩
    | _ => exact o.elim
  | _ => cases e <;> exact o.elim
def fdivD (d e : PD) : R PD := match d, e with
  | .int i, .int j => chk (decide (0 < j ∧ j < 1073741824)) (.ok (.int (i / j)))
  | _, _ => .bad
theorem opd_fdiv : OpD X (binaryOp .FloorDiv) fdivD := by
  refine ⟨_, op_fdiv, fun W O σ H x y d e Q nO hx hy o => ?_⟩
  cases d with
  | int i =>
    cases e with
    | int j => cases hx.sc_int; cases hy.sc_int; obtain ⟨c, o⟩ := OutP.chk o; have c' : 0 < j ∧ j < 1073741824 := of_decide_eq_true c; exact ⟨i, j, rfl, rfl, c', o H (Same.refl H) _ (.int _)⟩
    | _ => exact o.elim
  | _ => cases e <;> exact o.elim
def powD (d e : PD) : R PD := match d, e with
  | .int i, .int j => chk (decide (0 ≤ j ∧ j ≤ 1000000 ∧ i.natAbs < 18446744073709551616)) (.ok (.int (i ^ j.toNat)))
  | _, _ => .bad
theorem opd_pow : OpD X (binaryOp .Pow) powD := by
  refine ⟨_, op_pow, fun W O σ H x y d e Q nO hx hy o => ?_⟩
  cases d with
  | int i =>
    cases e with
    | int j => cases hx.sc_int; cases hy.sc_int; obtain ⟨c, o⟩ := OutP.chk o; have c' := of_decide_eq_true c; exact ⟨i, j, rfl, rfl, ⟨c'.1, c'.2.1, by have := c'.2.2; omega⟩, o H (Same.refl H) _ (.int _)⟩
    | _ => exact o.elim
  | _ => cases e <;> exact o.elim
def repL (n : Nat) (xs : List PD) : List PD := (List.replicate n xs).flatten
def mulD (d e : PD) : R PD := match d, e with
  | .int i, .int j => chk (decide ((-18446744073709551616 < i ∧ i < 18446744073709551616) ∨ (-18446744073709551616 < j ∧ j < 18446744073709551616))) (.ok (.int (i * j)))
  | .tuple xs, .int k => chk (decide (0 < xs.length ∧ 2 ≤ k ∧ k ≤ 1000 ∧ xs.length ≤ 1000)) (.ok (.tuple (repL k.toNat xs)))
  | _, _ => .bad
theorem _root_.DL.DqAll.rep {K : PySem.W.Frag} {H : Hp} {vs : List V} {ds : List PD} (h : DqAll K H vs ds) : ∀ n : Nat, DqAll K H (List.replicate n vs).flatten (repL n ds)
  | 0 => .nil
  | n + 1 => by
    unfold repL
    rw [List.replicate_succ, List.replicate_succ, List.flatten_cons, List.flatten_cons]
    exact h.append (DqAll.rep h n)
theorem opd_mul : OpD X (binaryOp .Mult) mulD := by
  refine ⟨_, op_mul.or op_repT, fun W O σ H x y d e Q nO hx hy o => ?_⟩
  cases e with
  | int k =>
    cases hy.sc_int
    cases d with
    | int i =>
      cases hx.sc_int
      obtain ⟨c, o⟩ := OutP.chk o
      have c' := of_decide_eq_true c
      exact .inl ⟨i, k, rfl, rfl, by unfold CMul; omega, o H (Same.refl H) _ (.int _)⟩
    | tuple xs =>
      obtain ⟨c, o⟩ := OutP.chk o
      have c' := of_decide_eq_true c
      obtain ⟨a, vs, rfl, h1, h2⟩ := hx.tuple
      have hl := h2.length
      refine .inr ⟨a, k, vs, rfl, rfl, Same.seqT wo_self h1, (fun z => by rw [z] at hl; simp at hl; omega), c'.2.1, c'.2.2.1, by omega, fun p np => ?_⟩
      exact o _ (Same.updNew np) _ (.tup (.inl (.inl (wo_new (nO p np)))) (all_grow np (h2.rep _)))
    | _ => exact o.elim
  | _ => cases d <;> exact o.elim
/-- a new list times an int -/
def cRepL (f : En → R (List PD)) (g : En → R PD) : En → R (List PD) := fun ρ => (f ρ).bind fun ds => (g ρ).bind fun d => match d with
  | .int k => chk (decide (-1000000 ≤ k ∧ k ≤ 1000000 ∧ ds.length * k.toNat ≤ big)) (.ok (repL k.toNat ds))
  | _ => .bad
theorem df_repL {W : WX} {a b : Expr} {pos : Pos} {f : En → R (List PD)} {g : En → R PD} (ha : DF X W a f) (hb : DE X W b g) : DF X W (.BinOp a .Mult b pos) (cRepL f g) := by
  obtain ⟨t, pt, qt⟩ := ha.ex
  obtain ⟨u, pu, qu⟩ := hb.ex
  refine ⟨_, pe_op op_rep pt pu, fun H0 O0 O ρ σ H Q rl o => ?_⟩
  refine qt H0 O0 O ρ σ H _ rl (o.bind.imp fun ds H1 e1 o1 p vs H2 np hv e2 => ?_)
  subst e2
  have r1 := rl.grow e1
  have r2 := r1.grow (Same.updNew (o := .lst vs) np)
  have o2 : OutP X W O σ (upd H1 p (.lst vs)) (g ρ) _ := (o1.bind.grow (Same.updNew (o := .lst vs) np))
  refine qu H0 O0 O ρ σ _ _ r2 (o2.imp fun d H3 e3 o3 y hy => ?_)
  cases d with
  | int k =>
    cases hy.sc_int
    obtain ⟨c, o3⟩ := OutP.chk o3
    have c' := of_decide_eq_true c
    refine ⟨p, k, vs, rfl, rfl, e3 _ _ upd_same, by omega, by omega, by rw [hv.length]; exact big_line c'.2.2, fun q nq => ?_⟩
    exact o3 H3 (Same.refl H3) q _ _ nq ((hv.rep _).mono (same_wo ((Same.updNew (o := .lst vs) np).trans e3))) rfl
  | _ => exact o3.elim
end
end DL
namespace DL
open PySem PySem.Spec L2

/-! ### calls of built-ins, by data -/
section
variable {X : Cx}
theorem vals1' {x : V} {us : List Value} (r : Vals [x] us) : ∃ u, us = [u] ∧ RelV x u := by
  cases r with
  | cons r1 r2 => cases r2; exact ⟨_, rfl, r1⟩
/-- a list or a tuple that is read: its object -/
theorem seq_obj {pins : List (Addr × Obj)} {σ : L2.St} {H : Hp} {s : Shared} (I : Inv X pins σ H s) {v : V} {u : Value} {ds : List PD} (h : Dq X.K H v (.list ds) ∨ Dq X.K H v (.tuple ds)) (r : RelV v u) :
    ∃ (l : Addr) (vs : List V) (its : List Value) (as : List Addr), u = .ref l ∧ Vals vs its ∧ DqAll X.K H vs ds ∧ ReadsAll s.heap its ds as ∧ vs.length ≤ sizeLine ∧
      ((s.heap.IsList l its.toArray ∧ ∃ o n, s.heap.get? l = some o ∧ o.cls = .type "list" ∧ o.data = .seq its.toArray n) ∨ (s.heap.IsTuple l its.toArray ∧ ∃ o n, s.heap.get? l = some o ∧ o.cls = .type "tuple" ∧ o.data = .seq its.toArray n)) := by
  rcases h with h | h
  · cases h with
    | lst h1 h2 =>
      cases r
      obtain ⟨its, rv, pl, hz⟩ := I.list (.inl h1)
      obtain ⟨as, ra⟩ := Dp.readsAll I _ _ its (dqdpAll _ _ h2) rv
      obtain ⟨o, n, e, hc, hd0, hd⟩ := id pl
      exact ⟨_, _, its, as, rfl, rv, h2, ra, hz, .inl ⟨pl.isList, o, n, e, hc, hd⟩⟩
  · cases h with
    | tup h1 h2 =>
      cases r
      obtain ⟨its, rv, pl, hz⟩ := I.tuple h1
      obtain ⟨as, ra⟩ := Dp.readsAll I _ _ its (dqdpAll _ _ h2) rv
      obtain ⟨o, e, hc, n, hd⟩ := id pl
      exact ⟨_, _, its, as, rfl, rv, h2, ra, hz, .inr ⟨pl, o, n, e, hc, hd⟩⟩
/-- an item's length is no matter -/
def flat1 : PD → Bool
  | .str x => decide (x.length ≤ big)
  | .list xs => decide (xs.length ≤ big)
  | .tuple xs => decide (xs.length ≤ big)
  | _ => true
theorem fits_of {ds : List PD} (h : ds.all flat1 = true) : ∀ x ∈ ds, x.fits63 := by
  intro x hx
  have := List.all_eq_true.mp h x hx
  cases x <;> simp only [flat1, PyData.fits63, decide_eq_true_eq] at * <;> (try trivial) <;> (unfold big at this; omega)
def rQuant (K : PySem.W.Frag) (F : List PD → Bool) : List V → Hp → VK → Prop := fun xs H Q => ∃ v ds, xs = [v] ∧ (Dq K H v (.list ds) ∨ Dq K H v (.tuple ds)) ∧ ds.all flat1 = true ∧ Q (.bl (F ds)) H
theorem cr_allP (hc : X.calm = true) : CallR X (.builtin "all") (rQuant X.K fun ds => ds.all PyData.truthy) := by
  intro pins s σ H xs us Q I r h
  obtain ⟨v, ds, rfl, hd, hf, q⟩ := h
  obtain ⟨u, rfl, ru⟩ := vals1' r
  obtain ⟨l, vs, its, as, rfl, rv, hv, ra, hz, hl | hl⟩ := seq_obj I hd ru
  · exact PySem.W.all_list_data (I.ok.hd hc) hl.1 ra (dplainAll _ _ hv) (fits_of hf) fun h' tk k => ⟨.bl _, H, I.kept k, rfl, q⟩
  · exact PySem.W.all_tuple_data (I.ok.hd hc) hl.1 ra (dplainAll _ _ hv) (fits_of hf) fun h' tk k => ⟨.bl _, H, I.kept k, rfl, q⟩
theorem cr_anyP (hc : X.calm = true) : CallR X (.builtin "any") (rQuant X.K fun ds => ds.any PyData.truthy) := by
  intro pins s σ H xs us Q I r h
  obtain ⟨v, ds, rfl, hd, hf, q⟩ := h
  obtain ⟨u, rfl, ru⟩ := vals1' r
  obtain ⟨l, vs, its, as, rfl, rv, hv, ra, hz, hl | hl⟩ := seq_obj I hd ru
  · exact PySem.W.any_list_data (I.ok.hd hc) hl.1 ra (dplainAll _ _ hv) (fits_of hf) fun h' tk k => ⟨.bl _, H, I.kept k, rfl, q⟩
  · exact PySem.W.any_tuple_data (I.ok.hd hc) hl.1 ra (dplainAll _ _ hv) (fits_of hf) fun h' tk k => ⟨.bl _, H, I.kept k, rfl, q⟩
def items1 : List PD → R (List PD)
  | [.list ds] => .ok ds
  | [.tuple ds] => .ok ds
  | _ => .bad
def quantD (F : List PD → Bool) (xs : List PD) : R PD := (items1 xs).bind fun ds => chk (ds.all flat1) (.ok (.bool (F ds)))
def allD := quantD fun ds => ds.all PyData.truthy
def anyD := quantD fun ds => ds.any PyData.truthy
/-- what items1 finds -/
theorem items1_of {O : Addr → Prop} {H : Hp} {vs : List V} {xs ds : List PD} (h : DtAll X.K O H vs xs) (e : items1 xs = .ok ds) : ∃ v, vs = [v] ∧ (Dq X.K H v (.list ds) ∨ Dq X.K H v (.tuple ds)) ∧ (Dt X.K O H v (.list ds) ∨ Dt X.K O H v (.tuple ds)) := by
  match xs, h, e with
  | [.list _], .cons h1 .nil, e => cases e; exact ⟨_, rfl, .inl h1.dp, .inl h1⟩
  | [.tuple _], .cons h1 .nil, e => cases e; exact ⟨_, rfl, .inr h1.dp, .inr h1⟩
theorem quant_of {F : List PD → Bool} {id : String} (h : CallR X (.builtin id) (rQuant X.K F)) : CallD X (.builtin id) (quantD F) := by
  refine ⟨_, h, fun W O σ H vs xs Q nO hv o => ?_⟩
  cases e : items1 xs with
  | ok ds =>
    obtain ⟨v, rfl, hd, _⟩ := items1_of hv e
    unfold quantD at o
    rw [e] at o
    obtain ⟨c, o⟩ := OutP.chk o
    exact ⟨v, ds, rfl, hd, c, o H (Same.refl H) _ (.bl _)⟩
  | ex c pl => unfold quantD at o; rw [e] at o; unfold items1 at e; split at e <;> cases e
  | bad => unfold quantD at o; rw [e] at o; exact o.elim
theorem cd_all (hc : X.calm = true) : CallD X (.builtin "all") allD := quant_of (cr_allP hc)
theorem cd_any (hc : X.calm = true) : CallD X (.builtin "any") anyD := quant_of (cr_anyP hc)

/-! len, abs, int, bool, str, isinstance -/
def lenD : List PD → R PD
  | [.list ds] => .ok (.int ds.length)
  | [.tuple ds] => .ok (.int ds.length)
  | [.str z] => chk (decide (z.length ≤ big)) (.ok (.int z.length))
  | _ => .bad
theorem cd_len : CallD X (.builtin "len") lenD := by
  refine ⟨_, call_len, fun W O σ H vs xs Q nO hv o => ?_⟩
  match xs, hv, o with
  | [.list ds], .cons h1 .nil, o =>
    obtain ⟨a, ws, rfl, h2, h3⟩ := h1.list
    exact ⟨_, _, rfl, .inl ⟨ws, .inl h2, rfl⟩, by rw [h3.length]; exact o H (Same.refl H) _ (.int _)⟩
  | [.tuple ds], .cons h1 .nil, o =>
    obtain ⟨a, ws, rfl, h2, h3⟩ := h1.tuple
    exact ⟨_, _, rfl, .inr ⟨ws, Same.seqT wo_self h2, rfl⟩, by rw [h3.length]; exact o H (Same.refl H) _ (.int _)⟩
  | [.str z], .cons h1 .nil, o =>
    cases h1.sc_str
    obtain ⟨c, o⟩ := OutP.chk o
    exact ⟨_, _, rfl, ⟨big_line (of_decide_eq_true c), rfl⟩, o H (Same.refl H) _ (.int _)⟩
def absD : List PD → R PD
  | [.int i] => .ok (.int (if i < 0 then -i else i))
  | _ => .bad
theorem cd_abs : CallD X (.builtin "abs") absD := by
  refine ⟨_, call_abs, fun W O σ H vs xs Q nO hv o => ?_⟩
  match xs, hv, o with
  | [.int i], .cons h1 .nil, o => cases h1.sc_int; exact ⟨i, rfl, o H (Same.refl H) _ (.int _)⟩
def intD : List PD → R PD
  | [.int i] => .ok (.int i)
  | [.bool b] => .ok (.int (if b then 1 else 0))
  | _ => .bad
theorem cd_int : CallD X (.type "int") intD := by
  refine ⟨_, call_int1, fun W O σ H vs xs Q nO hv o => ?_⟩
  match xs, hv, o with
  | [.int i], .cons h1 .nil, o => cases h1.sc_int; exact .inl ⟨i, rfl, o H (Same.refl H) _ (.int _)⟩
  | [.bool i], .cons h1 .nil, o => cases h1.sc_bl; exact .inr ⟨i, rfl, o H (Same.refl H) _ (.int _)⟩
def strD : List PD → R PD
  | [.int i] => chk (decide (i.natAbs.log2 < 1920)) (.ok (.str (toString i)))
  | _ => .bad
theorem cd_str : CallD X (.type "str") strD := by
  refine ⟨_, call_str_int, fun W O σ H vs xs Q nO hv o => ?_⟩
  match xs, hv, o with
  | [.int i], .cons h1 .nil, o =>
    cases h1.sc_int
    obtain ⟨c, o⟩ := OutP.chk o
    exact ⟨i, rfl, of_decide_eq_true c, o H (Same.refl H) _ (.str _)⟩

/-! max, min -/
def alikes (ds : List PD) : Bool := ds.all fun x => (ds.all fun y => PySem.W.alike x y) && !isNo x
theorem alikes_of {ds : List PD} (h : alikes ds = true) : PySem.W.AlikeAll ds := by
  unfold alikes at h
  rw [List.all_eq_true] at h
  refine ⟨fun x hx y hy => ?_, fun x hx e => ?_⟩
  · have := h x hx
    rw [Bool.and_eq_true] at this
    exact List.all_eq_true.mp this.1 y hy
  · have := h x hx
    rw [Bool.and_eq_true, e] at this
    simp [isNo] at this
def rBest (K : PySem.W.Frag) (F : PD → List PD → PD) : List V → Hp → VK → Prop := fun xs H Q => ∃ a vs d ds, xs = [.ref a] ∧ (Rd H a (.lst vs) ∨ SqT K H a vs) ∧ DqAll K H vs (d :: ds) ∧ alikes (d :: ds) = true ∧ PyData.depthAll (d :: ds) ≤ 100 ∧
  ∀ (i : Nat) (y : V), vs[i]? = some y → (d :: ds)[i]? = some (F d ds) → Q y H
theorem best_at {pins : List (Addr × Obj)} {σ : L2.St} {H : Hp} {s : Shared} (I : Inv X pins σ H s) {vs : List V} {its : List Value} {ds : List PD} {i : Nat} {u : Value} {e : PD} {bs : List Addr} {h' : Heap} {tk : Nat} (rv : Vals vs its) (hv : DqAll X.K H vs ds) (hi : its.toArray[i]? = some u)
    (k : ∀ b o, s.heap.get? b = some o → h'.get? b = some o) (r : PySem.Reads h' u e bs) : ∃ v, vs[i]? = some v ∧ RelV v u ∧ ds[i]? = some e ∧ Dq X.K H v e := by
  have hi' : its[i]? = some u := by simpa using hi
  have hlen := rv.length
  have hiv : i < vs.length := by rw [hlen]; exact (List.getElem?_eq_some_iff.mp hi').1
  obtain ⟨u', hu', ru⟩ := rv.get (List.getElem?_eq_getElem hiv)
  rw [hi'] at hu'; cases hu'
  obtain ⟨d, hd, hq⟩ := hv.getV (List.getElem?_eq_getElem hiv)
  have I' : Inv X pins σ H { s with heap := h', toks := tk } := I.kept k
  have e1 := dp_unique I' hq ru r
  subst e1
  exact ⟨vs[i], List.getElem?_eq_getElem hiv, ru, hd, hq⟩
/-- a list or a tuple at a, its objects -/
theorem seq_at {pins : List (Addr × Obj)} {σ : L2.St} {H : Hp} {s : Shared} (I : Inv X pins σ H s) {a : Addr} {vs : List V} {ds : List PD} (h : Rd H a (.lst vs) ∨ SqT X.K H a vs) (hv : DqAll X.K H vs ds) :
    ∃ (its : List Value) (as : List Addr), Vals vs its ∧ ReadsAll s.heap its ds as ∧ vs.length ≤ sizeLine ∧ ∃ T o n, (T = "list" ∨ T = "tuple") ∧ s.heap.get? a = some o ∧ o.cls = .type T ∧ o.data = .seq its.toArray n ∧ (T = "list" → s.heap.IsList a its.toArray) ∧ (T = "tuple" → s.heap.IsTuple a its.toArray) := by
  rcases h with h | h
  · obtain ⟨its, rv, pl, hz⟩ := I.list (.inl h)
    obtain ⟨as, ra⟩ := Dp.readsAll I _ _ its (dqdpAll _ _ hv) rv
    obtain ⟨o, n, e, hc, hd0, hd⟩ := id pl
    exact ⟨its, as, rv, ra, hz, "list", o, n, .inl rfl, e, hc, hd, fun _ => pl.isList, fun z => absurd z (by decide)⟩
  · obtain ⟨its, rv, pl, hz⟩ := I.tuple h
    obtain ⟨as, ra⟩ := Dp.readsAll I _ _ its (dqdpAll _ _ hv) rv
    obtain ⟨o, e, hc, n, hd⟩ := id pl
    exact ⟨its, as, rv, ra, hz, "tuple", o, n, .inr rfl, e, hc, hd, fun z => absurd z (by decide), fun _ => pl⟩
theorem cr_minP (hc : X.calm = true) (hu : Deep X) : CallR X (.builtin "min") (rBest X.K PySem.W.minD) := by
  intro pins s σ H xs us Q I r h
  obtain ⟨a, vs, d, ds, rfl, hs, hv, ha, hd, q⟩ := h
  obtain ⟨u, rfl, ru⟩ := vals1' r
  cases ru
  obtain ⟨its, as, rv, ra, hz, T, o, n, hT, ho, hcl, hda, h1, h2⟩ := seq_at I hs hv
  have hroom : X.A.units + 1 + PyData.depthAll (d :: ds) < cLine := by unfold Deep at hu; omega
  rcases hT with rfl | rfl
  · refine PySem.W.min_list_data (I.ok.hd hc) (h1 rfl) ra (alikes_of ha) hroom fun i v h' tk bs hi r' k => ?_
    obtain ⟨y, y1, y2, y3, y4⟩ := best_at (tk := tk) I rv hv hi k r'
    exact ⟨y, H, I.kept k, y2, q i y y1 y3⟩
  · refine PySem.W.min_tuple_data (I.ok.hd hc) (h2 rfl) ra (alikes_of ha) hroom fun i v h' tk bs hi r' k => ?_
    obtain ⟨y, y1, y2, y3, y4⟩ := best_at (tk := tk) I rv hv hi k r'
    exact ⟨y, H, I.kept k, y2, q i y y1 y3⟩
theorem cr_maxP (hc : X.calm = true) (hu : Deep X) : CallR X (.builtin "max") (rBest X.K PySem.W.maxD) := by
  intro pins s σ H xs us Q I r h
  obtain ⟨a, vs, d, ds, rfl, hs, hv, ha, hd, q⟩ := h
  obtain ⟨u, rfl, ru⟩ := vals1' r
  cases ru
  obtain ⟨its, as, rv, ra, hz, T, o, n, hT, ho, hcl, hda, h1, h2⟩ := seq_at I hs hv
  have hroom : X.A.units + 1 + PyData.depthAll (d :: ds) < cLine := by unfold Deep at hu; omega
  rcases hT with rfl | rfl
  · refine PySem.W.max_list_data (I.ok.hd hc) (h1 rfl) ra (alikes_of ha) hroom fun i v h' tk bs hi r' k => ?_
    obtain ⟨y, y1, y2, y3, y4⟩ := best_at (tk := tk) I rv hv hi k r'
    exact ⟨y, H, I.kept k, y2, q i y y1 y3⟩
  · refine PySem.W.max_tuple_data (I.ok.hd hc) (h2 rfl) ra (alikes_of ha) hroom fun i v h' tk bs hi r' k => ?_
    obtain ⟨y, y1, y2, y3, y4⟩ := best_at (tk := tk) I rv hv hi k r'
    exact ⟨y, H, I.kept k, y2, q i y y1 y3⟩
/-- of one list or tuple that is not empty; of two ints -/
def bestD (F : PD → List PD → PD) (g : Int → Int → Int) : List PD → R PD
  | [.int i, .int j] => .ok (.int (g i j))
  | xs => (items1 xs).bind fun ds => match ds with
    | [] => .bad
    | d :: r => chk (alikes (d :: r) && decide (PyData.depthAll (d :: r) ≤ 100)) (.ok (F d r))
def mx2 (i j : Int) : Int := if j > i then j else i
def mn2 (i j : Int) : Int := if j < i then j else i
def maxD1 := bestD PySem.W.maxD mx2
def minD1 := bestD PySem.W.minD mn2
theorem foldl_mem {α : Type} (p : α → α → Bool) : ∀ (xs : List α) (x : α), xs.foldl (fun a y => if p a y = true then y else a) x ∈ x :: xs
  | [], x => by simp
  | y :: ys, x => by
    rw [List.foldl_cons]
    by_cases h : p x y = true
    · rw [if_pos h]; exact List.mem_cons_of_mem _ (foldl_mem p ys y)
    · rw [if_neg h]
      rcases List.mem_cons.mp (foldl_mem p ys x) with e | e
      · rw [e]; exact List.mem_cons_self
      · exact List.mem_cons_of_mem _ (List.mem_cons_of_mem _ e)
theorem best_go {F : PD → List PD → PD} {g : Int → Int → Int} {id : String} (h1 : CallR X (.builtin id) (rBest X.K F)) (h2 : CallR X (.builtin id) (fun xs H Q => ∃ i j, xs = [.int i, .int j] ∧ Q (.int (g i j)) H)) : CallD X (.builtin id) (bestD F g) := by
  refine ⟨fun xs H Q => rBest X.K F xs H Q ∨ ∃ i j, xs = [.int i, .int j] ∧ Q (.int (g i j)) H, fun pins s σ H xs us Q I r q => q.elim (h1 pins s σ H xs us Q I r) (h2 pins s σ H xs us Q I r), fun W O σ H vs xs Q nO hv o => ?_⟩
  have one : ∀ ds : List PD, items1 xs = .ok ds → OutP X W O σ H (match ds with
    | [] => .bad
    | d :: r => chk (alikes (d :: r) && decide (PyData.depthAll (d :: r) ≤ 100)) (.ok (F d r))) (fun d H' => ∀ v, Dq X.K (wo H' O) v d → Q v H') → rBest X.K F vs H Q := fun ds e o => by
    obtain ⟨v, rfl, _, hd⟩ := items1_of hv e
    cases ds with
    | nil => exact o.elim
    | cons d r =>
      obtain ⟨c, o⟩ := OutP.chk o
      rw [Bool.and_eq_true] at c
      have fin : ∀ ws, DqAll X.K (wo H O) ws (d :: r) → ∀ (i : Nat) (y : V), ws[i]? = some y → (d :: r)[i]? = some (F d r) → Q y H := fun ws hw i y e1 e2 => by
        obtain ⟨d', k1, k2⟩ := hw.getV e1
        rw [e2] at k1; cases k1
        exact o H (Same.refl H) y k2
      rcases hd with hd | hd
      · obtain ⟨a, ws, rfl, k1, k2⟩ := hd.list
        exact ⟨a, ws, d, r, rfl, .inl k1, k2.mono wo_self, c.1, of_decide_eq_true c.2, fin ws k2⟩
      · obtain ⟨a, ws, rfl, k1, k2⟩ := hd.tuple
        exact ⟨a, ws, d, r, rfl, .inr (Same.seqT wo_self k1), k2.mono wo_self, c.1, of_decide_eq_true c.2, fin ws k2⟩
  unfold bestD at o
  split at o
  · rename_i i j
    match vs, hv with
    | _, .cons k1 (.cons k2 .nil) => cases k1.sc_int; cases k2.sc_int; exact .inr ⟨i, j, rfl, o H (Same.refl H) _ (.int _)⟩
  · cases e : items1 xs with
    | ok ds => rw [e] at o; exact .inl (one ds e o)
    | ex c pl => unfold items1 at e; split at e <;> cases e
    | bad => rw [e] at o; exact o.elim
theorem cd_max (hc : X.calm = true) (hu : Deep X) : CallD X (.builtin "max") maxD1 := best_go (cr_maxP hc hu) (call_max2 hc)
theorem cd_min (hc : X.calm = true) (hu : Deep X) : CallD X (.builtin "min") minD1 := best_go (cr_minP hc hu) (call_min2 hc)

/-! sum, tuple, list, sorted -/
def intsOf : List PD → Option (List Int)
  | [] => some []
  | .int i :: r => (intsOf r).map (i :: ·)
  | _ => none
theorem intsOf_map : ∀ ns : List Int, intsOf (ns.map .int) = some ns
  | [] => rfl
  | n :: ns => by
    show (intsOf (ns.map .int)).map (n :: ·) = _
    rw [intsOf_map ns]; rfl
theorem intsOf_vals {K : PySem.W.Frag} {H : Hp} : ∀ {ds : List PD} {ns : List Int} {vs : List V}, intsOf ds = some ns → DqAll K H vs ds → vs = ns.map V.int
  | [], ns, vs, e, h => by cases e; cases h; rfl
  | .int i :: r, ns, vs, e, h => by
    cases q : intsOf r with
    | none => simp [intsOf, q] at e
    | some m =>
      simp [intsOf, q] at e
      subst e
      cases h with
      | cons h1 h2 => cases h1.dp; rw [intsOf_vals q h2]; rfl
def sumD : List PD → R PD
  | [.list ds] => match intsOf ds with
    | some ns => .ok (.int ns.sum)
    | none => .bad
  | _ => .bad
theorem cd_sum (hc : X.calm = true) : CallD X (.builtin "sum") sumD := by
  refine ⟨_, cr_sum hc, fun W O σ H vs xs Q nO hv o => ?_⟩
  match xs, hv, o with
  | [.list ds], .cons h1 .nil, o =>
    unfold sumD at o
    cases e : intsOf ds with
    | none => simp only [e] at o; exact o.elim
    | some ns =>
      simp only [e] at o
      obtain ⟨a, ws, rfl, k1, k2⟩ := h1.list
      have := intsOf_vals e k2
      subst this
      exact ⟨a, ns, rfl, .inl k1, o H (Same.refl H) _ (.int _)⟩
def tupD (xs : List PD) : R PD := (items1 xs).bind fun ds => .ok (.tuple ds)
theorem cd_tuple : CallD X (.type "tuple") tupD := by
  refine ⟨_, call_tuple_of, fun W O σ H vs xs Q nO hv o => ?_⟩
  cases e : items1 xs with
  | ok ds =>
    unfold tupD at o
    rw [e] at o
    obtain ⟨v, rfl, _, hd⟩ := items1_of hv e
    rcases hd with hd | hd
    · obtain ⟨a, ws, rfl, k1, k2⟩ := hd.list
      exact ⟨a, ws, rfl, .inl ⟨.inl k1, fun p np => o _ (Same.updNew np) _ (.tup (.inl (.inl (wo_new (nO p np)))) (all_grow np k2))⟩⟩
    · obtain ⟨a, ws, rfl, k1, k2⟩ := hd.tuple
      exact ⟨a, ws, rfl, .inr ⟨Same.seqT wo_self k1, o H (Same.refl H) _ (.tup k1 k2)⟩⟩
  | ex c pl => unfold items1 at e; split at e <;> cases e
  | bad => unfold tupD at o; rw [e] at o; exact o.elim
theorem cf_list : CallF X (.type "list") items1 := by
  refine ⟨_, call_list_of, fun W O σ H vs xs Q nO hv o => ?_⟩
  cases e : items1 xs with
  | ok ds =>
    rw [e] at o
    obtain ⟨v, rfl, _, hd⟩ := items1_of hv e
    rcases hd with hd | hd
    · obtain ⟨a, ws, rfl, k1, k2⟩ := hd.list
      exact ⟨a, ws, rfl, .inl (.inl k1), fun p np => o H (Same.refl H) p ws _ np k2 rfl⟩
    · obtain ⟨a, ws, rfl, k1, k2⟩ := hd.tuple
      exact ⟨a, ws, rfl, .inr (Same.seqT wo_self k1), fun p np => o H (Same.refl H) p ws _ np k2 rfl⟩
  | ex c pl => unfold items1 at e; split at e <;> cases e
  | bad => rw [e] at o; exact o.elim
end
end DL
namespace DL
open PySem PySem.Spec L2

/-! ### sorted -/
def isT1 : PD → Bool
  | .tuple (_ :: _) => true
  | _ => false
def noTN : PD → Bool
  | .tuple _ => false
  | .none => false
  | _ => true
def sortOk (ds : List PD) : Bool := (ds.all fun x => ds.all fun y => PySem.W.alike x y) && (ds.all isT1 || ds.all noTN) && decide (ds.length ≤ big ∧ PyData.depthAll ds ≤ 100)
def sortL (ds : List PD) : List PD := ds.mergeSort (PySem.W.dataLe false fun d => d)
def sortD (xs : List PD) : R (List PD) := (items1 xs).bind fun ds => chk (sortOk ds) (.ok (sortL ds))
theorem depth_mem : ∀ {ds : List PD} {d : PD}, d ∈ ds → d.depth ≤ PyData.depthAll ds
  | x :: xs, d, h => by
    rw [PyData.depthAll]
    rcases List.mem_cons.mp h with rfl | h
    · omega
    · have := depth_mem h; omega
theorem sortable_of {ds : List PD} (h : sortOk ds = true) : PySem.W.AllAlike ds ∧ PySem.W.Sortable ds ∧ ds.length ≤ big ∧ PyData.depthAll ds ≤ 100 := by
  unfold sortOk at h
  rw [Bool.and_eq_true, Bool.and_eq_true, Bool.or_eq_true, decide_eq_true_eq] at h
  obtain ⟨⟨h1, h2⟩, h3, h4⟩ := h
  refine ⟨fun d hd d' hd' => List.all_eq_true.mp (List.all_eq_true.mp h1 d hd) d' hd', ?_, h3, h4⟩
  rcases h2 with h2 | h2
  · refine .inl fun d hd => ?_
    have := List.all_eq_true.mp h2 d hd
    match d, this with
    | .tuple (x :: r), _ => exact ⟨x, r, rfl⟩
  · refine .inr fun d hd => ?_
    have := List.all_eq_true.mp h2 d hd
    constructor
    · intro e; rw [e] at this; cases this
    · intro xs e; rw [e] at this; cases this
def rSortP (K : PySem.W.Frag) : List V → Hp → VK → Prop := fun xs H Q => ∃ a vs ds, xs = [.ref a] ∧ (Rd H a (.lst vs) ∨ SqT K H a vs) ∧ DqAll K H vs ds ∧ sortOk ds = true ∧
  ∀ out p, (∀ G, DqAll K G vs ds → DqAll K G out (sortL ds)) → H p = none → Q (.ref p) (upd H p (.lst out))
theorem each_of {K : PySem.W.Frag} : ∀ {vs : List V} {its : List Value} {ds : List PD}, Vals vs its → vs.length = ds.length →
    PySem.W.EachIs (fun (u : Value) (d : PD) => ∃ v, RelV v u ∧ ∀ G, (∀ (i : Nat) (x : V), vs[i]? = some x → ∀ e : PD, ds[i]? = some e → Dq K G x e) → Dq K G v d) its ds
  | [], [], [], _, _ => .nil
  | v :: vs, u :: us, d :: ds, .cons r rr, h => by
    have ih := each_of (K := K) rr (by simpa using h)
    refine .cons ⟨v, r, fun G q => q 0 v rfl d rfl⟩ ?_
    exact ih.mono fun a b ⟨x, h1, h2⟩ => ⟨x, h1, fun G q => h2 G fun i y e1 e e2 => q (i + 1) y e1 e e2⟩
theorem all_at {K : PySem.W.Frag} {G : Hp} {vs : List V} {ds : List PD} (h : DqAll K G vs ds) : ∀ (i : Nat) (x : V), vs[i]? = some x → ∀ e : PD, ds[i]? = some e → Dq K G x e := fun i x h1 e h2 => by
  obtain ⟨e', k1, k2⟩ := h.getV h1
  rw [h2] at k1; cases k1
  exact k2
theorem each_out {K : PySem.W.Frag} {Pz : Hp → Prop} : ∀ {us : List Value} {ds : List PD}, PySem.W.EachIs (fun (u : Value) (d : PD) => ∃ v, RelV v u ∧ ∀ G, Pz G → Dq K G v d) us ds → ∃ out, Vals out us ∧ ∀ G, Pz G → DqAll K G out ds
  | _, _, .nil => ⟨[], .nil, fun _ _ => .nil⟩
  | _, _, .cons ⟨v, h1, h2⟩ r => by
    obtain ⟨out, k1, k2⟩ := each_out r
    exact ⟨v :: out, .cons h1 k1, fun G q => .cons (h2 G q) (k2 G q)⟩
theorem reads_each {h : Heap} : ∀ {us : List Value} {ds : List PD} {as : List Addr}, ReadsAll h us ds as → PySem.W.EachIs (fun (u : Value) (d : PD) => ∃ as, PySem.Reads h u d as) us ds
  | _, _, _, .nil => .nil
  | _, _, _, .cons h1 h2 => .cons ⟨_, h1⟩ (reads_each h2)
section
variable {X : Cx}
theorem cr_sortP (hu : Deep X) : CallR X (.builtin "sorted") (rSortP X.K) := by
  intro pins s σ H xs us Q I r h
  obtain ⟨a, vs, ds, rfl, hs, hv, ho, q⟩ := h
  obtain ⟨u, rfl, ru⟩ := vals1' r
  cases ru
  obtain ⟨its, as, rv, ra, hz, T, o, n, hT, hob, hcl, hda, _, _⟩ := seq_at I hs hv
  obtain ⟨k1, k2, k3, k4⟩ := sortable_of ho
  have hlen := rv.length
  have hlen2 := hv.length
  refine Calls.call_function_entry PyProof.Rows.kind_sorted PyProof.Rows.plain_sorted PyProof.Rows.entry_sorted (PyProof.Rows.args_sorted1 _) ?_
  unfold Builtin.«sorted»
  refine wpAny_bind (m := checkCount "sorted" 1 1 _) (wpAny_pure ?_)
  refine wpAny_bind (wpAny_collect_seq a hT hob hcl hda (fun h1 kp => ?_) (by rw [List.size_toArray]; omega))
  rw [show its.toArray.toList = its by simp]
  have I1 : Inv X pins σ H { s with heap := h1 } := I.kept (t' := s.toks) kp
  refine wpAny_bind (wpAny_newList ?_ (by omega))
  have hnew : (h1.push { cls := .type "list", data := .seq its.toArray }).get? h1.objs.size = some (PyProof.Rows.seqObj "list" its.toArray 0) := Heap.get?_push_size _ rfl
  have I2 : Inv X pins σ (upd H h1.objs.size (.lst vs)) { s with heap := h1.push { cls := .type "list", data := .seq its.toArray } } := I1.lnew (t' := s.toks) rv hz
  have fr := I1.fresh
  have er : PySem.W.EachIs (fun (u : Value) (d : PD) => ∃ as, PySem.Reads (PySem.W.sortingHeap (h1.push { cls := .type "list", data := .seq its.toArray }) h1.objs.size its) u d as) its ds := (reads_each ra).mono fun u d ⟨as, r⟩ =>
    ⟨as, PyProof.Rows.Reads.keeps (fun b o' e => PySem.W.sortingHeap_old (Nat.ne_of_lt (Heap.lt_size (kp b o' e))) (Heap.get?_push_of_some _ (kp b o' e))) r⟩
  have e0 := each_of (K := X.K) rv hlen2
  have lo := PySem.W.sortVals_length (κ := PySem.W.dataKind (PySem.W.sortingHeap (h1.push { cls := .type "list", data := .seq its.toArray }) h1.objs.size its) ds) (vs := its) false rfl
  have sd := PySem.W.sortVals_data (enc := fun d => d) false e0 (by simpa using er) (by simpa using k1)
  rw [List.map_id'] at sd
  obtain ⟨out, w1, w2⟩ := each_out sd
  refine wpAny_bind (wpAny_holding (wpAny_call_entry PyProof.Rows.slot_list_sort ⟨_, hnew, rfl⟩ PyProof.Rows.entry_list_sort
    (PySem.W.list_sort_vals (s := { s with heap := h1.push { cls := .type "list", data := .seq its.toArray } }) hnew
      (PySem.W.SortsAt.data (s := { s with heap := PySem.W.sortingHeap (h1.push { cls := .type "list", data := .seq its.toArray }) h1.objs.size its }) er k1 k2 (fun d hd => by have := depth_mem hd; have := hu; unfold Deep at this; show X.A.units + 1 + 1 + d.depth < cLine; omega)) (by omega) ⟨_, rfl, ?_⟩) (PyProof.Rows.args_list_sort _)))
  refine wpAny_pure ⟨_, rfl, ?_⟩
  obtain ⟨en, hat⟩ := PyProof.Rows.sortedHeap_at (out := (PySem.W.sortVals (PySem.W.dataKind (PySem.W.sortingHeap (h1.push { cls := .type "list", data := .seq its.toArray }) h1.objs.size its) ds) false its its).toArray) hnew
  have ol := w1.length
  have I3 := I2.write (x := h1.objs.size) (e := h1.objs.size) (o := .lst out) (t' := s.toks) (h' := PyProof.Rows.sortedHeap (h1.push { cls := .type "list", data := .seq its.toArray }) h1.objs.size its (PySem.W.sortVals (PySem.W.dataKind (PySem.W.sortingHeap (h1.push { cls := .type "list", data := .seq its.toArray }) h1.objs.size its) ds) false its its).toArray)
    (by rw [upd_same]; trivial) (.inl rfl) (fun b u hb q => (PyProof.Rows.sortedHeap_old hb (Heap.lt_size q)).trans q) ⟨_, hat⟩ ⟨by omega, _, en, w1, hat⟩
  rw [upd_upd] at I3
  refine ⟨.ref h1.objs.size, _, I3, rfl, q out h1.objs.size (fun G hG => w2 G (all_at hG)) fr⟩
theorem cf_sorted (hu : Deep X) : CallF X (.builtin "sorted") sortD := by
  refine ⟨_, cr_sortP hu, fun W O σ H vs xs Q nO hv o => ?_⟩
  cases e : items1 xs with
  | ok ds =>
    unfold sortD at o
    rw [e] at o
    obtain ⟨c, o⟩ := OutP.chk o
    obtain ⟨v, rfl, _, hd⟩ := items1_of hv e
    rcases hd with hd | hd
    · obtain ⟨a, ws, rfl, k1, k2⟩ := hd.list
      exact ⟨a, ws, ds, rfl, .inl k1, k2.mono wo_self, c, fun out p hG np => o H (Same.refl H) p out _ np (hG _ k2) rfl⟩
    · obtain ⟨a, ws, rfl, k1, k2⟩ := hd.tuple
      exact ⟨a, ws, ds, rfl, .inr (Same.seqT wo_self k1), k2.mono wo_self, c, fun out p hG np => o H (Same.refl H) p out _ np (hG _ k2) rfl⟩
  | ex c pl => unfold items1 at e; split at e <;> cases e
  | bad => unfold sortD at o; rw [e] at o; exact o.elim
end
end DL
namespace DL
open PySem PySem.Spec L2

/-! ### isinstance -/
section
variable {X : Cx} {W : WX} {e : Expr} {f : En → R PD} {pos p p2 : Pos}
def rIsa (K : PySem.W.Frag) (T : String) (F : PD → Bool) : List V → Hp → VK → Prop := fun xs H Q => ∃ v d, xs = [v, .ty T] ∧ Dq K H v d ∧ Q (.bl (F d)) H
theorem cr_isa {T : String} {F : PD → Bool} (rule : ∀ (prog : Program) (w : World) (A : Around) (E : Value → Shared → Prop) (s : Shared) (v : Value) (d : PD) (as : List Addr) (Q : Value → Shared → Prop), PySem.Reads s.heap v d as → (∀ tk, s.toks ≤ tk → Q (.bool (F d)) { s with toks := tk }) → wpAny (model prog w) A (call (.builtin "isinstance") [v, .type T]) Q E s) :
    CallR X (.builtin "isinstance") (rIsa X.K T F) := by
  intro pins s σ H xs us Q I r h
  obtain ⟨v, d, rfl, hd, q⟩ := h
  cases r with
  | cons r1 r2 =>
    cases r2 with
    | cons r3 r4 =>
      cases r4
      cases r3
      obtain ⟨as, hr⟩ := Dp.reads I d v _ hd.dp r1
      exact rule X.prog X.w X.A X.xe s _ d as _ hr fun tk _ => ⟨.bl _, H, I.tok tk, rfl, q⟩
def isaD (F : PD → Bool) (f : En → R PD) : En → R PD := fun ρ => (f ρ).bind fun d => .ok (.bool (F d))
theorem de_isa {T : String} {F : PD → Bool} {x : Str} (hc : CallR X (.builtin "isinstance") (rIsa X.K T F)) (hg : Gl X "isinstance") (hm : X.mg "isinstance" = none) (hgT : Gl X x) (hmT : X.mg x = none) (hvT : bootBuiltins x = some (.type T)) (ha : DV X W e f)
    (h1 : starEach [e, .Name x p2] X.env = (false, eval e X.env) :: starEach [.Name x p2] X.env := by rfl) (h2 : starEach [.Name x p2] X.env = (false, eval (.Name x p2) X.env) :: starEach [] X.env := by rfl)
    (hpl : (backTo pos (starEach [.Name x p2] X.env)).any (·.1) = false := by rfl) (hn : x ≠ "__name__" := by decide) (hdb : (x == ("__debug__" : Str)) = false := by decide) : DE X W (.Call (.Name "isinstance" p) [e, .Name x p2] [] pos) (isaD F f) := by
  obtain ⟨t, pt, qt⟩ := ha.ex
  refine ⟨_, pe_callB hc hg hm (by rfl) (pa_cons pt (pa_cons (pe_bltn (v := .ty T) hgT hmT hvT rfl hn hdb) pa_nil h2) h1) (by decide) (by decide) h1 hpl, fun H0 O0 O ρ σ H Q rl o => ?_⟩
  exact qt H0 O0 O ρ σ H _ rl (o.bind.imp fun d H1 e1 o1 v hv => ⟨v, d, rfl, hv.dp, o1 H1 (Same.refl H1) _ (.bl _)⟩)
theorem isa_int : CallR X (.builtin "isinstance") (rIsa X.K "int" PyData.isInt) := cr_isa fun _ _ _ _ _ _ _ _ _ r h => PySem.W.isinstance_int_data r h
theorem isa_bool : CallR X (.builtin "isinstance") (rIsa X.K "bool" PyData.isBool) := cr_isa fun _ _ _ _ _ _ _ _ _ r h => PySem.W.isinstance_bool_data r h
theorem isa_str : CallR X (.builtin "isinstance") (rIsa X.K "str" PyData.isStr) := cr_isa fun _ _ _ _ _ _ _ _ _ r h => PySem.W.isinstance_str_data r h
theorem isa_tuple : CallR X (.builtin "isinstance") (rIsa X.K "tuple" PyData.isTuple) := cr_isa fun _ _ _ _ _ _ _ _ _ r h => PySem.W.isinstance_tuple_data r h
theorem isa_list : CallR X (.builtin "isinstance") (rIsa X.K "list" PyData.isList) := cr_isa fun _ _ _ _ _ _ _ _ _ r h => PySem.W.isinstance_list_data r h
end

/-! ### slices -/
structure DO (X : Cx) (W : WX) (e : Option Expr) (f : En → R (Option Int)) : Prop where
  ex : ∃ t, PO X e t ∧ ∀ H0 O0 O ρ σ H Q, Rel X.K H0 O0 O H ρ σ → OutP X W O σ H (f ρ) Q → t σ H Q
def oN : En → R (Option Int) := fun _ => .ok none
def oS (f : En → R PD) : En → R (Option Int) := fun ρ => (f ρ).bind fun d => match d with
  | .int i => .ok (some i)
  | _ => .bad
def cutL {α : Type} (xs : List α) (lo hi : Option Int) : List α := (xs.drop (HT.sIx xs.length 0 lo)).take (HT.sIx xs.length xs.length hi - HT.sIx xs.length 0 lo)
def slD (d : PD) (lo hi : Option Int) : R PD := match d with
  | .list ds => .ok (.list (cutL ds lo hi))
  | .tuple ds => .ok (.tuple (cutL ds lo hi))
  | .str z => chk (decide (z.length ≤ big)) (.ok (.str (cutS z lo hi)))
  | _ => .bad
def cSl (f : En → R PD) (l h : En → R (Option Int)) : En → R PD := fun ρ => (f ρ).bind fun d => (l ρ).bind fun a => (h ρ).bind fun b => slD d a b
section
variable {X : Cx} {W : WX} {e : Expr} {lo hi : Option Expr} {f : En → R PD} {l h : En → R (Option Int)} {pos p2 : Pos}
theorem do_n : DO X W none oN := ⟨_, po_none, fun H0 O0 O ρ σ H Q rl o => o H (Same.refl H)⟩
theorem do_s (he : DE X W e f) : DO X W (some e) (oS f) := by
  obtain ⟨t, pt, qt⟩ := he.ex
  refine ⟨_, po_some pt, fun H0 O0 O ρ σ H Q rl o => ?_⟩
  refine qt H0 O0 O ρ σ H _ rl (o.bind.imp fun d H1 e1 o1 v hv => ?_)
  cases d with
  | int i => cases hv.sc_int; exact ⟨i, rfl, o1 H1 (Same.refl H1)⟩
  | _ => exact o1.elim
theorem all_cut {K : PySem.W.Frag} {G : Hp} {vs : List V} {ds : List PD} (hv : DqAll K G vs ds) (a b : Option Int) : DqAll K G (cutV vs a b) (cutL ds a b) := by
  unfold cutV cutL
  rw [hv.length]
  exact (hv.drop _).take _
theorem de_sl (he : DV X W e f) (hl : DO X W lo l) (hh : DO X W hi h) : DE X W (.Subscript e (.Slice lo hi none p2) pos) (cSl f l h) := by
  obtain ⟨te, pe, qe⟩ := he.ex
  obtain ⟨tl, pl, ql⟩ := hl.ex
  obtain ⟨th, ph, qh⟩ := hh.ex
  refine ⟨_, pe_slice (sl_list.or (sl_tupA.or sl_str)) pe pl ph, fun H0 O0 O ρ σ H Q rl o => ?_⟩
  refine qe H0 O0 O ρ σ H _ rl (o.bind.imp fun d H1 e1 o1 v hv => ?_)
  refine ql H0 O0 O ρ σ H1 _ (rl.grow e1) (o1.bind.imp fun a H2 e2 o2 => ?_)
  refine qh H0 O0 O ρ σ H2 _ ((rl.grow e1).grow e2) (o2.bind.imp fun b H3 e3 o3 => ?_)
  have r3 := ((rl.grow e1).grow e2).grow e3
  have hv := hv.mono (e2.trans e3)
  cases d with
  | list ds =>
    obtain ⟨x, vs, rfl, k1, k2⟩ := hv.list
    exact .inl ⟨x, vs, rfl, .inl k1, fun p np => o3 _ (Same.updNew np) _ (.lst (.inl (wo_new (r3.fresh np))) (all_grow np (all_cut k2 a b)))⟩
  | tuple ds =>
    obtain ⟨x, vs, rfl, k1, k2⟩ := hv.tuple
    have k1' : SqT X.K H3 x vs := Same.seqT wo_self k1
    refine .inr (.inl ⟨x, vs, rfl, k1', fun hw => ?_, fun hw p np => o3 _ (Same.updNew np) _ (.tup (.inl (.inl (wo_new (r3.fresh np)))) (all_grow np (all_cut k2 a b)))⟩)
    have hl := k2.length
    have ec : cutL ds a b = ds := by
      unfold cutL
      rw [← hl, hw.1, hw.2, List.drop_zero, Nat.sub_zero, hl, List.take_length]
    rw [slD, ec] at o3
    exact o3 H3 (Same.refl H3) _ (.tup k1 k2)
  | str z =>
    cases hv.sc_str
    obtain ⟨c, o3⟩ := OutP.chk o3
    exact .inr (.inr ⟨z, rfl, big_line (of_decide_eq_true c), o3 H3 (Same.refl H3) _ (.str _)⟩)
  | _ => exact o3.elim
/-- a list's slice, new -/
def cSlF (f : En → R PD) (l h : En → R (Option Int)) : En → R (List PD) := fun ρ => (f ρ).bind fun d => (l ρ).bind fun a => (h ρ).bind fun b => match d with
  | .list ds => .ok (cutL ds a b)
  | _ => .bad
theorem df_sl (he : DV X W e f) (hl : DO X W lo l) (hh : DO X W hi h) : DF X W (.Subscript e (.Slice lo hi none p2) pos) (cSlF f l h) := by
  obtain ⟨te, pe, qe⟩ := he.ex
  obtain ⟨tl, pl, ql⟩ := hl.ex
  obtain ⟨th, ph, qh⟩ := hh.ex
  refine ⟨_, pe_slice sl_list pe pl ph, fun H0 O0 O ρ σ H Q rl o => ?_⟩
  refine qe H0 O0 O ρ σ H _ rl (o.bind.imp fun d H1 e1 o1 v hv => ?_)
  refine ql H0 O0 O ρ σ H1 _ (rl.grow e1) (o1.bind.imp fun a H2 e2 o2 => ?_)
  refine qh H0 O0 O ρ σ H2 _ ((rl.grow e1).grow e2) (o2.bind.imp fun b H3 e3 o3 => ?_)
  have hv := hv.mono (e2.trans e3)
  cases d with
  | list ds =>
    obtain ⟨x, vs, rfl, k1, k2⟩ := hv.list
    exact ⟨x, vs, rfl, .inl k1, fun p np => o3 H3 (Same.refl H3) p _ _ np (all_cut k2 a b) rfl⟩
  | _ => exact o3.elim
end

/-! ### x[i] = e, x.extend(e), of an own list -/
def sSetI (i : Nat) (f g : En → R PD) : En → Fl := fun ρ => match ρ[i]? with
  | some (.ol ds) => toS ρ (f ρ) fun d => toS ρ (g ρ) fun j => match j with
    | .int k => match ixN ds.length k with
      | some n => .nx (ρ.set i (.ol (ds.set n d)))
      | none => .bad
    | _ => .bad
  | _ => .bad
section
variable {X : Cx} {W : WX} {a b e : Expr} {f g : En → R PD} {i : Nat} {pos p1 : Pos}
theorem ds_setI (hx : PE X a (tVar i)) (he : DE X W e f) (hb : DE X W b g)
    (ha : ∀ v, assign (.Subscript a b p1) X.env v = (do
      let ov ← holding [v] (eval a X.env)
      let iv ← holding [v, ov] (eval b X.env)
      standAt p1
      holding [v, ov, iv] (setItem ov iv v)
      release [v, ov, iv] []) := by intro _; rfl)
    (hs : swapsWithSole [.Subscript a b p1] e pos.line X.env = pure false := by rfl) (hw : swappedStores [.Subscript a b p1] e X.env = pure none := by rfl)
    (h1 : (assignEach [.Subscript a b p1] X.env).map (·.2) = [assign (.Subscript a b p1) X.env] := by rfl) : DS X W (.Assign [.Subscript a b p1] e pos) (sSetI i f g) := by
  obtain ⟨t, pt, qt⟩ := he.ex
  obtain ⟨u, pu, qu⟩ := hb.ex
  refine ⟨_, ps_asg pt (pg_sub hx pu set_list ha) hs hw h1, fun H0 O0 O ρ σ H D rl o => ?_⟩
  unfold sSetI at o
  cases q : ρ[i]? with
  | none => rw [q] at o; exact o.elim
  | some s =>
    cases s with
    | ol ds =>
      rw [q] at o
      refine qt H0 O0 O ρ σ H _ rl ((OutS.ofR rl o).imp fun d H1 e1 o1 v hv => ?_)
      have r1 := rl.grow e1
      obtain ⟨p, vs, e2, m1, m2, m3, m4⟩ := r1.sl i _ q
      refine ⟨_, e2, qu H0 O0 O ρ σ H1 _ r1 ((OutS.ofR r1 o1).imp fun j H2 e3 o2 w hw2 => ?_)⟩
      cases j with
      | int k =>
        cases hw2.sc_int
        cases hk : ixN ds.length k with
        | none => simp only [hk] at o2; exact o2.elim
        | some n =>
          simp only [hk] at o2
          have m5 := m4.mono (same_wo (O := O) e3)
          refine ⟨p, vs, k, n, rfl, rfl, e3 _ _ m3, by rw [m4.length]; exact hk, ?_⟩
          refine o2 O _ σ ((r1.grow e3).updO q rfl rfl e2 ⟨p, vs.set n v, rfl, m1, m2, upd_same, ?_⟩)
          rw [wo_upd m1]
          exact m5.set (hv.mono (same_wo e3)) n
      | _ => exact o2.elim
    | _ => rw [q] at o; exact o.elim
/-- what x.extend(e) does, e a list that is read -/
def rExtP : V → List V → Hp → VK → Prop := fun x vs H Q => ∃ l b xs zs, x = .ref l ∧ vs = [.ref b] ∧ H l = some (.lst xs) ∧ Rd H b (.lst zs) ∧ xs.length + zs.length ≤ sizeLine ∧ Q .non (upd H l (.lst (xs ++ zs)))
theorem mt_extP : MtR X "list.extend" rExtP := by
  intro pins s σ H x xs v us Q I rx rv h
  obtain ⟨l, b, ys, zs, rfl, rfl, hH, hB, hz, q⟩ := h
  cases rx
  obtain ⟨u, rfl, ru⟩ := vals1' rv
  cases ru
  obtain ⟨_, its, n, r, e⟩ := I.hok l _ hH
  obtain ⟨_, its2, n2, r2, e2⟩ := hB.ok I.hok
  have hl := r.length
  have hl2 := r2.length
  have z1 : its.toArray.size = ys.length := by rw [List.size_toArray, hl]
  have z2 : its2.toArray.size = zs.length := by rw [List.size_toArray, hl2]
  refine call_meets F.slot_list_extend ⟨_, e, rfl⟩ F.entry_list_extend (F.args_list_extend_2 _ _)
    (AutoSeq1.list_extend_list_list_0 l its.toArray n b its2.toArray n2 (by rw [notLongL (by omega), Bool.and_false]; decide) (by omega) (by omega)) ⟨e, e2, ?_⟩
  exact ⟨.non, _, I.lset (its' := its ++ its2) hH e (by simp) (r.append r2) (by rw [List.length_append]; omega), rfl, q⟩
def sExt (i : Nat) (f : En → R PD) : En → Fl := fun ρ => match ρ[i]? with
  | some (.ol ds) => toS ρ (f ρ) fun d => match d with
    | .list es => if ds.length + es.length ≤ big then .nx (ρ.set i (.ol (ds ++ es))) else .bad
    | _ => .bad
  | _ => .bad
theorem ds_ext {apos cpos : Pos} (hx : PE X a (tVar i)) (he : DE X W e f) (hs : swapsWith (.Call (.Attribute a "extend" apos) [e] [] cpos) none pos.line X.env = pure false := by rfl)
    (hbase : attributeBase a "extend" X.env (eval a X.env) = eval a X.env := by rfl)
    (hfew : ((backTo cpos (starEach [e] X.env)).all (fun x => !x.1) && (backToKw cpos (keywordEach [] X.env)).all (fun x => x.1.isSome)
      && decide (([e] : List Expr).length + ([] : List Keyword).length + (if ([] : List Keyword).isEmpty then 0 else 1) < 30)) = true := by rfl)
    (hline : (apos.endLine == cpos.line) = true := by rfl) (hst : starEach [e] X.env = (false, eval e X.env) :: starEach [] X.env := by rfl) (hplain : (backTo cpos (starEach [] X.env)).any (·.1) = false := by rfl) :
    DS X W (.Expr (.Call (.Attribute a "extend" apos) [e] [] cpos) pos) (sExt i f) := by
  obtain ⟨t, pt, qt⟩ := he.ex
  refine ⟨_, ps_expr (pe_bm PySem.F.plainAttrs_list PySem.F.slot_list_extend PySem.F.type_list_extend mt_extP hx (pa_cons pt pa_nil hst) hbase hfew hline hst hplain) hs, fun H0 O0 O ρ σ H D rl o => ?_⟩
  unfold sExt at o
  cases q : ρ[i]? with
  | none => rw [q] at o; exact o.elim
  | some s =>
    rw [q] at o
    cases s with
    | ol ds =>
      obtain ⟨p, vs, e1, m1, m2, m3, m4⟩ := rl.sl i _ q
      refine ⟨_, e1, .inl ⟨rfl, vs, .inl (.inl m3)⟩, ?_⟩
      refine qt H0 O0 O ρ σ H _ rl ((OutS.ofR rl o).imp fun d H1 ex o1 v hv => ?_)
      cases hv with
      | lst k1 k2 =>
        rename_i b ws es
        simp only at o1
        by_cases hz : ds.length + es.length ≤ big
        · rw [if_pos hz] at o1
          have m5 := m4.mono (same_wo (O := O) ex)
          refine ⟨p, b, vs, ws, rfl, rfl, ex _ _ m3, rd_mono wo_self k1, by rw [m4.length, k2.length]; exact big_line hz, ?_⟩
          refine o1 O _ σ ((rl.grow ex).updO q rfl rfl e1 ⟨p, vs ++ ws, rfl, m1, m2, upd_same, ?_⟩)
          rw [wo_upd m1]
          exact m5.append k2
        · rw [if_neg hz] at o1; exact o1.elim
      | _ => exact o1.elim
    | _ => exact o.elim
end

/-! ### enumerate -/
/-- the tuple at a, each item in a new pair with its number -/
def IteT (K : PySem.W.Frag) (a : Addr) : It :=
  ⟨fun i H => ∃ (xs : List V) (x : V), SqT K H a xs ∧ xs[i]? = some x, fun i H v H' => ∃ T x, v = .ref T ∧ H T = none ∧ H' = upd H T (.tup [.int (i : Nat), x]) ∧ ∀ xs, SqT K H a xs → xs[i]? = some x, fun i H => ∃ xs : List V, SqT K H a xs ∧ xs.length ≤ i⟩
theorem enum_draws {P : Program} {w : World} {A : Around} (hh : A.handled = none) {it a : Addr} (hne : a ≠ it) (items : Array Value) : Draws P w A it [it, a] items.size (fun i v => items[i]? = some v) (fun i h => h.IsTupleIter it a i ∧ h.IsTuple a items) := .tuple hh it a hne items
/-- at the end the tuple's iterator tells that it is done -/
theorem enum_at {P : Program} {w : World} {A : Around} (hh : A.handled = none) {it a : Addr} {n : Nat} (items : Array Value) (hn : items[n]? = none) : Draws P w A it [it, a] n (fun _ _ => True) (fun i h => h.IsTupleIter it a i ∧ h.IsTuple a items ∧ n ≤ i) where
  live := fun i h ⟨⟨o, ho, _⟩, _⟩ => ⟨o, ho⟩
  frame := fun i h h' ⟨h1, h2, h3⟩ hk => ⟨h1.at fun o e => hk it List.mem_cons_self o e, h2.at fun o e => hk a (List.mem_cons_of_mem _ List.mem_cons_self) o e, h3⟩
  item := fun i s Q E hi st hQ => absurd hi (Nat.not_lt.mpr st.2.2)
  done := fun s Q E st hE => wpAny_nextOf_tuple_end hh st.1 st.2.1 hn hE
theorem turn_enumT {P : Program} {w : World} {K : PySem.W.Frag} {elts : List Expr} {kk : Nat} {tpos : Pos} (a e it : Addr) :
    Turn P w K (.Tuple elts kk tpos) (IteT K a) [e, it] e (fun i h => (∃ old, IsEnum h e it ((i : Nat) : Int) old) ∧ h.IsTupleIter it a i ∧ e ≠ it ∧ e ≠ a ∧ a ≠ it) where
  mem := List.mem_cons_self
  obj := fun i h ⟨⟨old, he⟩, ⟨o, ho, hc, hd⟩, _⟩ b hb => by
    rcases List.mem_cons.mp hb with z | z
    · rw [z]; exact ⟨_, he, fun v q => nomatch q⟩
    · rw [List.mem_singleton.mp z]; exact ⟨o, ho, fun v q => by rw [hd] at q; cases q⟩
  keep := fun i h h' ⟨⟨old, he⟩, hi, hr⟩ k => ⟨⟨old, k e List.mem_cons_self _ he⟩, hi.at fun o q => k it (List.mem_cons_of_mem _ List.mem_cons_self) o q, hr⟩
  item := fun X hP hw hK hc i pins s σ H E I hf ⟨⟨old, he⟩, hit, hne, hea, hai⟩ hg => by
    subst hP hw hK
    obtain ⟨xs, x, hq, hx⟩ := hg
    obtain ⟨its, rv, p, hz⟩ := I.tuple hq
    obtain ⟨u, hu, ru⟩ := rv.get hx
    have hit2 : i < its.toArray.size := by rw [List.size_toArray]; exact (List.getElem?_eq_some_iff.mp hu).1
    have hel : e < s.heap.objs.size := Heap.lt_size he
    have hil : it < s.heap.objs.size := by obtain ⟨_, q, _⟩ := hit; exact Heap.lt_size q
    refine wpAny_pyNext_enum_itemC (enum_draws (A := X.A.in1) (I.ok.hd hc) hai its.toArray) he ⟨hit, p⟩ hit2 hne (fun z => ?_) fun y h' tk hy ho st' hT hsz hk => ?_
    · rcases List.mem_cons.mp z with z | z
      · exact hne z
      · exact hea (List.mem_singleton.mp z)
    have ey : y = u := by
      have hu2 : its.toArray[i]? = some u := by simpa using hu
      exact Option.some.inj (hy.symm.trans hu2)
    subst ey
    refine ⟨_, rfl, wpAny_letOwnedTupleGo_enum (s := { s with heap := h', toks := tk + 1 }) ho fun h2 he2 sb => ?_⟩
    have hT2 : h2.get? s.heap.objs.size = some { cls := .type "tuple", data := .seq #[.int i tk, y] } := (sb.2 _ (Nat.ne_of_gt hel)).trans hT
    have new : ObjOk X.prog X.w (upd H s.heap.objs.size (.tup [.int (i : Nat), x])) h2 s.heap.objs.size (.tup [.int (i : Nat), x]) :=
      ⟨by show 2 ≤ sizeLine; decide, [.int i tk, y], .cons ⟨_, rfl⟩ (.cons ru .nil), ⟨_, hT2, rfl, _, rfl⟩⟩
    have I1 := I.turnedNew (h' := h2) (t' := tk + 1) (ch := [e, it]) (fun b ob hb q => (sb.2 b (fun z => hb (by rw [z]; exact List.mem_cons_self))).trans (hk b ob (fun z => hb (by rw [z]; exact List.mem_cons_self)) (fun z => hb (by rw [z]; exact List.mem_cons_of_mem _ List.mem_cons_self)) q)) hf (Nat.le_refl _) new
    refine ⟨.ref s.heap.objs.size, _, I1, rfl, ⟨_, x, rfl, I.hok.fresh (Nat.le_refl _), rfl, fun ys hy => by rw [I.tuple_inj hy hq]; exact hx⟩, ⟨⟨y, ?_⟩, st'.1.at fun o q => (sb.2 it (Ne.symm hne)).trans q, hne, hea, hai⟩, fun b hb => ?_⟩
    · have e1 : ((i + 1 : Nat) : Int) = (i : Int) + 1 := by omega
      rw [e1]; exact he2
    · have hlt : b < s.heap.objs.size := by
        rcases List.mem_cons.mp hb with z | z
        · rw [z]; exact hel
        · rw [List.mem_singleton.mp z]; exact hil
      rw [upd_ne (Nat.ne_of_lt hlt)]
      exact (hf b hb).1
  done := fun X hP hw hK hc i pins s σ H E I hf ⟨⟨old, he⟩, hit, hne, hea, hai⟩ hg => by
    subst hP hw hK
    obtain ⟨xs, hq, hx⟩ := hg
    obtain ⟨its, rv, p, hz⟩ := I.tuple hq
    obtain ⟨f0, f1, f2, f3, f4, f5⟩ := hf it (List.mem_cons_of_mem _ List.mem_cons_self)
    have hl := rv.length
    have hn : its.toArray[i]? = none := by rw [List.getElem?_toArray]; exact List.getElem?_eq_none (by omega)
    exact wpAny_pyNext_enum_endD (enum_at (A := X.A.in1) (I.ok.hd hc) (it := it) (a := a) (n := i) its.toArray hn) he ⟨hit, p, Nat.le_refl _⟩ fun h' eb => ⟨rfl, I.turned (t' := s.toks) (fun b ob hb q => eb b ob hb q) f0 f1 f3 f4 f5⟩
  self := fun A i s Q E ⟨⟨_, he⟩, _⟩ h => wpAny_pyIter_enum he h
theorem new_enumB {v : Value} {o : Obj} {G : Heap → Prop} (B : Begins v o G) :
    Meets (Builtin.«enumerate.__new__» ⟨[.type "enumerate", v], []⟩) (fun _ R s => G s.heap ∧
      R (.ok (.ret (.ref (s.heap.push o).objs.size))) { s with heap := (s.heap.push o).push { cls := .type "enumerate", data := .fields #[.none, .bool false, .ref s.heap.objs.size, rawInt 0, .none, .none] } }) :=
  .of_wp fun prog w A R s h => by
    obtain ⟨hp, g, d, tk, os⟩ := s; obtain ⟨h1, h⟩ := h
    have hsub := sub_enumerate
    have q1 : ∀ {A' : Around} {E : Value → Shared → Prop} {Q : Value → Shared → Prop}, Q (.ref hp.objs.size) ⟨hp.push o, g, d, tk, os⟩ → wpAny (model prog w) A' (pyIter v) Q E ⟨hp, g, d, tk, os⟩ :=
      fun q => B.iter prog w _ _ ⟨hp, g, d, tk, os⟩ _ h1 q
    wp_walk using q1
    refine wpAny_stack_any fun st => wpAny_pure ?_
    split
    · rename_i c _ _ _ _ _
      cases (c == Value.type "enumerate")
      all_goals wp_walk using q1
      all_goals exact ⟨_, rfl, h⟩
    · wp_walk using q1
      exact ⟨_, rfl, h⟩
section
variable {prog : Program} {w : World} {A : Around} {E : Value → Shared → Prop} {s : Shared}
theorem enum_made {v : Value} {o : Obj} {G : Heap → Prop} {Q : Value → Shared → Prop} (B : Begins v o G) (h1 : G s.heap)
    (h : ∀ h', IsEnum h' (s.heap.objs.size + 1) s.heap.objs.size 0 .none → h'.get? s.heap.objs.size = some o → h'.objs.size = s.heap.objs.size + 2 →
      (∀ b o, s.heap.get? b = some o → h'.get? b = some o) → Q (.ref (s.heap.objs.size + 1)) { s with heap := h' }) :
    wpAny (model prog w) A (call (.type "enumerate") [v]) Q E s := by
  refine callType_new F.called_enumerate (by decide) (F.typeCall_enumerate_1 _) (F.newCall_enumerate_1 _) (fun obj => F.args_object_init_2 obj _) F.entry_enumerate_new (new_enumB B) ⟨h1, ?_⟩
  have hz : (s.heap.push o).objs.size = s.heap.objs.size + 1 := Heap.size_push ..
  show _ ∧ _
  rw [hz]
  have he : IsEnum ((s.heap.push o).push { cls := .type "enumerate", data := .fields #[.none, .bool false, .ref s.heap.objs.size, rawInt 0, .none, .none] }) (s.heap.objs.size + 1) s.heap.objs.size 0 .none := by
    have := Heap.get?_push_size (s.heap.push o) (o := { cls := .type "enumerate", data := .fields #[.none, .bool false, .ref s.heap.objs.size, rawInt 0, .none, .none] }) rfl
    rw [hz] at this; exact this
  exact ⟨⟨_, he, rfl⟩, h _ he (Heap.get?_push_of_some _ (Heap.get?_push_size _ B.free)) (by rw [Heap.size_push, hz]) fun b o x => Heap.get?_push_of_some _ (Heap.get?_push_of_some _ x)⟩
end
def iEnumA (K : PySem.W.Frag) (ta : TA) : TI := fun σ H R => ta σ H fun vs H1 => ∃ a xs, vs = [.ref a] ∧ ((SqL K H1 a xs ∧ R (Ite K a) H1) ∨ (SqT K H1 a xs ∧ R (IteT K a) H1))
theorem pi_enumA {X : Cx} {e : Expr} {ta : TA} {p pos tpos : Pos} {elts : List Expr} {kk : Nat} (hg : Gl X "enumerate") (hm : X.mg "enumerate" = none) (ha : PA X [e] ta) (hs : starEach [e] X.env = [(false, eval e X.env)] := by rfl) :
    PI X (.Tuple elts kk tpos) (.Call (.Name "enumerate" p) [e] [] pos) (iEnumA X.K ta) := by
  refine ⟨fun pins s σ H R I h => ?_⟩
  refine PyProof.Rows.Call_ (ld_blt I hg hm PyProof.Rows.boot_enumerate (PyProof.Rows.callWith_type1 (thn (ha.run pos pins s σ H _ I h) fun us s1 ⟨vs, H1, I1, r1, q1⟩ => ?_) hs rfl))
  obtain ⟨a, xs, ex, q1⟩ := q1
  subst ex
  cases r1 with
  | cons r rr =>
    cases rr
    cases r
    have fr : ∀ b ∈ [s1.heap.objs.size + 1, s1.heap.objs.size], FpOk X pins H1 b := fun b hb => by
      have hle : s1.heap.objs.size ≤ b := by
        rcases List.mem_cons.mp hb with z | z
        · rw [z]; exact Nat.le_add_right _ _
        · rw [List.mem_singleton.mp z]; exact Nat.le_refl _
      exact I1.fpOk hle (I1.hok.fresh hle)
    rcases q1 with ⟨hq, q⟩ | ⟨hq, q⟩
    · obtain ⟨its, rv, p', hz⟩ := I1.list hq
      refine call_enumerate_list p'.isList fun h' he hit hsz hk => wpAny_pyIter_enum he ?_
      exact ⟨s1.heap.objs.size + 1, [s1.heap.objs.size + 1, s1.heap.objs.size], _, _, H1, rfl, I1.kept (t' := s1.toks) hk, turn_enum a (s1.heap.objs.size + 1) s1.heap.objs.size, ⟨⟨.none, he⟩, hit, Nat.succ_ne_self _⟩, fr, q⟩
    · obtain ⟨its, rv, p', hz⟩ := I1.tuple hq
      obtain ⟨o1, ho1, _⟩ := id p'
      have al : a < s1.heap.objs.size := Heap.lt_size ho1
      refine enum_made (begins_tuple a its.toArray) p' fun h' he hit hsz hk => wpAny_pyIter_enum he ?_
      exact ⟨s1.heap.objs.size + 1, [s1.heap.objs.size + 1, s1.heap.objs.size], _, _, H1, rfl, I1.kept (t' := s1.toks) hk, turn_enumT a (s1.heap.objs.size + 1) s1.heap.objs.size,
        ⟨⟨.none, he⟩, ⟨_, hit, rfl, rfl⟩, Nat.succ_ne_self _, Nat.ne_of_gt (Nat.lt_succ_of_lt al), Nat.ne_of_lt al⟩, fr, q⟩

/-! ### enumerate and zip as sources -/
def enumL : Nat → List PD → List PD
  | _, [] => []
  | i, d :: ds => .tuple [.int (i : Nat), d] :: enumL (i + 1) ds
theorem enumL_get : ∀ (ds : List PD) (i j : Nat), (enumL i ds)[j]? = (ds[j]?).map fun d => .tuple [.int ((i + j : Nat) : Int), d]
  | [], i, j => by simp [enumL]
  | d :: ds, i, 0 => by simp [enumL]
  | d :: ds, i, j + 1 => by
    rw [enumL, List.getElem?_cons_succ, enumL_get ds (i + 1) j, List.getElem?_cons_succ]
    congr 1; funext d; rw [show i + 1 + j = i + (j + 1) by omega]
theorem enumL_len : ∀ (ds : List PD) (i : Nat), (enumL i ds).length = ds.length
  | [], i => rfl
  | d :: ds, i => by rw [enumL, List.length_cons, List.length_cons, enumL_len]
def zipL : List PD → List PD → List PD
  | d :: ds, e :: es => .tuple [d, e] :: zipL ds es
  | _, _ => []
theorem zipL_eq (ds es : List PD) : zipL ds es = List.zipWith (fun d e => .tuple [d, e]) ds es := by
  induction ds generalizing es with
  | nil => cases es <;> rfl
  | cons d ds ih => cases es with
    | nil => rfl
    | cons e es => rw [zipL, List.zipWith_cons_cons, ih]
section
variable {K : PySem.W.Frag} {G : Hp} {a b : Addr} {vs ws : List V} {ds es : List PD}
theorem wo_upd_new {H : Hp} {O : Addr → Prop} {T : Addr} {u : HO} (hO : ¬ O T) : wo (upd H T u) O = upd (wo H O) T u := by
  funext q
  by_cases e : q = T
  · subst e; unfold wo; rw [if_neg hO, upd_same, upd_same]
  · rw [upd_ne e]; unfold wo; rw [upd_ne e]
theorem wk_enum {R : It} (hgo : ∀ i H, Same G H → i < ds.length → R.go i H) (hst : ∀ i H, Same G H → ds.length ≤ i → R.stop i H)
    (hy : ∀ i H x H', Same G H → R.yld i H x H' → ∃ T y, x = .ref T ∧ H T = none ∧ H' = upd H T (.tup [.int (i : Nat), y]) ∧ vs[i]? = some y) (h2 : DqAll K G vs ds) : Wk K R (enumL 0 ds) G where
  go := fun i H e hi => hgo i H e (by rw [enumL_len] at hi; exact hi)
  stop := fun i H e hi => hst i H e (by rw [enumL_len] at hi; exact hi)
  yld := fun i H x H' e q => by
    obtain ⟨T, y, rfl, hT, rfl, hv⟩ := hy i H x H' e q
    refine ⟨Same.updNew hT, fun d hd O eo nO => ?_⟩
    obtain ⟨d', k1, k2⟩ := h2.getV hv
    rw [enumL_get, k1] at hd
    simp only [Option.map_some, Nat.zero_add, Option.some.injEq] at hd
    subst hd
    have hO := nO T hT
    rw [wo_upd_new hO]
    have hn : wo H O T = none := by unfold wo; rw [if_neg hO]; exact hT
    exact .tup (.inl (.inl upd_same)) (.cons (.int _) (.cons ((k2.mono eo).mono (Same.updNew hn)) .nil))
end
section
variable {X : Cx} {W : WX} {e a b : Expr} {f g : En → R PD} {pos p tpos : Pos} {elts : List Expr} {kk : Nat}
def iEnm (f : En → R PD) : En → R (List PD) := fun ρ => (f ρ).bind fun d => (itD d).bind fun ds => .ok (enumL 0 ds)
theorem di_enum (hg : Gl X "enumerate") (hm : X.mg "enumerate" = none) (h : DE X W e f) (h1 : starEach [e] X.env = (false, eval e X.env) :: starEach [] X.env := by rfl) (hs : starEach [e] X.env = [(false, eval e X.env)] := by rfl) :
    DI X W (.Tuple elts kk tpos) (.Call (.Name "enumerate" p) [e] [] pos) (iEnm f) := by
  obtain ⟨t, pt, qt⟩ := h.ex
  refine ⟨_, pi_enumA hg hm (pa_cons pt pa_nil h1) hs, fun H0 O0 O ρ σ H Rr rl o => ?_⟩
  refine qt H0 O0 O ρ σ H _ rl (o.bind.imp fun d H1 e1 o1 v hv => ?_)
  cases hv with
  | lst k1 k2 =>
    rename_i b vs ds
    exact ⟨b, vs, rfl, .inl ⟨.inl (rd_mono wo_self k1), o1 H1 (Same.refl H1) _ (wk_enum (fun i H e hi => ⟨vs, vs[i]'(by rw [k2.length]; exact hi), e.seq (.inl k1), List.getElem?_eq_getElem _⟩)
      (fun i H e hi => ⟨vs, e.seq (.inl k1), by rw [k2.length]; exact hi⟩) (fun i H x H' e ⟨T, y, ex, hT, eH, q⟩ => ⟨T, y, ex, hT, eH, q vs (e.seq (.inl k1))⟩) k2)⟩⟩
  | tup k1 k2 =>
    rename_i b vs ds
    exact ⟨b, vs, rfl, .inr ⟨Same.seqT wo_self k1, o1 H1 (Same.refl H1) _ (wk_enum (fun i H e hi => ⟨vs, vs[i]'(by rw [k2.length]; exact hi), Same.seqT e k1, List.getElem?_eq_getElem _⟩)
      (fun i H e hi => ⟨vs, Same.seqT e k1, by rw [k2.length]; exact hi⟩) (fun i H x H' e ⟨T, y, ex, hT, eH, q⟩ => ⟨T, y, ex, hT, eH, q vs (Same.seqT e k1)⟩) k2)⟩⟩
  | _ => exact o1.elim
end
end DL
namespace DL
open PySem PySem.Spec L2

/-! ### -e -/
def negD (d : PD) : R PD := match d with
  | .int i => .ok (.int (-i))
  | _ => .bad
theorem und_neg {X : Cx} : UnD X (unaryOp .USub) negD :=
  ⟨_, un_neg, fun W O σ H x d Q nf hd o => by
    cases d with
    | int i => cases hd.sc_int; exact ⟨i, rfl, o H (Same.refl H) _ (.int _)⟩
    | _ => exact o.elim⟩

section
variable {X : Cx} {W : WX} {k n : Nat} {f : Addr} {fd : FuncData} {ps : List Str} {F : List PD → R PD} {x : Str} {p pos : Pos} {e : Expr} {es : List Expr} {g : En → R (List PD)}
theorem de_cl (G : FnD X.prog X.w X.K X.mg X.base k f fd ps F) (hr : Room k X.A) (hg : Gl X x) (hm : X.mg x = some (.ref f)) (hk : PySem.W.keepIn X.K (.ref f) = true) (hb : Binds X.K fd ps []) (tk : Takes X W)
    (ha : DC X W (e :: es) g) (hn : ps.length = n := by rfl) (hdb : (x == ("__debug__" : Str)) = false := by decide) (he : starEach (e :: es) X.env = (false, eval e X.env) :: starEach es X.env := by rfl) (hpl : (backTo pos (starEach es X.env)).any (·.1) = false := by rfl) :
    DE X W (.Call (.Name x p) (e :: es) [] pos) (cCall n F g) := hn ▸ de_call G hr hg hm hk hb tk ha hdb he hpl
end
/-- a constant of the module -/
theorem pe_mc {X : Cx} {x : Str} {pos : Pos} {v : V} (hg : Gl X x) (h : ∃ u, X.mg x = some u ∧ RelV v u) (hd : (x == ("__debug__" : Str)) = false := by decide) : PE X (.Name x pos) (tC v) :=
  let ⟨_, e, r⟩ := h
  pe_glob hg e r hd

/-! ### methods of lists that leave them as they are -/
def MtL (X : Cx) (id : String) (F : List PD → List PD → R PD) : Prop :=
  ∃ r, MtR X id r ∧ ∀ W O σ H a vs ds xs es Q, (∀ p, H p = none → ¬ O p) → Rd H a (.lst vs) → Dq X.K H (.ref a) (.list ds) → DqAll X.K (wo H O) vs ds → DqAll X.K (wo H O) xs es → OutP X W O σ H (F ds es) (fun d H' => ∀ v, Dq X.K (wo H' O) v d → Q v H') → r (.ref a) xs H Q
def cMt (F : List PD → List PD → R PD) (f : En → R PD) (g : En → R (List PD)) : En → R PD := fun ρ => (f ρ).bind fun d => match d with
  | .list ds => (g ρ).bind fun es => F ds es
  | _ => .bad
theorem wo_wo {H : Hp} {O : Addr → Prop} : Same (wo H O) H := wo_self
section
variable {X : Cx} {W : WX} {o e : Expr} {es : List Expr} {f : En → R PD} {g : En → R (List PD)} {F : List PD → List PD → R PD} {name : Str} {apos cpos : Pos} {id : String}
theorem de_lm (slot : Slot "list" name id) (hty : typeOf (.builtin id) = pure (.type "method_descriptor")) (hm : MtL X id F) (ho : DV X W o f) (ha : DC X W (e :: es) g)
    (hbase : attributeBase o name X.env (eval o X.env) = eval o X.env := by rfl)
    (hfew : ((backTo cpos (starEach (e :: es) X.env)).all (fun x => !x.1) &&
        (backToKw cpos (keywordEach [] X.env)).all (fun x => x.1.isSome) && decide ((e :: es).length + ([] : List Keyword).length + (if ([] : List Keyword).isEmpty then 0 else 1) < 30)) = true := by rfl)
    (hline : (apos.endLine == cpos.line) = true := by rfl) (hs : starEach (e :: es) X.env = (false, eval e X.env) :: starEach es X.env := by rfl) (hplain : (backTo cpos (starEach es X.env)).any (·.1) = false := by rfl) :
    DE X W (.Call (.Attribute o name apos) (e :: es) [] cpos) (cMt F f g) := by
  obtain ⟨t, pt, qt⟩ := ho.ex
  obtain ⟨u, pu, qu⟩ := ha.ex
  obtain ⟨r, hr, hF⟩ := hm
  refine ⟨_, pe_bm PySem.F.plainAttrs_list slot hty hr pt pu hbase hfew hline hs hplain, fun H0 O0 O ρ σ H Q rl o => ?_⟩
  refine qt H0 O0 O ρ σ H _ rl (o.bind.imp fun d H1 e1 o1 v hv => ?_)
  cases d with
  | list ds =>
    obtain ⟨a, vs, rfl, k1, k2⟩ := hv.list
    refine ⟨.inl ⟨rfl, vs, .inl k1⟩, ?_⟩
    refine qu H0 O0 O ρ σ H1 _ (rl.grow e1) (o1.bind.imp fun es H2 e2 o2 xs hx => ?_)
    have k1' := rd_mono e2 k1
    have r2 := (rl.grow e1).grow e2
    exact hF W O σ H2 a vs ds xs es Q (fun p n => r2.fresh n) k1' (hv.mono e2).dp (k2.mono (same_wo e2)) hx o2
  | _ => exact o1.elim
end
def findI (d : PD) : List PD → Option Nat
  | [] => none
  | x :: xs => if PyData.eqv x d = true then some 0 else (findI d xs).map (· + 1)
theorem findI_some : ∀ (d : PD) (ds : List PD) (j : Nat), findI d ds = some j → ∃ z, ds[j]? = some z ∧ PyData.eqv z d = true ∧ ∀ (m : Nat) (z' : PyData), m < j → ds[m]? = some z' → PyData.eqv z' d = false
  | d, [], j, h => by cases h
  | d, x :: xs, j, h => by
    unfold findI at h
    by_cases e : PyData.eqv x d = true
    · rw [if_pos e] at h; cases h
      exact ⟨x, rfl, e, fun m z' hm => absurd hm (Nat.not_lt_zero _)⟩
    · rw [if_neg e] at h
      cases q : findI d xs with
      | none => rw [q] at h; cases h
      | some i =>
        rw [q] at h; cases h
        obtain ⟨z, h1, h2, h3⟩ := findI_some d xs i q
        refine ⟨z, by simpa using h1, h2, fun m z' hm hz => ?_⟩
        cases m with
        | zero =>
          simp only [List.getElem?_cons_zero, Option.some.injEq] at hz
          subst hz; simpa using e
        | succ m => exact h3 m z' (Nat.lt_of_succ_lt_succ hm) (by simpa using hz)
def indexD (ds es : List PD) : R PD := match es with
  | [d] => chk (SeqAt.shaped (.list ds) && SeqAt.shaped d) (match findI d ds with | some j => .ok (.int (j : Nat)) | none => .bad)
  | _ => .bad
theorem ml_index {X : Cx} (hu : Deep X) : MtL X "list.index" indexD :=
  ⟨_, mt_indexD (Nat.lt_of_le_of_lt (by omega) hu), fun W O σ H a vs ds xs es Q nf k1 kd k2 hx o => by
    unfold indexD at o
    cases hx with
    | cons r t =>
      cases t with
      | cons _ _ => exact o.elim
      | nil =>
        rename_i y d
        obtain ⟨c, o⟩ := OutP.chk o
        rw [Bool.and_eq_true] at c
        cases q : findI d ds with
        | none => rw [q] at o; exact o.elim
        | some j =>
          rw [q] at o
          obtain ⟨z, h1, h2, h3⟩ := findI_some d ds j q
          exact ⟨a, y, d, ds, j, z, rfl, rfl, kd.dp, (r.mono wo_self).dp, c.1, c.2, h1, h2, h3, o H (Same.refl H) _ (.int _)⟩
    | nil => exact o.elim⟩

/-! ### the script -/
def cScr (i : Nat) (n : Int) : En → R (List PD) := fun ρ => match ρ[i]? with
  | some (.sc ns) => .ok (cutL (ns.map PyData.int) none (some n))
  | _ => .bad
theorem cut_map {α β : Type} (f : α → β) (xs : List α) (a b : Option Int) : cutL (xs.map f) a b = (cutL xs a b).map f := by
  unfold cutL
  rw [List.map_take, List.map_drop, List.length_map]
theorem ints_all {K : PySem.W.Frag} {H : Hp} : ∀ ns : List Int, DqAll K H (ns.map V.int) (ns.map PyData.int)
  | [] => .nil
  | _ :: r => .cons (.int _) (ints_all r)
section
variable {X : Cx} {W : WX} {a : Expr} {i : Nat} {n : Int} {j : Nat} {pos p2 p3 : Pos}
theorem df_scr (hx : PE X a (tVar i)) : DF X W (.Subscript a (.Slice none (some (.Constant (.int n) j p3)) none p2) pos) (cScr i n) := by
  refine ⟨_, pe_slice sl_list hx po_none (po_some pe_int), fun H0 O0 O ρ σ H Q rl o => ?_⟩
  unfold cScr at o
  cases q : ρ[i]? with
  | none => rw [q] at o; exact o.elim
  | some s =>
    rw [q] at o
    cases s with
    | sc ns =>
      obtain ⟨b, e1, e2⟩ := rl.sl i _ q
      refine ⟨_, e1, n, rfl, b, ns.map V.int, rfl, Same.seq wo_self e2, fun p np => o H (Same.refl H) p _ _ np ?_ rfl⟩
      unfold cutV
      have := ints_all (K := X.K) (H := wo H O) (cutL ns none (some n))
      rw [cut_map] 
      unfold cutL at this ⊢
      rwa [List.length_map, ← List.map_drop, ← List.map_take]
    | _ => exact o.elim
end
/-- a def whose first argument is the script -/
def spScr (K : PySem.W.Frag) (F : List Int → Int → R PD) : Sp := fun vs H Q E => ∃ O a ns m, (∀ p, O p → H p ≠ none) ∧ vs = [.ref a, .int m] ∧ SqL K (wo H O) a (ns.map V.int) ∧
  match F ns m with
  | .ok d => ∀ v H', Same H H' → Dq K (wo H' O) v d → Q v H'
  | _ => False
def spLaw (K : PySem.W.Frag) (F : List Int → R PD) : Sp := fun vs H Q E => ∃ a ns, vs = [.ref a] ∧ SqL K H a (ns.map V.int) ∧
  match F ns with
  | .ok d => ∀ v H', Same H H' → Dq K H' v d → Q v H'
  | _ => False
theorem wo_noO {H : Hp} : (wo H fun _ => False) = H := by funext b; unfold wo; rw [if_neg (fun h => h)]
theorem scr_rel {K : PySem.W.Frag} {H : Hp} {O : Addr → Prop} {a : Addr} {ns : List Int} {vs : List V} {ds : List PD} {N : List Str} (al : ∀ p, O p → H p ≠ none) (h : SqL K (wo H O) a (ns.map V.int)) (hd : DqAll K (wo H O) vs ds) :
    Rel K H O O H (.sc ns :: (ds.map Sl.va ++ List.replicate (N.length - (ds.length + 1)) .un)) (L2.start N (.ref a :: vs)) := by
  have hl := hd.length
  refine ⟨Same.refl H, fun _ z => z, fun _ z => .inl z, al, by simp [L2.start, hl], fun i s q => ?_, fun i j s s' p hij q q' n1 n2 _ => ?_⟩
  · cases i with
    | zero => cases q; exact ⟨a, rfl, h⟩
    | succ i =>
      rw [List.getElem?_cons_succ] at q
      by_cases hi : i < ds.length
      · rw [List.getElem?_append_left (by simpa using hi), List.getElem?_map] at q
        cases hq : ds[i]? with
        | none => rw [hq] at q; cases q
        | some d =>
          rw [hq] at q; cases q
          obtain ⟨v, h1, h2⟩ := hd.get hq
          refine ⟨v, ?_, h2⟩
          unfold L2.start
          rw [List.map_cons, List.cons_append, List.getElem?_cons_succ, List.getElem?_append_left (by simpa [hl] using hi), List.getElem?_map, h1]
          rfl
      · rw [List.getElem?_append_right (by simpa using hi), List.getElem?_replicate] at q
        split at q
        · cases q; trivial
        · cases q
  · exfalso
    have own : ∀ (i : Nat) (s : Sl), (Sl.sc ns :: (ds.map Sl.va ++ List.replicate (N.length - (ds.length + 1)) .un))[i]? = some s → Sl.own s = false := fun i s q => by
      cases i with
      | zero => cases q; rfl
      | succ i =>
        rw [List.getElem?_cons_succ] at q
        have m := List.mem_of_getElem? q
        rcases List.mem_append.mp m with m | m
        · obtain ⟨d, _, rfl⟩ := List.mem_map.mp m; rfl
        · rw [(List.mem_replicate.mp m).2]; rfl
    rw [own i s q] at n1
    cases n1
section
variable {P : Program} {w : World} {K : PySem.W.Frag} {mg : Str → Option Value} {base : Heap}
theorem fnScr_of {x qual : Str} {st : Stmt} {f : Addr} {fd : FuncData} {N ps : List Str} {k : Nat} {g : En → Fl} (F : Fun K x qual st f fd) (S : FnScope N ps (defScope st)) (hps : ps.length = 2)
    (hbody : ∀ (cdv : Value) (A : Around) (outer : List PySem.Env) (s : Shared) (H : Hp) (E : XK), Room k (A.deeper (PyProof.Rows.envOfC qual (defScope st) s.heap.objs.size f cdv)) →
      DSs (cxOf (L2.CX P w) P w K mg base N qual (defScope st) f cdv A outer s H E) (WofE E) (defBody st) g) :
    FnOk P w K mg base (L2.CX P w) (k + 1) f fd ps (spScr K fun ns m => fin (g (.sc ns :: .va (.int m) :: List.replicate (N.length - 2) .un))) := by
  refine F.okX S (fun vs H Q E h => ?_) (fun cdv A outer s H vs Q E hr h => ?_)
  · obtain ⟨_, _, _, _, _, rfl, _⟩ := h; exact hps.symm
  · obtain ⟨O, a, ns, m, al, rfl, hS, o⟩ := h
    obtain ⟨t, pt, qt⟩ := (hbody cdv A outer s H E hr).ex
    refine ⟨t, pt, qt H O O _ _ H _ (scr_rel (vs := [.int m]) (ds := [.int m]) al hS (.one (.int m))) ?_⟩
    show OutS K mg (WofE E) H O _ (g (.sc ns :: .va (.int m) :: List.replicate (N.length - 2) .un))
    have o : (match fin (g (.sc ns :: .va (.int m) :: List.replicate (N.length - 2) .un)) with
      | .ok d => ∀ v H', Same H H' → Dq K (wo H' O) v d → Q v H'
      | _ => False) := o
    cases q : g (.sc ns :: .va (.int m) :: List.replicate (N.length - 2) .un) with
    | nx ρ => rw [q] at o; exact fun O' H' σ' r => o .non H' r.fr .non
    | rt d => rw [q] at o; exact fun v H' e hv => o v H' e hv
    | bk ρ => rw [q] at o; exact o.elim
    | ct ρ => rw [q] at o; exact o.elim
    | ex c pl ρ => rw [q] at o; exact o.elim
    | bad => rw [q] at o; exact o.elim
theorem fnLaw_of {x qual : Str} {st : Stmt} {f : Addr} {fd : FuncData} {N ps : List Str} {k : Nat} {g : En → Fl} (F : Fun K x qual st f fd) (S : FnScope N ps (defScope st)) (hps : ps.length = 1)
    (hbody : ∀ (cdv : Value) (A : Around) (outer : List PySem.Env) (s : Shared) (H : Hp) (E : XK), Room k (A.deeper (PyProof.Rows.envOfC qual (defScope st) s.heap.objs.size f cdv)) →
      DSs (cxOf (L2.CX P w) P w K mg base N qual (defScope st) f cdv A outer s H E) (WofE E) (defBody st) g) :
    FnOk P w K mg base (L2.CX P w) (k + 1) f fd ps (spLaw K fun ns => fin (g (.sc ns :: List.replicate (N.length - 1) .un))) := by
  refine F.okX S (fun vs H Q E h => ?_) (fun cdv A outer s H vs Q E hr h => ?_)
  · obtain ⟨_, _, rfl, _⟩ := h; exact hps.symm
  · obtain ⟨a, ns, rfl, hS, o⟩ := h
    obtain ⟨t, pt, qt⟩ := (hbody cdv A outer s H E hr).ex
    have hS' : SqL K (wo H fun _ => False) a (ns.map V.int) := by rw [wo_noO]; exact hS
    refine ⟨t, pt, qt H _ _ _ _ H _ (scr_rel (vs := []) (ds := []) (fun p z => z.elim) hS' .nil) ?_⟩
    show OutS K mg (WofE E) H (fun _ => False) _ (g (.sc ns :: List.replicate (N.length - 1) .un))
    have o : (match fin (g (.sc ns :: List.replicate (N.length - 1) .un)) with
      | .ok d => ∀ v H', Same H H' → Dq K H' v d → Q v H'
      | _ => False) := o
    cases q : g (.sc ns :: List.replicate (N.length - 1) .un) with
    | nx ρ => rw [q] at o; exact fun O' H' σ' r => o .non H' r.fr .non
    | rt d => rw [q] at o; exact fun v H' e hv => o v H' e (by rwa [wo_noO] at hv)
    | bk ρ => rw [q] at o; exact o.elim
    | ct ρ => rw [q] at o; exact o.elim
    | ex c pl ρ => rw [q] at o; exact o.elim
    | bad => rw [q] at o; exact o.elim
end
def cDr (F : List Int → Int → R PD) (i : Nat) (m : Int) : En → R PD := fun ρ => match ρ[i]? with
  | some (.sc ns) => match F ns m with
    | .ok d => .ok d
    | _ => .bad
  | _ => .bad
section
variable {X : Cx} {W : WX} {k : Nat} {f : Addr} {fd : FuncData} {ps : List Str} {F : List Int → Int → R PD} {x : Str} {p p2 pos : Pos} {a : Expr} {i j : Nat} {m : Int}
theorem de_dr (G : FnOk X.prog X.w X.K X.mg X.base (L2.CX X.prog X.w) k f fd ps (spScr X.K F)) (hr : Room k X.A) (hg : Gl X x) (hm : X.mg x = some (.ref f)) (hk : PySem.W.keepIn X.K (.ref f) = true) (hb : Binds X.K fd ps []) (tk : Takes X W)
    (hx : PE X a (tVar i)) (hdb : (x == ("__debug__" : Str)) = false := by decide) (he : starEach [a, .Constant (.int m) j p2] X.env = (false, eval a X.env) :: starEach [.Constant (.int m) j p2] X.env := by rfl)
    (he2 : starEach [.Constant (.int m) j p2] X.env = (false, eval (.Constant (.int m) j p2) X.env) :: starEach [] X.env := by rfl) (hpl : (backTo pos (starEach [.Constant (.int m) j p2] X.env)).any (·.1) = false := by rfl) :
    DE X W (.Call (.Name x p) [a, .Constant (.int m) j p2] [] pos) (cDr F i m) := by
  refine ⟨_, pe_callS (E := WE W) G hr hg hm hk hb (fun σ => passAt tk σ) (pa_cons hx (pa_cons pe_int pa_nil he2) he) hdb he hpl, fun H0 O0 O ρ σ H Q rl o => ?_⟩
  unfold cDr at o
  cases q : ρ[i]? with
  | none => rw [q] at o; exact o.elim
  | some s =>
    rw [q] at o
    cases s with
    | sc ns =>
      obtain ⟨b, e1, e2⟩ := rl.sl i _ q
      refine ⟨_, e1, O, b, ns, m, rl.al, rfl, e2, ?_⟩
      cases r : F ns m with
      | ok d => simp only [r] at o; exact fun v H' e' hd => o H' e' v hd
      | ex c pl => simp only [r] at o; exact o.elim
      | bad => simp only [r] at o; exact o.elim
    | _ => exact o.elim
end

/-! ### the law's own end -/
theorem exm_by {K : PySem.W.Frag} {t : Value} {S : Addr} {b : Bool} (h1 : PySem.W.subIn K (.ref S) (.type "BaseException") = some true) (h2 : PySem.W.isClsIn K S = true) (h3 : PySem.W.typeIn K (.ref S) = some (.type "type")) (h4 : PySem.W.subIn K t (.ref S) = some b) :
    PySem.W.exmOne K t (.ref S) = some b := by
  have e2 : (PySem.W.clsIn K S).isSome = true := h2
  unfold PySem.W.exmOne PySem.W.kitCls
  rw [h1, if_pos (beq_self_eq_true _)]
  simp only [e2, h3, Bool.true_and, beq_self_eq_true, if_true]
  exact h4
theorem apart_go {K : PySem.W.Frag} {mg : Str → Option Value} {c c' : Str} {C C' D D' : Addr} (g : mg c = some (.ref C)) (g' : mg c' = some (.ref C')) (h : mg c = some (.ref D)) (h' : mg c' = some (.ref D')) (e : PySem.W.exmOne K (.ref C) (.ref C') = some (c == c')) : PySem.W.exmOne K (.ref D) (.ref D') = some (c == c') := by
  cases g.symm.trans h
  cases g'.symm.trans h'
  exact e
theorem walk_law {l : PySem.W.OpenLaw} {k : Nat} {q : Program} {loose : List Str} {XP : (Str → Option Value) → Heap → Prop} {YP : World → Heap → Prop} {d : DefRec} {K : Params → PySem.W.Frag} {F : List Int → R PD} (hn : l.most = some 63) (hdf : d.params.defaults = []) (hr : Room k callerA)
    (hY : ∀ (w : World) (h : Heap), YP w h → (K w.params).In h) (hF : ∀ ns : List Int, ns.length ≤ 63 → F ns = .ok (.bool true))
    (Fk : ∀ (w : World) (mg : Str → Option Value) (fa : Addr) (h : Heap), (K w.params).In h → h.Ns mainGlobals mg → mg d.name = some (.ref fa) →
      ∃ fd : FuncData, (∀ (s : Shared) (u : Value), BindsTo s fd ⟨[u], []⟩ [("script", u)]) ∧ ∀ base : Heap, (K w.params).In base → base.Ns mainGlobals mg → FnOk l.prog w (K w.params) mg base (L2.CX l.prog w) k fa fd ["script"] (spLaw (K w.params) F)) :
    PySem.W.WalkO q loose XP YP l.row.toRowW d [] (fun f vs => PySem.call f vs) :=
  L2.walk_of (n := 63) (k := k) (x := "script") (CX := fun w => L2.CX l.prog w) (sp := fun w => spLaw (K w.params) F) hn (by decide) hdf hr hY Fk (fun w H a ns hl _ hS => ⟨a, ns, rfl, hS, by rw [hF ns hl]; exact fun v H' e hv => hv.sc_bl⟩)
    fun w H s e s' h => by obtain ⟨_, _, _, _, _, _, _, _, _, _, _, _, z⟩ := h; exact z
end DL
namespace DL
open PySem PySem.Spec L2

/-! ### constants of the module, tuples too -/
def McD (K : PySem.W.Frag) (mg : Str → Option Value) (x : Str) (d : PD) : Prop := ∃ v u, mg x = some u ∧ RelV v u ∧ ∀ H, Dq K H v d
section
variable {X : Cx} {W : WX} {x : Str} {d : PD} {pos : Pos}
theorem de_mc (h : McD X.K X.mg x d) (hg : Gl X x) (hd : (x == ("__debug__" : Str)) = false := by decide) : DE X W (.Name x pos) (cK d) := by
  obtain ⟨v, u, e, r, q⟩ := h
  exact ⟨_, pe_glob hg e r hd, fun H0 O0 O ρ σ H Q rl o => o H (Same.refl H) v (q _)⟩
end
section
variable {K : PySem.W.Frag} {mg : Str → Option Value} {x : Str}
theorem mc_int {n : Int} {t : Tok} (h : mg x = some (.int n t)) : McD K mg x (.int n) := ⟨.int n, _, h, ⟨_, rfl⟩, fun H => .int n⟩
theorem mc_str {n : Str} {t : Tok} (h : mg x = some (.str n t)) : McD K mg x (.str n) := ⟨.str n, _, h, ⟨_, rfl⟩, fun H => .str n⟩
/-- flat items -/
inductive FlatAre : List Value → List PD → Prop
  | nil : FlatAre [] []
  | int {n : Int} {t : Tok} {us : List Value} {ds : List PD} (r : FlatAre us ds) : FlatAre (.int n t :: us) (.int n :: ds)
  | str {n : Str} {t : Tok} {us : List Value} {ds : List PD} (r : FlatAre us ds) : FlatAre (.str n t :: us) (.str n :: ds)
theorem FlatAre.vals {H : Hp} : ∀ {us : List Value} {ds : List PD}, FlatAre us ds → ∃ vs, Vals vs us ∧ DqAll K H vs ds
  | _, _, .nil => ⟨[], .nil, .nil⟩
  | _, _, .int (n := n) r => let ⟨vs, a, b⟩ := FlatAre.vals (H := H) r; ⟨.int n :: vs, .cons ⟨_, rfl⟩ a, .cons (.int _) b⟩
  | _, _, .str (n := n) r => let ⟨vs, a, b⟩ := FlatAre.vals (H := H) r; ⟨.str n :: vs, .cons ⟨_, rfl⟩ a, .cons (.str _) b⟩
theorem mc_tup {a : Addr} {od : Option Addr} {us : Array Value} {n : Nat} {sl : Array (Option Value)} {ds : List PD} (h : mg x = some (.ref a)) (l : K.lookup a = some ⟨.type "tuple", od, .seq us n, sl⟩) (hf : FlatAre us.toList ds) (hs : us.size ≤ sizeLine) : McD K mg x (.tuple ds) :=
  ⟨.ref a, _, h, rfl, fun H => by
    obtain ⟨vs, v1, v2⟩ := hf.vals (K := K) (H := H)
    exact .tup (.inr ⟨_, us, n, l, rfl, rfl, hs, v1⟩) v2⟩
end

/-! ### zip -/
theorem zipL_get : ∀ (ds es : List PD) (j : Nat) (d : PD), (zipL ds es)[j]? = some d → ∃ a b, ds[j]? = some a ∧ es[j]? = some b ∧ d = .tuple [a, b]
  | [], es, j, d, h => by simp [zipL] at h
  | _ :: _, [], j, d, h => by simp [zipL] at h
  | a :: ds, b :: es, 0, d, h => by simp [zipL] at h; exact ⟨a, b, rfl, rfl, h.symm⟩
  | a :: ds, b :: es, j + 1, d, h => by simp [zipL] at h; simpa using zipL_get ds es j d h
theorem zipL_len : ∀ (ds es : List PD), (zipL ds es).length = min ds.length es.length
  | [], es => by simp [zipL]
  | _ :: _, [] => by simp [zipL]
  | a :: ds, b :: es => by simp [zipL, zipL_len ds es]
section
variable {K : PySem.W.Frag} {G : Hp} {a b : Addr} {vs ws : List V} {ds es : List PD}
theorem wk_zip {R : It} (h1 : DqAll K G vs ds) (h2 : DqAll K G ws es) (hgo : ∀ i H, Same G H → i < ds.length → i < es.length → R.go i H) (hst : ∀ i H, Same G H → (ds.length ≤ i ∨ es.length ≤ i) → R.stop i H)
    (hy : ∀ i H x H', Same G H → R.yld i H x H' → ∃ T y z, x = .ref T ∧ H T = none ∧ H' = upd H T (.tup [y, z]) ∧ vs[i]? = some y ∧ ws[i]? = some z) : Wk K R (zipL ds es) G where
  go := fun i H e hi => by rw [zipL_len] at hi; exact hgo i H e (by omega) (by omega)
  stop := fun i H e hi => by rw [zipL_len] at hi; exact hst i H e (by omega)
  yld := fun i H x H' e q => by
    obtain ⟨T, y, z, rfl, hT, rfl, hv, hw⟩ := hy i H x H' e q
    refine ⟨Same.updNew hT, fun d hd O eo nO => ?_⟩
    obtain ⟨d1, d2, k1, k2, rfl⟩ := zipL_get _ _ _ _ hd
    obtain ⟨e1, l1, l2⟩ := h1.getV hv
    obtain ⟨e2, m1, m2⟩ := h2.getV hw
    rw [k1] at l1; cases l1
    rw [k2] at m1; cases m1
    have hO := nO T hT
    rw [wo_upd_new hO]
    have hn : wo H O T = none := by unfold wo; rw [if_neg hO]; exact hT
    exact .tup (.inl (.inl upd_same)) (.cons ((l2.mono eo).mono (Same.updNew hn)) (.cons ((m2.mono eo).mono (Same.updNew hn)) .nil))
end
def zpD (d e : PD) : R (List PD) := match d, e with
  | .list ds, .list es => .ok (zipL ds es)
  | .tuple ds, .tuple es => .ok (zipL ds es)
  | _, _ => .bad
def iZp (f g : En → R PD) : En → R (List PD) := fun ρ => (f ρ).bind fun d => (g ρ).bind fun e => zpD d e
section
variable {X : Cx} {W : WX} {e e2 : Expr} {f g : En → R PD} {pos p tpos : Pos} {elts : List Expr} {kk : Nat}
theorem di_zip (hg : Gl X "zip") (hm : X.mg "zip" = none) (h : DE X W e f) (h' : DE X W e2 g) (h1 : starEach [e, e2] X.env = (false, eval e X.env) :: starEach [e2] X.env := by rfl) (h2 : starEach [e2] X.env = (false, eval e2 X.env) :: starEach [] X.env := by rfl) (hpl : (backTo pos (starEach [e2] X.env)).any (·.1) = false := by rfl) :
    DI X W (.Tuple elts kk tpos) (.Call (.Name "zip" p) [e, e2] [] pos) (iZp f g) := by
  obtain ⟨t, pt, qt⟩ := h.ex
  obtain ⟨u, pu, qu⟩ := h'.ex
  refine ⟨_, RZ.pi_zipA hg hm (pa_cons pt (pa_cons pu pa_nil h2) h1) h1 hpl, fun H0 O0 O ρ σ H Rr rl o => ?_⟩
  refine qt H0 O0 O ρ σ H _ rl (o.bind.imp fun d H1 e1 o1 v hv => ?_)
  refine qu H0 O0 O ρ σ H1 _ (rl.grow e1) (o1.bind.imp fun d' H2 e2 o2 v' hv' => ?_)
  have hv := hv.mono (same_wo e2)
  cases hv with
  | lst k1 k2 =>
    cases hv' with
    | lst m1 m2 =>
      rename_i b1 vs ds b2 ws es
      exact ⟨b1, b2, vs, ws, rfl, .inl ⟨.inl (rd_mono wo_self k1), .inl (rd_mono wo_self m1), o2 H2 (Same.refl H2) _ (wk_zip k2 m2 (fun i H e hi hj => ⟨vs, ws, vs[i]'(by rw [k2.length]; exact hi), ws[i]'(by rw [m2.length]; exact hj), e.seq (.inl k1), e.seq (.inl m1), List.getElem?_eq_getElem _, List.getElem?_eq_getElem _⟩)
        (fun i H e hi => ⟨vs, ws, e.seq (.inl k1), e.seq (.inl m1), by rw [k2.length, m2.length]; exact hi⟩) (fun i H x H' e ⟨T, y, z, ex, hT, eH, q1, q2⟩ => ⟨T, y, z, ex, hT, eH, q1 vs (e.seq (.inl k1)), q2 ws (e.seq (.inl m1))⟩))⟩⟩
    | _ => exact o2.elim
  | tup k1 k2 =>
    cases hv' with
    | tup m1 m2 =>
      rename_i b1 vs ds b2 ws es
      exact ⟨b1, b2, vs, ws, rfl, .inr ⟨Same.seqT wo_self k1, Same.seqT wo_self m1, o2 H2 (Same.refl H2) _ (wk_zip k2 m2 (fun i H e hi hj => ⟨vs, ws, vs[i]'(by rw [k2.length]; exact hi), ws[i]'(by rw [m2.length]; exact hj), Same.seqT e k1, Same.seqT e m1, List.getElem?_eq_getElem _, List.getElem?_eq_getElem _⟩)
        (fun i H e hi => ⟨vs, ws, Same.seqT e k1, Same.seqT e m1, by rw [k2.length, m2.length]; exact hi⟩) (fun i H x H' e ⟨T, y, z, ex, hT, eH, q1, q2⟩ => ⟨T, y, z, ex, hT, eH, q1 vs (Same.seqT e k1), q2 ws (Same.seqT e m1)⟩))⟩⟩
    | _ => exact o2.elim
  | _ => cases hv' <;> exact o2.elim
end

/-! ### list(range(..)), tuple(range(..)) -/
structure DRg (X : Cx) (W : WX) (e : Expr) (f : En → R (Int × Int)) : Prop where
  ex : ∃ t, PRg X e t ∧ ∀ H0 O0 O ρ σ H (Q : Int → Int → Hp → Prop), Rel X.K H0 O0 O H ρ σ → OutP X W O σ H (f ρ) (fun d H' => Q d.1 d.2 H') → t σ H Q
def rgI1 (d : PD) : R (Int × Int) := match d with
  | .int n => .ok (0, n)
  | _ => .bad
def rgI2 (d e : PD) : R (Int × Int) := match d, e with
  | .int m, .int n => .ok (m, n)
  | _, _ => .bad
def xR1 (f : En → R PD) : En → R (Int × Int) := fun ρ => (f ρ).bind rgI1
def xR2 (f g : En → R PD) : En → R (Int × Int) := fun ρ => (f ρ).bind fun d => (g ρ).bind fun e => rgI2 d e
def rgOk (d : Int × Int) : Bool := decide (-1000000000000000 ≤ d.1 ∧ d.1 ≤ 1000000000000000 ∧ -1000000000000000 ≤ d.2 ∧ d.2 ≤ 1000000000000000 ∧ (d.2 - d.1).toNat ≤ big)
theorem rgOk_of {d : Int × Int} (h : rgOk d = true) : L2.RgOk d.1 d.2 := by
  have c := of_decide_eq_true h
  unfold big at c
  exact ⟨by omega, by omega, by omega, by omega, by omega⟩
def cRgL (f : En → R (Int × Int)) : En → R (List PD) := fun ρ => (f ρ).bind fun d => chk (rgOk d) (.ok (rangeL d.1 (d.2 - d.1).toNat))
def cRgT (f : En → R (Int × Int)) : En → R PD := fun ρ => (f ρ).bind fun d => chk (rgOk d) (.ok (.tuple (rangeL d.1 (d.2 - d.1).toNat)))
theorem rg_all {K : PySem.W.Frag} {H : Hp} (a : Int) : ∀ l : List Nat, DqAll K H (l.map fun (i : Nat) => V.int (a + (i : Nat))) (l.map fun (i : Nat) => PyData.int (a + (i : Int)))
  | [] => .nil
  | _ :: r => .cons (.int _) (rg_all a r)
section
variable {X : Cx} {W : WX} {a b e : Expr} {f g : En → R PD} {h : En → R (Int × Int)} {pos p : Pos}
theorem drg_1 (hg : Gl X "range") (hm : X.mg "range" = none) (ha : DE X W a f) (na : starEach [a] X.env = (false, eval a X.env) :: starEach [] X.env := by rfl) : DRg X W (.Call (.Name "range" p) [a] [] pos) (xR1 f) := by
  obtain ⟨t, pt, qt⟩ := ha.ex
  refine ⟨_, prg_1 hg hm pt na, fun H0 O0 O ρ σ H Q rl o => ?_⟩
  refine qt H0 O0 O ρ σ H _ rl (o.bind.imp fun d H1 e1 o1 v hv => ?_)
  cases d with
  | int n => cases hv.sc_int; exact ⟨n, rfl, o1 H1 (Same.refl H1)⟩
  | _ => exact o1.elim
theorem drg_2 (hg : Gl X "range") (hm : X.mg "range" = none) (ha : DE X W a f) (hb : DE X W b g) (na : starEach [a, b] X.env = (false, eval a X.env) :: starEach [b] X.env := by rfl)
    (nb : starEach [b] X.env = (false, eval b X.env) :: starEach [] X.env := by rfl) (hp : (backTo pos (starEach [b] X.env)).any (·.1) = false := by rfl) : DRg X W (.Call (.Name "range" p) [a, b] [] pos) (xR2 f g) := by
  obtain ⟨t, pt, qt⟩ := ha.ex
  obtain ⟨u, pu, qu⟩ := hb.ex
  refine ⟨_, prg_2 hg hm pt pu na nb hp, fun H0 O0 O ρ σ H Q rl o => ?_⟩
  refine qt H0 O0 O ρ σ H _ rl (o.bind.imp fun d H1 e1 o1 v hv => ?_)
  refine qu H0 O0 O ρ σ H1 _ (rl.grow e1) (o1.bind.imp fun d' H2 e2 o2 v' hv' => ?_)
  cases d with
  | int m =>
    cases d' with
    | int n => cases hv.sc_int; cases hv'.sc_int; exact ⟨m, n, rfl, rfl, o2 H2 (Same.refl H2)⟩
    | _ => exact o2.elim
  | _ => cases d' <;> exact o2.elim
theorem df_rgL (hc : X.calm = true) (hg : Gl X "list") (hm : X.mg "list" = none) (he : DRg X W e h) (na : starEach [e] X.env = (false, eval e X.env) :: starEach [] X.env := by rfl) : DF X W (.Call (.Name "list" p) [e] [] pos) (cRgL h) := by
  obtain ⟨t, pt, qt⟩ := he.ex
  refine ⟨_, pe_listRg hc hg hm pt na, fun H0 O0 O ρ σ H Q rl o => ?_⟩
  refine qt H0 O0 O ρ σ H _ rl (o.bind.imp fun d H1 e1 o1 => ?_)
  obtain ⟨c, o1⟩ := OutP.chk o1
  exact ⟨rgOk_of c, fun q nq => o1 H1 (Same.refl H1) q _ _ nq (rg_all d.1 _) rfl⟩
theorem de_rgT (hc : X.calm = true) (hg : Gl X "tuple") (hm : X.mg "tuple" = none) (he : DRg X W e h) (na : starEach [e] X.env = (false, eval e X.env) :: starEach [] X.env := by rfl) : DE X W (.Call (.Name "tuple" p) [e] [] pos) (cRgT h) := by
  obtain ⟨t, pt, qt⟩ := he.ex
  refine ⟨_, pe_tupRg hc hg hm pt na, fun H0 O0 O ρ σ H Q rl o => ?_⟩
  refine qt H0 O0 O ρ σ H _ rl (o.bind.imp fun d H1 e1 o1 => ?_)
  obtain ⟨c, o1⟩ := OutP.chk o1
  exact ⟨rgOk_of c, fun q nq => o1 _ (Same.updNew nq) _ (.tup (.inl (.inl (wo_new ((rl.grow e1).fresh nq)))) (all_grow nq (rg_all d.1 _)))⟩
end

/-! ### x += e, x -= e, of ints -/
def IpD (X : Cx) (op : Operator) (F : PD → PD → R PD) : Prop :=
  ∃ r, PIp X op r ∧ ∀ W O σ H x y d e Q, (∀ p, H p = none → ¬ O p) → Dq X.K (wo H O) x d → Dt X.K O H y e → OutP X W O σ H (F d e) (fun d H' => ∀ v, Dq X.K (wo H' O) v d → Q v H') → r x y H Q
def sAug (i : Nat) (F : PD → PD → R PD) (f : En → R PD) : En → Fl := fun ρ => match ρ[i]? with
  | some (.va d) => toS ρ (f ρ) fun e => toS ρ (F d e) fun z => .nx (ρ.set i (.va z))
  | _ => .bad
def iaddD (d e : PD) : R PD := match d, e with
  | .int i, .int j => .ok (.int (i + j))
  | _, _ => .bad
def isubD (d e : PD) : R PD := match d, e with
  | .int i, .int j => .ok (.int (i - j))
  | _, _ => .bad
section
variable {X : Cx} {W : WX} {e : Expr} {f : En → R PD} {i : Nat} {x : Str} {pos pos' : Pos} {op : Operator} {F : PD → PD → R PD}
theorem ipd_add : IpD X .Add iaddD := ⟨_, ip_add, fun W O σ H x y d e Q nO hx hy o => by
  cases d with
  | int i =>
    cases e with
    | int j => cases hx.sc_int; cases hy.sc_int; exact ⟨i, j, rfl, rfl, o H (Same.refl H) _ (.int _)⟩
    | _ => exact o.elim
  | _ => cases e <;> exact o.elim⟩
theorem ipd_sub : IpD X .Sub isubD := ⟨_, ip_sub, fun W O σ H x y d e Q nO hx hy o => by
  cases d with
  | int i =>
    cases e with
    | int j => cases hx.sc_int; cases hy.sc_int; exact ⟨i, j, rfl, rfl, o H (Same.refl H) _ (.int _)⟩
    | _ => exact o.elim
  | _ => cases e <;> exact o.elim⟩
theorem ds_aug (ho : IpD X op F) (hN : X.N.Nodup) (hi : X.N[i]? = some x) (hx : Loc X.env.scope x) (he : DV X W e f) (hf : X.fn x = true ∨ X.env.scope.names.lookup x = some .local := by first | exact .inl rfl | exact .inr rfl | assumption) :
    DS X W (.AugAssign (.Name x pos') op e pos) (sAug i F f) := by
  obtain ⟨t, pt, qt⟩ := he.ex
  obtain ⟨r, p1, p2⟩ := ho
  refine ⟨_, ps_aug hN hi hx pt p1 hf, fun H0 O0 O ρ σ H D rl o => ?_⟩
  unfold sAug at o
  cases q : ρ[i]? with
  | none => rw [q] at o; exact o.elim
  | some s =>
    rw [q] at o
    cases s with
    | va d =>
      obtain ⟨v, e1, e2⟩ := rl.sl i _ q
      refine ⟨v, e1, qt H0 O0 O ρ σ H _ rl ((OutS.ofR rl o).imp fun d' H1 ex o1 y hy => ?_)⟩
      have r1 := rl.grow ex
      refine p2 W O σ H1 v y d d' _ (fun p n => r1.fresh n) (e2.mono (same_wo ex)) hy ((OutS.ofR r1 o1).imp fun z H2 ex2 o2 w hw => ?_)
      exact o2 O H2 _ ((r1.grow ex2).setV hw i)
    | _ => exact o.elim
end
end DL
namespace DL
open PySem PySem.Spec L2

/-! ### a, b, c = x, y, z -/
def sPar3 (i j l : Nat) (f g h : En → R PD) : En → Fl := fun ρ => toS ρ (f ρ) fun d => toS ρ (g ρ) fun d' => toS ρ (h ρ) fun d'' => .nx (((ρ.set i (.va d)).set j (.va d')).set l (.va d''))
section
variable {X : Cx} {W : WX} {x y z : Str} {i j l : Nat} {a b c : Expr} {f g h : En → R PD} {px py pz pt pos : Pos} {kt k2 : Nat} {pt2 : Pos}
theorem ds_par3 (hc : X.calm = true) (hN : X.N.Nodup) (hi : X.N[i]? = some x) (hj : X.N[j]? = some y) (hl : X.N[l]? = some z) (hij : i ≠ j) (hil : i ≠ l) (hjl : j ≠ l)
    (hx : X.env.scope.names.lookup x = some .local) (hy : X.env.scope.names.lookup y = some .local) (hz : X.env.scope.names.lookup z = some .local) (ha : DE X W a f) (hb : DE X W b g) (hd : DE X W c h)
    (hw : swappedStores [.Tuple [.Name x px, .Name y py, .Name z pz] kt pt] (.Tuple [a, b, c] k2 pt2) X.env = pure (some [x, y, z]))
    (hs : swapsWithSole [.Tuple [.Name x px, .Name y py, .Name z pz] kt pt] (.Tuple [a, b, c] k2 pt2) pos.line X.env = pure false := by rfl)
    (h1 : starEach [a, b, c] X.env = (false, eval a X.env) :: starEach [b, c] X.env := by rfl) (h2 : starEach [b, c] X.env = (false, eval b X.env) :: starEach [c] X.env := by rfl) (h3 : starEach [c] X.env = (false, eval c X.env) :: starEach [] X.env := by rfl) :
    DS X W (.Assign [.Tuple [.Name x px, .Name y py, .Name z pz] kt pt] (.Tuple [a, b, c] k2 pt2) pos) (sPar3 i j l f g h) := by
  obtain ⟨t, pt, qt⟩ := ha.ex
  obtain ⟨u, pu, qu⟩ := hb.ex
  obtain ⟨w, pw, qw⟩ := hd.ex
  refine ⟨_, ps_par3 hc hN hi hj hl hij hil hjl hx hy hz (pa_cons pt (pa_cons pu (pa_cons pw pa_nil h3) h2) h1) hw hs, fun H0 O0 O ρ σ H D rl o => ?_⟩
  refine qt H0 O0 O ρ σ H _ rl ((OutS.ofR rl o).imp fun d H1 e1 o1 v hv => ?_)
  refine qu H0 O0 O ρ σ H1 _ (rl.grow e1) ((OutS.ofR (rl.grow e1) o1).imp fun d' H2 e2 o2 v' hv' => ?_)
  have r2 := (rl.grow e1).grow e2
  refine qw H0 O0 O ρ σ H2 _ r2 ((OutS.ofR r2 o2).imp fun d'' H3 e3 o3 v'' hv'' => ?_)
  have e13 := e2.trans e3
  refine ⟨v, v', v'', rfl, ?_⟩
  have k := o3 O H3 _ ((((r2.grow e3).setV (hv.mono (same_wo e13)) i).setV (hv'.mono (same_wo e3)) j).setV hv'' l)
  first
    | exact k
    | (have c1 : ∀ (σ : L2.St) (a b c : Option V), ((σ.set i a).set j b).set l c = ((σ.set l c).set j b).set i a := fun σ a b c => by
        rw [List.set_comm _ _ hij, List.set_comm _ _ hil, List.set_comm _ _ hjl]
       rw [← c1]; exact k)
end

/-! ### the turns that a while loop may take: enough, and no more is known -/
theorem fuel_is : ∃ n : Nat, 1000000000 ≤ n := ⟨1000000000, Nat.le_refl _⟩
noncomputable def fuel : Nat := Classical.choose fuel_is
theorem fuel_ge : 1000000000 ≤ fuel := Classical.choose_spec fuel_is
theorem whL_mono {p : En → R Bool} {g : En → Fl} : ∀ (n m : Nat) (ρ : En) (o : Fl), n ≤ m → whL p g n ρ = o → o ≠ .bad → whL p g m ρ = o
  | 0, m, ρ, o, _, e, nb => absurd e.symm nb
  | n + 1, 0, ρ, o, h, _, _ => absurd h (Nat.not_succ_le_zero _)
  | n + 1, m + 1, ρ, o, h, e, nb => by
    have ih := fun ρ2 e => whL_mono (p := p) (g := g) n m ρ2 o (Nat.le_of_succ_le_succ h) e nb
    rw [whL] at e ⊢
    cases hp : p ρ with
    | ex c pl => rw [hp] at e; exact e
    | bad => rw [hp] at e; exact absurd e.symm nb
    | ok b =>
      rw [hp] at e
      simp only [toS] at e ⊢
      cases b with
      | false => exact e
      | true =>
        rw [if_pos rfl] at e ⊢
        cases hg : g ρ with
        | nx ρ2 => simp only [hg] at e ⊢; exact ih ρ2 e
        | ct ρ2 => simp only [hg] at e ⊢; exact ih ρ2 e
        | bk ρ2 => simp only [hg] at e ⊢; exact e
        | rt d => simp only [hg] at e ⊢; exact e
        | ex c pl ρ2 => simp only [hg] at e ⊢; exact e
        | bad => simp only [hg] at e ⊢; exact e
theorem whL_fuel {p : En → R Bool} {g : En → Fl} {n : Nat} {ρ : En} {o : Fl} (h : n ≤ 1000000000) (e : whL p g n ρ = o) (nb : o ≠ .bad) : whL p g fuel ρ = o := whL_mono n fuel ρ o (Nat.le_trans h fuel_ge) e nb
end DL
namespace DL
open PySem PySem.Spec L2

/-! ### the data functions, applied -/
section
variable {i j n : Nat} {ρ : En} {d e : PD} {f g h : En → R PD} {fs gs : En → R (List PD)} {p q : En → R Bool} {k : Int} {ds : List PD} {α : Type}
@[simp] theorem a_cV : cV i ρ = (match ρ[i]? with | some (.va d) => .ok d | _ => .bad) := rfl
@[simp] theorem a_cW : cW i ρ = (match ρ[i]? with | some (.va d) => .ok d | some (.ol ds) => .ok (.list ds) | _ => .bad) := rfl
@[simp] theorem a_cK : cK d ρ = .ok d := rfl
@[simp] theorem a_c2 (F : PD → PD → R PD) : c2 F f g ρ = (f ρ).bind fun x => (g ρ).bind fun y => F x y := rfl
@[simp] theorem a_c1 (F : PD → R PD) : c1 F f ρ = (f ρ).bind F := rfl
@[simp] theorem a_cNil : cNil ρ = .ok [] := rfl
@[simp] theorem a_cCons : cCons f fs ρ = (f ρ).bind fun d => (fs ρ).bind fun ds => .ok (d :: ds) := rfl
@[simp] theorem a_cTup : cTup fs ρ = (fs ρ).bind mkT := rfl
@[simp] theorem a_cLst : cLst fs ρ = (fs ρ).bind mkL := rfl
@[simp] theorem a_cL : cL fs ρ = (fs ρ).bind fun ds => .ok (.list ds) := rfl
@[simp] theorem a_cCl (F : List PD → R PD) : cCl F fs ρ = (fs ρ).bind F := rfl
@[simp] theorem a_cClF (F : List PD → R (List PD)) : cClF F fs ρ = (fs ρ).bind F := rfl
@[simp] theorem a_cCall (F : List PD → R PD) : cCall n F fs ρ = (fs ρ).bind fun ds => chk (ds.length == n) (F ds) := rfl
@[simp] theorem a_isaD (F : PD → Bool) : isaD F f ρ = (f ρ).bind fun d => .ok (.bool (F d)) := rfl
@[simp] theorem a_cAnd : cAnd f g ρ = (f ρ).bind fun d => (tru d).bind fun b => if b = true then g ρ else .ok d := rfl
@[simp] theorem a_cOr : cOr f g ρ = (f ρ).bind fun d => (tru d).bind fun b => if b = true then .ok d else g ρ := rfl
@[simp] theorem a_cNot : cNot f ρ = (f ρ).bind fun d => (tru d).bind fun b => .ok (.bool (!b)) := rfl
@[simp] theorem a_cIf : cIf p f g ρ = (p ρ).bind fun b => if b = true then f ρ else g ρ := rfl
@[simp] theorem a_cChain (F G : PD → PD → R PD) : cChain F G f g h ρ = (f ρ).bind fun x => (g ρ).bind fun y => (F x y).bind fun z => (asB z).bind fun k => if k = true then (h ρ).bind fun u => G y u else .ok (.bool false) := rfl
@[simp] theorem a_bChain (F G : PD → PD → R PD) : bChain F G f g h ρ = (cChain F G f g h ρ).bind asB := rfl
@[simp] theorem a_bT : bT f ρ = (f ρ).bind tru := rfl
@[simp] theorem a_bC (F : PD → PD → R PD) : bC F f g ρ = (c2 F f g ρ).bind asB := rfl
@[simp] theorem a_bAnd : bAnd p q ρ = (p ρ).bind fun b => if b = true then q ρ else .ok false := rfl
@[simp] theorem a_bOr : bOr p q ρ = (p ρ).bind fun b => if b = true then .ok true else q ρ := rfl
@[simp] theorem a_bNot : bNot p ρ = (p ρ).bind fun b => .ok (!b) := rfl
@[simp] theorem a_bYes : bYes ρ = .ok true := rfl
@[simp] theorem a_iSeq : iSeq f ρ = (f ρ).bind itD := rfl
@[simp] theorem a_iR1 : iR1 f ρ = (f ρ).bind rg1 := rfl
@[simp] theorem a_iR2 : iR2 f g ρ = (f ρ).bind fun d => (g ρ).bind fun e => rg2 d e := rfl
@[simp] theorem a_iEnm : iEnm f ρ = (f ρ).bind fun d => (itD d).bind fun ds => .ok (enumL 0 ds) := rfl
@[simp] theorem a_cLc (own : List Nat) (src : En → R (List PD)) (tgt : PD → En → R En) : cLc own src tgt p f ρ = (src ρ).bind fun items => chk (decide (items.length ≤ big)) (compL tgt p f (wipeE ρ own) items) := rfl
@[simp] theorem a_wipe0 : wipeE ρ [] = ρ := rfl
@[simp] theorem a_wipe1 (v : Nat) (vs : List Nat) : wipeE ρ (v :: vs) = (wipeE ρ vs).set v .un := rfl
@[simp] theorem a_gN : gN i d ρ = .ok (ρ.set i (.va d)) := rfl
@[simp] theorem a_gZ : gZ [] ρ = .ok ρ := rfl
@[simp] theorem a_sNx : sNx ρ = .nx ρ := rfl
@[simp] theorem a_sSeq (g h : En → Fl) : sSeq g h ρ = (match g ρ with | .nx ρ' => h ρ' | .rt d => .rt d | .bk ρ' => .bk ρ' | .ct ρ' => .ct ρ' | .ex c pl ρ' => .ex c pl ρ' | .bad => .bad) := rfl
@[simp] theorem a_toS_ok (a : α) (c : α → Fl) : toS ρ (.ok a) c = c a := rfl
@[simp] theorem a_toS_ex (x : Str) (pl : List (Str × PD)) (c : α → Fl) : toS ρ (.ex x pl) c = .ex x pl ρ := rfl
@[simp] theorem a_sSet : sSet i f ρ = toS ρ (f ρ) fun d => .nx (ρ.set i (.va d)) := rfl
@[simp] theorem a_sSetL : sSetL i fs ρ = toS ρ (fs ρ) fun ds => .nx (ρ.set i (.ol ds)) := rfl
@[simp] theorem a_sDrop : sDrop f ρ = toS ρ (f ρ) fun _ => .nx ρ := rfl
@[simp] theorem a_sRet : sRet f ρ = toS ρ (f ρ) fun d => .rt d := rfl
@[simp] theorem a_sIf (g h : En → Fl) : sIf p g h ρ = toS ρ (p ρ) fun b => if b = true then g ρ else h ρ := rfl
@[simp] theorem a_sFrz (g : En → Fl) : sFrz i g ρ = g (frz i ρ) := rfl
@[simp] theorem a_frz : frz i ρ = (match ρ[i]? with | some (.ol ds) => ρ.set i (.va (.list ds)) | _ => ρ) := rfl
@[simp] theorem a_sApp : sApp i f ρ = (match ρ[i]? with | some (.ol ds) => toS ρ (f ρ) fun d => if ds.length < big then .nx (ρ.set i (.ol (ds ++ [d]))) else .bad | _ => .bad) := rfl
@[simp] theorem a_sExt : sExt i f ρ = (match ρ[i]? with
  | some (.ol ds) => toS ρ (f ρ) fun d => match d with
    | .list es => if ds.length + es.length ≤ big then .nx (ρ.set i (.ol (ds ++ es))) else .bad
    | _ => .bad
  | _ => .bad) := rfl
@[simp] theorem a_sSetI : sSetI i f g ρ = (match ρ[i]? with
  | some (.ol ds) => toS ρ (f ρ) fun d => toS ρ (g ρ) fun j => match j with
    | .int k => match ixN ds.length k with
      | some n => .nx (ρ.set i (.ol (ds.set n d)))
      | none => .bad
    | _ => .bad
  | _ => .bad) := rfl
@[simp] theorem a_sAsg (g : PD → En → R En) : sAsg f g ρ = toS ρ (f ρ) fun d => (match g d ρ with | .ok ρ' => .nx ρ' | _ => .bad) := rfl
@[simp] theorem a_sPar : sPar i j f g ρ = toS ρ (f ρ) fun d => toS ρ (g ρ) fun d' => .nx ((ρ.set i (.va d)).set j (.va d')) := rfl
@[simp] theorem a_sFor (src : En → R (List PD)) (tgt : PD → En → R En) (body : En → Fl) : sFor src tgt body ρ = toS ρ (src ρ) fun items => forL tgt body items ρ := rfl
@[simp] theorem a_fin_rt : fin (.rt d) = .ok d := rfl
@[simp] theorem a_fin_nx : fin (.nx ρ) = .ok .none := rfl
@[simp] theorem a_fin_ex (x : Str) (pl : List (Str × PD)) : fin (.ex x pl ρ) = .ex x pl := rfl
@[simp] theorem a_gC (a : PD → En → R En) (b : List PD → En → R En) : gC a b (d :: ds) ρ = (match a d ρ with | .ok ρ' => b ds ρ' | _ => .bad) := rfl
@[simp] theorem a_gT (a : List PD → En → R En) : gT n a (.tuple ds) ρ = chk (ds.length == n) (a ds ρ) := rfl
@[simp] theorem a_mkT : mkT ds = chk (decide (ds.length ≤ big)) (.ok (.tuple ds)) := rfl
@[simp] theorem a_mkL : mkL ds = chk (decide (ds.length ≤ big)) (.ok ds) := rfl
@[simp] theorem a_itT : itD (.tuple ds) = .ok ds := rfl
@[simp] theorem a_itL : itD (.list ds) = .ok ds := rfl
@[simp] theorem a_asB (b : Bool) : asB (.bool b) = .ok b := rfl
@[simp] theorem a_truB (b : Bool) : tru (.bool b) = .ok b := rfl
@[simp] theorem a_truI (i : Int) : tru (.int i) = .ok (i != 0) := rfl
@[simp] theorem a_truN : tru .none = .ok false := rfl
@[simp] theorem a_truL : tru (.list ds) = .ok (!ds.isEmpty) := rfl
@[simp] theorem a_truT : tru (.tuple ds) = .ok (!ds.isEmpty) := rfl
@[simp] theorem a_addI (i j : Int) : addD (.int i) (.int j) = .ok (.int (i + j)) := rfl
@[simp] theorem a_addT (xs ys : List PD) : addD (.tuple xs) (.tuple ys) = chk (decide (xs.length + ys.length ≤ big)) (.ok (.tuple (xs ++ ys))) := rfl
@[simp] theorem a_addL (xs ys : List PD) : addD (.list xs) (.list ys) = chk (decide (xs.length + ys.length ≤ big)) (.ok (.list (xs ++ ys))) := rfl
@[simp] theorem a_subI (i j : Int) : subD (.int i) (.int j) = .ok (.int (i - j)) := rfl
@[simp] theorem a_modI (i j : Int) : modD (.int i) (.int j) = chk (decide (0 < j)) (.ok (.int (i % j))) := rfl
@[simp] theorem a_divI (i j : Int) : fdivD (.int i) (.int j) = chk (decide (0 < j ∧ j < 1073741824)) (.ok (.int (i / j))) := rfl
@[simp] theorem a_mulI (i j : Int) : mulD (.int i) (.int j) = chk (decide ((-18446744073709551616 < i ∧ i < 18446744073709551616) ∨ (-18446744073709551616 < j ∧ j < 18446744073709551616))) (.ok (.int (i * j))) := rfl
@[simp] theorem a_powI (i j : Int) : powD (.int i) (.int j) = chk (decide (0 ≤ j ∧ j ≤ 1000000 ∧ i.natAbs < 18446744073709551616)) (.ok (.int (i ^ j.toNat))) := rfl
@[simp] theorem a_negI (i : Int) : negD (.int i) = .ok (.int (-i)) := rfl
@[simp] theorem a_ltI (i j : Int) : ltD (.int i) (.int j) = .ok (.bool (decide (i < j))) := rfl
@[simp] theorem a_leI (i j : Int) : leD (.int i) (.int j) = .ok (.bool (decide (i ≤ j))) := rfl
@[simp] theorem a_gtI (i j : Int) : gtD (.int i) (.int j) = .ok (.bool (decide (j < i))) := rfl
@[simp] theorem a_geI (i j : Int) : geD (.int i) (.int j) = .ok (.bool (decide (j ≤ i))) := rfl
@[simp] theorem dp_int (i : Int) : PyData.depth (.int i) = 0 := rfl
@[simp] theorem dp_bool (i : Bool) : PyData.depth (.bool i) = 0 := rfl
@[simp] theorem dp_str (i : Str) : PyData.depth (.str i) = 0 := rfl
@[simp] theorem dp_none : PyData.depth .none = 0 := rfl
@[simp] theorem a_eqI (i j : Int) : eqD (.int i) (.int j) = .ok (.bool (decide (i = j))) := by
  unfold eqD dOk
  simp [PyData.eqv]
  by_cases h : i = j <;> simp [h]
@[simp] theorem a_neI (i j : Int) : neD (.int i) (.int j) = .ok (.bool (decide (i ≠ j))) := by
  unfold neD dOk
  simp [PyData.eqv]
  by_cases h : i = j <;> simp [h]
@[simp] theorem a_lenL : lenD [.list ds] = .ok (.int ds.length) := rfl
@[simp] theorem a_lenT : lenD [.tuple ds] = .ok (.int ds.length) := rfl
@[simp] theorem a_abs (i : Int) : absD [.int i] = .ok (.int (if i < 0 then -i else i)) := rfl
@[simp] theorem a_int (i : Int) : intD [.int i] = .ok (.int i) := rfl
@[simp] theorem a_tupT : tupD [.tuple ds] = .ok (.tuple ds) := rfl
@[simp] theorem a_tupL : tupD [.list ds] = .ok (.tuple ds) := rfl
@[simp] theorem a_itemsT : items1 [.tuple ds] = .ok ds := rfl
@[simp] theorem a_itemsL : items1 [.list ds] = .ok ds := rfl
@[simp] theorem a_max2 (i j : Int) : maxD1 [PyData.int i, .int j] = .ok (.int (max i j)) := by
  show R.ok (PyData.int (mx2 i j)) = _
  unfold mx2
  by_cases h : i < j
  · rw [if_pos h]; congr; omega
  · rw [if_neg h]; congr; omega
@[simp] theorem a_min2 (i j : Int) : minD1 [PyData.int i, .int j] = .ok (.int (min i j)) := by
  show R.ok (PyData.int (mn2 i j)) = _
  unfold mn2
  by_cases h : j < i
  · rw [if_pos h]; congr; omega
  · rw [if_neg h]; congr; omega
@[simp] theorem a_all : allD [.list ds] = chk (ds.all flat1) (.ok (.bool (ds.all PyData.truthy))) := rfl
@[simp] theorem a_any : anyD [.list ds] = chk (ds.all flat1) (.ok (.bool (ds.any PyData.truthy))) := rfl
@[simp] theorem a_rg1 (n : Int) : rg1 (.int n) = chk (decide (-1000000000000000 ≤ n ∧ n ≤ 1000000000000000)) (.ok (rangeL 0 n.toNat)) := rfl
@[simp] theorem a_rg2 (m n : Int) : rg2 (.int m) (.int n) = chk (decide (-1000000000000000 ≤ m ∧ m ≤ 1000000000000000 ∧ -1000000000000000 ≤ n ∧ n ≤ 1000000000000000)) (.ok (rangeL m (n - m).toNat)) := rfl
@[simp] theorem a_iZp : iZp f g ρ = (f ρ).bind fun d => (g ρ).bind fun e => zpD d e := rfl
@[simp] theorem a_zpL (xs ys : List PD) : zpD (.list xs) (.list ys) = .ok (zipL xs ys) := rfl
@[simp] theorem a_zpT (xs ys : List PD) : zpD (.tuple xs) (.tuple ys) = .ok (zipL xs ys) := rfl
@[simp] theorem a_xR1 : xR1 f ρ = (f ρ).bind rgI1 := rfl
@[simp] theorem a_xR2 : xR2 f g ρ = (f ρ).bind fun d => (g ρ).bind fun e => rgI2 d e := rfl
@[simp] theorem a_rgI1 (n : Int) : rgI1 (.int n) = .ok (0, n) := rfl
@[simp] theorem a_rgI2 (m n : Int) : rgI2 (.int m) (.int n) = .ok (m, n) := rfl
@[simp] theorem a_cRgL (h : En → R (Int × Int)) : cRgL h ρ = (h ρ).bind fun d => chk (rgOk d) (.ok (rangeL d.1 (d.2 - d.1).toNat)) := rfl
@[simp] theorem a_cRgT (h : En → R (Int × Int)) : cRgT h ρ = (h ρ).bind fun d => chk (rgOk d) (.ok (.tuple (rangeL d.1 (d.2 - d.1).toNat))) := rfl
@[simp] theorem a_sAug (F : PD → PD → R PD) : sAug i F f ρ = (match ρ[i]? with | some (.va d) => toS ρ (f ρ) fun e => toS ρ (F d e) fun z => .nx (ρ.set i (.va z)) | _ => .bad) := rfl
@[simp] theorem a_iaddI (i j : Int) : iaddD (.int i) (.int j) = .ok (.int (i + j)) := rfl
@[simp] theorem a_isubI (i j : Int) : isubD (.int i) (.int j) = .ok (.int (i - j)) := rfl
@[simp] theorem a_sPar3 (l : Nat) : sPar3 i j l f g h ρ = toS ρ (f ρ) fun d => toS ρ (g ρ) fun d' => toS ρ (h ρ) fun d'' => .nx (((ρ.set i (.va d)).set j (.va d')).set l (.va d'')) := rfl
@[simp] theorem a_ixL (i : Int) : ixD (.list ds) (.int i) = (match atI ds i with | some d => .ok d | none => .bad) := rfl
@[simp] theorem a_ixT (i : Int) : ixD (.tuple ds) (.int i) = (match atI ds i with | some d => .ok d | none => .bad) := rfl
end
theorem ixN_nn {n : Nat} {i : Nat} (h : i < n) : ixN n (i : Int) = some i := by
  unfold ixN
  rw [if_pos (by omega), if_pos (by omega), Int.toNat_natCast]
theorem ixN_last {n : Nat} (h : 0 < n) : ixN n (-1) = some (n - 1) := by
  unfold ixN
  rw [if_neg (by omega), if_pos (by omega)]
  congr 1; omega
theorem atI_nn {α : Type} {xs : List α} {i : Nat} : atI xs (i : Int) = xs[i]? := by
  unfold atI
  by_cases h : i < xs.length
  · rw [ixN_nn h]; rfl
  · have : ixN xs.length (i : Int) = none := by
      unfold ixN
      rw [if_pos (by omega), if_neg (by omega)]
    rw [this, List.getElem?_eq_none (by omega)]; rfl
@[simp] theorem atI_z {α : Type} (x : α) (xs : List α) : atI (x :: xs) 0 = some x := by
  have := atI_nn (xs := x :: xs) (i := 0)
  simpa using this
@[simp] theorem atI_o {α : Type} (x y : α) (xs : List α) : atI (x :: y :: xs) 1 = some y := by
  have := atI_nn (xs := x :: y :: xs) (i := 1)
  simpa using this
@[simp] theorem atI_2 {α : Type} (x y z : α) (xs : List α) : atI (x :: y :: z :: xs) 2 = some z := by
  have := atI_nn (xs := x :: y :: z :: xs) (i := 2)
  simpa using this
theorem atI_end {α : Type} (xs : List α) (x : α) : atI (xs ++ [x]) (-1) = some x := by
  unfold atI
  rw [ixN_last (by simp)]
  simp

/-! ### equal data -/
mutual
/-- no dict in it -/
def nod : PD → Bool
  | .list xs => nodAll xs
  | .tuple xs => nodAll xs
  | .dict _ => false
  | .none => true
  | .bool _ => true
  | .int _ => true
  | .str _ => true
def nodAll : List PD → Bool
  | [] => true
  | x :: xs => nod x && nodAll xs
end
mutual
theorem eqv_self : ∀ d : PD, nod d = true → PyData.eqv d d = true
  | .list xs, h => by rw [PyData.eqv]; exact eqvAll_self xs (by rw [nod] at h; exact h)
  | .tuple xs, h => by rw [PyData.eqv]; exact eqvAll_self xs (by rw [nod] at h; exact h)
  | .dict _, h => by rw [nod] at h; cases h
  | .none, _ => by rw [PyData.eqv]
  | .bool b, _ => by rw [PyData.eqv]; exact beq_self_eq_true b
  | .int b, _ => by rw [PyData.eqv]; exact beq_self_eq_true b
  | .str b, _ => by rw [PyData.eqv]; exact beq_self_eq_true b
theorem eqvAll_self : ∀ ds : List PD, nodAll ds = true → PyData.eqvAll ds ds = true
  | [], _ => by rw [PyData.eqvAll]
  | x :: xs, h => by
    rw [nodAll, Bool.and_eq_true] at h
    rw [PyData.eqvAll, eqv_self x h.1, eqvAll_self xs h.2]; rfl
end
theorem nodAll_of : ∀ ds : List PD, (∀ d ∈ ds, nod d = true) → nodAll ds = true
  | [], _ => by rw [nodAll]
  | x :: xs, h => by rw [nodAll, h x List.mem_cons_self, nodAll_of xs fun d hd => h d (List.mem_cons_of_mem _ hd)]; rfl
theorem depthAll_le : ∀ (ds : List PD) (n : Nat), (∀ d ∈ ds, d.depth ≤ n) → PyData.depthAll ds ≤ n
  | [], n, _ => by rw [PyData.depthAll]; exact Nat.zero_le _
  | x :: xs, n, h => by
    rw [PyData.depthAll]
    have := h x List.mem_cons_self
    have := depthAll_le xs n fun d hd => h d (List.mem_cons_of_mem _ hd)
    omega
/-- equal data -/
theorem eqD_self {d : PD} (h : nod d = true) (hd : d.depth ≤ 100) : eqD d d = .ok (.bool true) := by
  unfold eqD dOk
  rw [chk_of (by rw [decide_eq_true_eq]; omega), eqv_self d h]
theorem neD_self {d : PD} (h : nod d = true) (hd : d.depth ≤ 100) : neD d d = .ok (.bool false) := by
  unfold neD dOk
  rw [chk_of (by rw [decide_eq_true_eq]; omega), eqv_self d h]; rfl

/-! ### loops -/
section
variable {α β : Type} {tgt : PD → En → R En} {body : En → Fl}
theorem forL_go (P : Nat → β → En → Prop) (step : β → α → β) (enc : α → PD) : ∀ (ys : List α) (i : Nat) (s : β) (ρ : En),
    (∀ j y s ρ, ys[j]? = some y → P (i + j) s ρ → ∃ ρ1 ρ2, tgt (enc y) ρ = .ok ρ1 ∧ (body ρ1 = .nx ρ2 ∨ body ρ1 = .ct ρ2) ∧ P (i + j + 1) (step s y) ρ2) → P i s ρ →
    ∃ ρ', forL tgt body (ys.map enc) ρ = .nx ρ' ∧ P (i + ys.length) (ys.foldl step s) ρ'
  | [], i, s, ρ, _, h => ⟨ρ, rfl, h⟩
  | y :: ys, i, s, ρ, hs, h => by
    obtain ⟨ρ1, ρ2, e1, e2, h2⟩ := hs 0 y s ρ rfl h
    obtain ⟨ρ', e3, h3⟩ := forL_go P step enc ys (i + 1) (step s y) ρ2 (fun j y s ρ e p => by
      have := hs (j + 1) y s ρ (by simpa using e) (by rwa [show i + (j + 1) = i + 1 + j by omega])
      rwa [show i + (j + 1) = i + 1 + j by omega] at this) h2
    refine ⟨ρ', ?_, by rwa [show i + (y :: ys).length = i + 1 + ys.length by rw [List.length_cons]; omega]⟩
    rw [List.map_cons, forL, e1]
    rcases e2 with e2 | e2
    · simp only [e2]; exact e3
    · simp only [e2]; exact e3
/-- a loop whose body goes on: the state by a fold -/
theorem forL_fold (P : Nat → β → En → Prop) (step : β → α → β) (enc : α → PD) (ys : List α) {s : β} {ρ : En} (h0 : P 0 s ρ)
    (hs : ∀ j y s ρ, ys[j]? = some y → P j s ρ → ∃ ρ1 ρ2, tgt (enc y) ρ = .ok ρ1 ∧ (body ρ1 = .nx ρ2 ∨ body ρ1 = .ct ρ2) ∧ P (j + 1) (step s y) ρ2) :
    ∃ ρ', forL tgt body (ys.map enc) ρ = .nx ρ' ∧ P ys.length (ys.foldl step s) ρ' := by
  have := forL_go (i := 0) P step enc ys s ρ (fun j y s ρ e p => by rw [Nat.zero_add] at p ⊢; exact hs j y s ρ e p) h0
  rwa [Nat.zero_add] at this
/-- a loop by an invariant alone -/
theorem forL_inv (P : Nat → En → Prop) (enc : α → PD) (ys : List α) {ρ : En} (h0 : P 0 ρ)
    (hs : ∀ j y ρ, ys[j]? = some y → P j ρ → ∃ ρ1 ρ2, tgt (enc y) ρ = .ok ρ1 ∧ (body ρ1 = .nx ρ2 ∨ body ρ1 = .ct ρ2) ∧ P (j + 1) ρ2) :
    ∃ ρ', forL tgt body (ys.map enc) ρ = .nx ρ' ∧ P ys.length ρ' :=
  forL_fold (fun j (_ : Unit) ρ => P j ρ) (fun s _ => s) enc ys (s := ()) h0 fun j y _ ρ e p => hs j y ρ e p
theorem compL_map {γ : Type} (enc : α → PD) {p : En → R Bool} {f : En → R PD} {ρ : En} (b : α → Bool) (r : α → γ) (dec : γ → PD) : ∀ (ys : List α),
    (∀ y ∈ ys, ∃ ρ1, tgt (enc y) ρ = .ok ρ1 ∧ p ρ1 = .ok (b y) ∧ (b y = true → f ρ1 = .ok (dec (r y)))) → compL tgt p f ρ (ys.map enc) = .ok (((ys.filter b).map r).map dec)
  | [], _ => rfl
  | y :: ys, h => by
    obtain ⟨ρ1, e1, e2, e3⟩ := h y List.mem_cons_self
    have ih := compL_map enc b r dec ys (fun z hz => h z (List.mem_cons_of_mem _ hz))
    rw [List.map_cons, compL, e1, R.ok_nx, R.ok_bind, e2, R.ok_nx, R.ok_bind]
    cases hb : b y with
    | true =>
      rw [if_pos rfl, e3 hb, R.ok_nx, R.ok_bind, ih, R.ok_bind, List.filter_cons_of_pos hb]; rfl
    | false => rw [if_neg Bool.false_ne_true, ih, List.filter_cons_of_neg (by rw [hb]; exact Bool.false_ne_true)]
/-- without ifs -/
theorem compL_all {γ : Type} (enc : α → PD) {f : En → R PD} {ρ : En} (r : α → γ) (dec : γ → PD) (ys : List α)
    (h : ∀ y ∈ ys, ∃ ρ1, tgt (enc y) ρ = .ok ρ1 ∧ f ρ1 = .ok (dec (r y))) : compL tgt bYes f ρ (ys.map enc) = .ok ((ys.map r).map dec) := by
  rw [compL_map (p := bYes) enc (fun _ => true) r dec ys (fun y hy => let ⟨ρ1, a, b⟩ := h y hy; ⟨ρ1, a, rfl, fun _ => b⟩)]
  rw [List.filter_eq_self.mpr (fun _ _ => rfl)]
end
def intsP (ns : List Int) : List PD := ns.map PyData.int
def rng (lo : Int) (n : Nat) : List Int := (List.range n).map fun (i : Nat) => lo + (i : Int)
theorem rangeL_rng (lo : Int) (n : Nat) : rangeL lo n = (rng lo n).map PyData.int := by
  unfold rangeL rng
  rw [List.map_map]; rfl
theorem rng_len (lo : Int) (n : Nat) : (rng lo n).length = n := by simp [rng]
theorem mem_rng {lo : Int} {n : Nat} {i : Int} : i ∈ rng lo n ↔ lo ≤ i ∧ i < lo + n := by
  unfold rng
  rw [List.mem_map]
  constructor
  · rintro ⟨k, hk, rfl⟩
    have := List.mem_range.mp hk
    omega
  · rintro ⟨h1, h2⟩
    exact ⟨(i - lo).toNat, List.mem_range.mpr (by omega), by omega⟩
theorem rng_get {lo : Int} {n i : Nat} (h : i < n) : (rng lo n)[i]? = some (lo + (i : Int)) := by
  unfold rng
  rw [List.getElem?_map, List.getElem?_range h]; rfl
end DL
namespace DL
open PySem PySem.Spec L2
/-! ### the laws' draws -/
def gDraws_l1 : En → Fl := (sIf (bC gtD (cV 5) (cK (.int 0)))
  (sSeq (sApp 2 (c2 modD (cCl intD (cCons (cV 5) cNil)) (cK (.int 1009))))
  (sSet 5 (c2 fdivD (cV 5) (cK (.int 1009)))))
  sNx)
def gDraws_l2 : En → Fl := (sSeq (sSet 5 (cCl absD (cCons (cV 4) cNil)))
  (sSeq (sSet 3 (c2 modD (cCl intD (cCons (c2 addD (c2 addD (c2 mulD (cV 3) (cK (.int 48271))) (cV 5)) (cK (.int 11))) cNil)) (cK (.int 2147483647))))
  (sIf (bC geD (cV 5) (c2 powD (cK (.int 10)) (cK (.int 18))))
  (sFor (iR1 (cK (.int 60))) (gN 6) gDraws_l1)
  (sApp 2 (c2 modD (c2 fdivD (cCl intD (cCons (c2 addD (c2 mulD (cV 3) (cK (.int 16807))) (cK (.int 5))) cNil)) (cK (.int 3))) (cK (.int 65521)))))))
def gDraws_l3 : En → Fl := (sIf (bC ltD (cCl lenD (cCons (cW 2) cNil)) (cV 1))
  (sSeq (sSet 3 (c2 modD (cCl intD (cCons (c2 addD (c2 addD (c2 mulD (cV 3) (cK (.int 69621))) (cV 6)) (cK (.int 1))) cNil)) (cK (.int 2147483647))))
  (sApp 2 (c2 modD (c2 fdivD (cCl intD (cCons (cV 3) cNil)) (cK (.int 7))) (cK (.int 65521)))))
  sNx)
def gDraws : En → Fl := (sSeq (sSetL 2 (cLst cNil))
  (sSeq (sSet 3 (cK (.int 7)))
  (sSeq (sFor (iSeq (cL (cScr 0 63))) (gN 4) gDraws_l2)
  (sSeq (sFor (iR1 (cV 1)) (gN 6) gDraws_l3)
  (sRet (cSl (cW 2) oN (oS (cV 1))))))))

def DrawOk (ds : List Int) : Prop := ∀ d ∈ ds, 0 ≤ d ∧ d < 65521
theorem DrawOk.app {ds : List Int} {d : Int} (h : DrawOk ds) (h2 : 0 ≤ d ∧ d < 65521) : DrawOk (ds ++ [d]) := fun x hx => by
  rcases List.mem_append.mp hx with hx | hx
  · exact h x hx
  · rw [List.mem_singleton.mp hx]; exact h2
def ab (y : Int) : Int := if y < 0 then -y else y
def sd (seed y : Int) : Int := (seed * 48271 + ab y + 11) % 2147483647
abbrev dr (ns : List Int) (m : Nat) (ds : List Int) (seed : Int) (a b c : Sl) : En := [.sc ns, .va (.int m), .ol (ds.map PyData.int), .va (.int seed), a, b, c]
section
variable {ns : List Int} {m : Nat}
theorem draws1 {ds : List Int} {seed n : Int} {a c : Sl} (hl : ds.length < big) (hd : DrawOk ds) :
    ∃ ds' n', gDraws_l1 (dr ns m ds seed a (.va (.int n)) c) = .nx (dr ns m ds' seed a (.va (.int n')) c) ∧ ds'.length ≤ ds.length + 1 ∧ DrawOk ds' := by
  by_cases h : 0 < n
  · exact ⟨ds ++ [n % 1009], n / 1009, by simp [gDraws_l1, h, hl], by simp, hd.app (by omega)⟩
  · exact ⟨ds, n, by simp [gDraws_l1, h], by omega, hd⟩
theorem draws2 {ds : List Int} {seed y : Int} {b c : Sl} (hl : ds.length + 60 < big) (hd : DrawOk ds) :
    ∃ ds' b' c', gDraws_l2 (dr ns m ds seed (.va (.int y)) b c) = .nx (dr ns m ds' (sd seed y) (.va (.int y)) b' c') ∧ ds'.length ≤ ds.length + 60 ∧ DrawOk ds' := by
  by_cases hn : (1000000000000000000 : Int) ≤ ab y
  · obtain ⟨ρ', e, ds', n', c', rfl, hl', hd'⟩ := forL_inv (tgt := gN 6) (body := gDraws_l1) (fun i ρ => ∃ ds' n c, ρ = dr ns m ds' (sd seed y) (.va (.int y)) (.va (.int n)) c ∧ ds'.length ≤ ds.length + i ∧ DrawOk ds') PyData.int (rng 0 60)
      (ρ := dr ns m ds (sd seed y) (.va (.int y)) (.va (.int (ab y))) c) ⟨ds, _, _, rfl, Nat.le_refl _, hd⟩ (by
        rintro j y2 ρ hj ⟨ds', n, c, rfl, hl', hd'⟩
        have hj2 := (List.getElem?_eq_some_iff.mp hj).1
        rw [rng_len] at hj2
        obtain ⟨ds2, n2, e2, l2, d2⟩ := draws1 (ns := ns) (m := m) (seed := sd seed y) (n := n) (a := .va (.int y)) (c := .va (.int y2)) (show ds'.length < big by omega) hd'
        exact ⟨_, _, rfl, .inl e2, ds2, n2, _, rfl, by omega, d2⟩)
    rw [rng_len] at hl'
    refine ⟨ds', .va (.int n'), c', ?_, hl', hd'⟩
    have hs : sd seed y = (seed * 48271 + (if y < 0 then -y else y) + 11) % 2147483647 := rfl
    have hn' : (1000000000000000000 : Int) ≤ (if y < 0 then -y else y) := hn
    simp only [ab, hs] at e
    simp [gDraws_l2, rangeL_rng, hn']
    exact e
  · have hn' : ¬ (1000000000000000000 : Int) ≤ (if y < 0 then -y else y) := hn
    refine ⟨ds ++ [(sd seed y * 16807 + 5) / 3 % 65521], .va (.int (ab y)), c, ?_, by simp, hd.app (by omega)⟩
    simp [gDraws_l2, hn', show ds.length < big by omega, sd, ab]
theorem draws3 {ds : List Int} {seed y : Int} {a b : Sl} (hl : ds.length < big) (hd : DrawOk ds) :
    ∃ ds' seed', gDraws_l3 (dr ns m ds seed a b (.va (.int y))) = .nx (dr ns m ds' seed' a b (.va (.int y))) ∧ ds'.length ≤ ds.length + 1 ∧ DrawOk ds' ∧ ds.length ≤ ds'.length ∧ (ds.length < m → ds'.length = ds.length + 1) := by
  by_cases h : ds.length < m
  · have h' : (ds.length : Int) < (m : Int) := by omega
    exact ⟨ds ++ [(seed * 69621 + y + 1) % 2147483647 / 7 % 65521], (seed * 69621 + y + 1) % 2147483647, by simp [gDraws_l3, h', hl], by simp, hd.app (by omega), by simp, fun _ => by simp⟩
  · have h' : ¬ (ds.length : Int) < (m : Int) := by omega
    exact ⟨ds, seed, by simp [gDraws_l3, h'], by omega, hd, Nat.le_refl _, fun z => absurd z h⟩
theorem draws_ok (ns : List Int) (m : Nat) (hm : m ≤ 100000) :
    ∃ ds : List Int, fin (gDraws (.sc ns :: .va (.int m) :: List.replicate 5 .un)) = .ok (.list (ds.map PyData.int)) ∧ ds.length = m ∧ DrawOk ds := by
  have hcut : (cutL ns none (some 63)).length ≤ 63 := by
    unfold cutL
    rw [List.length_take]
    refine Nat.le_trans (Nat.min_le_left _ _) ?_
    rw [HT.sIx_none, Nat.sub_zero]
    have h3 : HT.sIx ns.length ns.length (some 63) = min 63 ns.length := HT.sIx_nat _ _ 63
    omega
  obtain ⟨ρ1, e1, ds1, s1, a1, b1, c1, rfl, hl1, hd1⟩ := forL_inv (tgt := gN 4) (body := gDraws_l2) (fun i ρ => ∃ ds s a b c, ρ = dr ns m ds s a b c ∧ ds.length ≤ 60 * i ∧ DrawOk ds) PyData.int (cutL ns none (some 63))
    (ρ := dr ns m [] 7 .un .un .un) ⟨[], 7, .un, .un, .un, rfl, by simp, fun d hd => by cases hd⟩ (by
      rintro j y ρ hj ⟨ds, s, a, b, c, rfl, hl, hd⟩
      have hj2 := (List.getElem?_eq_some_iff.mp hj).1
      obtain ⟨ds2, b2, c2, e2, l2, d2⟩ := draws2 (ns := ns) (m := m) (seed := s) (y := y) (b := b) (c := c) (show ds.length + 60 < big by unfold big; omega) hd
      exact ⟨_, _, rfl, .inl e2, ds2, _, _, b2, c2, rfl, by omega, d2⟩)
  obtain ⟨ρ2, e2, ds2, s2, c2, rfl, hl2, hd2, hg2⟩ := forL_inv (tgt := gN 6) (body := gDraws_l3) (fun i ρ => ∃ ds s c, ρ = dr ns m ds s a1 b1 c ∧ ds.length ≤ 3780 + i ∧ DrawOk ds ∧ (i ≤ ds.length ∨ m ≤ ds.length)) PyData.int (rng 0 m)
    (ρ := dr ns m ds1 s1 a1 b1 c1) ⟨ds1, s1, c1, rfl, by omega, hd1, .inl (Nat.zero_le _)⟩ (by
      rintro j y ρ hj ⟨ds, s, c, rfl, hl, hd, hg⟩
      have hj2 := (List.getElem?_eq_some_iff.mp hj).1
      rw [rng_len] at hj2
      obtain ⟨ds', s', e', l', d', g1, g2⟩ := draws3 (ns := ns) (m := m) (seed := s) (y := y) (a := a1) (b := b1) (show ds.length < big by unfold big; omega) hd
      exact ⟨_, _, rfl, .inl e', ds', s', _, rfl, by omega, d', by omega⟩)
  rw [rng_len] at hl2 hg2
  refine ⟨ds2.take m, ?_, by rw [List.length_take]; omega, fun d hd => hd2 d (List.mem_of_mem_take hd)⟩
  have h60 : cutL (ns.map PyData.int) none (some 63) = (cutL ns none (some 63)).map PyData.int := cut_map _ _ _ _
  have hc2 : cutL (ds2.map PyData.int) none (some (m : Int)) = (ds2.take m).map PyData.int := by
    rw [cut_map]
    unfold cutL
    rw [HT.sIx_none, HT.sIx_nat, List.drop_zero, Nat.sub_zero, Nat.min_eq_left (by omega)]
  simp only [dr, List.map_nil] at e1 e2
  simp only [gDraws, a_sSeq, a_sSetL, a_sSet, a_sFor, a_sRet, a_cLst, a_cNil, R.ok_bind, a_mkL, a_toS_ok, a_cK, a_iSeq, a_cL, a_iR1, cScr, cSl, oN, oS]
  simp [h60, e1, rangeL_rng, e2, slD, hc2, show (m : Int) ≤ 1000000000000000 by omega, show (-1000000000000000 : Int) ≤ m by omega]
end
end DL
namespace K95
open PySem PySem.Spec L2 DL
noncomputable section
def excs : List Str := ["BadMany", "BadSiphon", "BadTime"]
def g_is_whole : En → Fl := (sRet (cAnd (isaD PyData.isInt (cV 0)) (cAnd (cNot (isaD PyData.isBool (cV 0))) (cChain leD leD (cV 1) (cV 0) (cV 2)))))
def F_is_whole (ds : List PD) : R PD := fin (g_is_whole (startE 3 ds))
def g_divisor_l1 : En → Fl := (sPar 0 1 (cV 1) (c2 modD (cV 0) (cV 1)))
def g_divisor : En → Fl := (sSeq (sPar 0 1 (cCl absD (cCons (cV 0) cNil)) (cCl absD (cCons (cV 1) cNil)))
  (sSeq (whL (bC gtD (cV 1) (cK (.int 0))) g_divisor_l1 fuel)
  (sRet (cV 0))))
def F_divisor (ds : List PD) : R PD := fin (g_divisor (startE 2 ds))
def g_is_less : En → Fl := (sRet (c2 ltD (c2 mulD (c2 ixD (cV 0) (cK (.int 0))) (c2 ixD (cV 1) (cK (.int 1)))) (c2 mulD (c2 ixD (cV 1) (cK (.int 0))) (c2 ixD (cV 0) (cK (.int 1))))))
def F_is_less (ds : List PD) : R PD := fin (g_is_less (startE 2 ds))
def g_is_integer : En → Fl := (sRet (cAnd (isaD PyData.isInt (cV 0)) (cNot (isaD PyData.isBool (cV 0)))))
def F_is_integer (ds : List PD) : R PD := fin (g_is_integer (startE 1 ds))
def g__law_draws_l1 : En → Fl := (sIf (bC gtD (cV 5) (cK (.int 0)))
  (sSeq (sApp 2 (c2 modD (cCl intD (cCons (cV 5) cNil)) (cK (.int 1009))))
  (sSet 5 (c2 fdivD (cV 5) (cK (.int 1009)))))
  sNx)
def g__law_draws_l2 : En → Fl := (sSeq (sSet 5 (cCl absD (cCons (cV 4) cNil)))
  (sSeq (sSet 3 (c2 modD (cCl intD (cCons (c2 addD (c2 addD (c2 mulD (cV 3) (cK (.int 48271))) (cV 5)) (cK (.int 11))) cNil)) (cK (.int 2147483647))))
  (sIf (bC geD (cV 5) (c2 powD (cK (.int 10)) (cK (.int 18))))
  (sFor (iR1 (cK (.int 60))) (gN 6) g__law_draws_l1)
  (sApp 2 (c2 modD (c2 fdivD (cCl intD (cCons (c2 addD (c2 mulD (cV 3) (cK (.int 16807))) (cK (.int 5))) cNil)) (cK (.int 3))) (cK (.int 65521)))))))
def g__law_draws_l3 : En → Fl := (sIf (bC ltD (cCl lenD (cCons (cW 2) cNil)) (cV 1))
  (sSeq (sSet 3 (c2 modD (cCl intD (cCons (c2 addD (c2 addD (c2 mulD (cV 3) (cK (.int 69621))) (cV 6)) (cK (.int 1))) cNil)) (cK (.int 2147483647))))
  (sApp 2 (c2 modD (c2 fdivD (cCl intD (cCons (cV 3) cNil)) (cK (.int 7))) (cK (.int 65521)))))
  sNx)
def g__law_draws : En → Fl := (sSeq (sSetL 2 (cLst cNil))
  (sSeq (sSet 3 (cK (.int 7)))
  (sSeq (sFor (iSeq (cL (cScr 0 63))) (gN 4) g__law_draws_l2)
  (sSeq (sFor (iR1 (cV 1)) (gN 6) g__law_draws_l3)
  (sRet (cSl (cW 2) oN (oS (cV 1))))))))
def F__law_draws (ns : List Int) (m : Int) : R PD := fin (g__law_draws (.sc ns :: .va (.int m) :: List.replicate 5 .un))
def g__law_low_l1 : En → Fl := (sPar 2 3 (cV 3) (c2 modD (cV 2) (cV 3)))
def g__law_low : En → Fl := (sSeq (sPar 2 3 (cCl absD (cCons (cV 0) cNil)) (cCl absD (cCons (cV 1) cNil)))
  (sSeq (whL (bC gtD (cV 3) (cK (.int 0))) g__law_low_l1 fuel)
  (sRet (cTup (cCons (c2 fdivD (cV 0) (cV 2)) (cCons (c2 fdivD (cV 1) (cV 2)) cNil))))))
def F__law_low (ds : List PD) : R PD := fin (g__law_low (startE 4 ds))
def g__law_less : En → Fl := (sRet (c2 ltD (c2 mulD (c2 ixD (cV 0) (cK (.int 0))) (c2 ixD (cV 1) (cK (.int 1)))) (c2 mulD (c2 ixD (cV 1) (cK (.int 0))) (c2 ixD (cV 0) (cK (.int 1))))))
def F__law_less (ds : List PD) : R PD := fin (g__law_less (startE 2 ds))
def g__law_siphon : En → Fl := (sSeq (sPar 2 3 (c2 modD (cCl intD (cCons (c2 ixD (cV 0) (cV 1)) cNil)) (cK (.int 9))) (c2 addD (cK (.int 1)) (c2 modD (cCl intD (cCons (c2 ixD (cV 0) (c2 addD (cV 1) (cK (.int 1)))) cNil)) (cK (.int 7)))))
  (sRet (cTup (cCons (cV 2) (cCons (c2 addD (c2 addD (cV 2) (cK (.int 1))) (c2 modD (c2 fdivD (cCl intD (cCons (c2 ixD (cV 0) (cV 1)) cNil)) (cK (.int 16))) (cK (.int 12)))) (cCons (cV 3) (cCons (c2 addD (c2 addD (cV 3) (cK (.int 1))) (c2 modD (c2 fdivD (cCl intD (cCons (c2 ixD (cV 0) (c2 addD (cV 1) (cK (.int 1)))) cNil)) (cK (.int 16))) (cK (.int 6)))) cNil)))))))
def F__law_siphon (ds : List PD) : R PD := fin (g__law_siphon (startE 4 ds))
def g_quotient : En → Fl := (sSeq (sSet 2 (cCall 2 F_divisor (cCons (cV 0) (cCons (cV 1) cNil))))
  (sRet (cTup (cCons (c2 fdivD (cV 0) (cV 2)) (cCons (c2 fdivD (cV 1) (cV 2)) cNil)))))
def F_quotient (ds : List PD) : R PD := fin (g_quotient (startE 3 ds))
def g_is_quotient : En → Fl := (sSeq (sIf (bOr (bNot (bT (isaD PyData.isTuple (cV 0)))) (bOr (bC neD (cCl lenD (cCons (cV 0) cNil)) (cK (.int 2))) (bOr (bNot (bT (cCall 1 F_is_integer (cCons (c2 ixD (cV 0) (cK (.int 0))) cNil)))) (bNot (bT (cCall 1 F_is_integer (cCons (c2 ixD (cV 0) (cK (.int 1))) cNil)))))))
  (sRet (cK (.bool false)))
  sNx)
  (sRet (cAnd (c2 geD (c2 ixD (cV 0) (cK (.int 0))) (cK (.int 0))) (cAnd (c2 gtD (c2 ixD (cV 0) (cK (.int 1))) (cK (.int 0))) (c2 eqD (cCall 2 F_divisor (cCons (c2 ixD (cV 0) (cK (.int 0))) (cCons (c2 ixD (cV 0) (cK (.int 1))) cNil))) (cK (.int 1)))))))
def F_is_quotient (ds : List PD) : R PD := fin (g_is_quotient (startE 1 ds))
def g__check : En → Fl := (sSeq (sIf (bOr (bNot (bT (isaD PyData.isTuple (cV 0)))) (bC neD (cCl lenD (cCons (cV 0) cNil)) (cK (.int 4))))
  (fun ρ => .ex "BadSiphon" [] ρ)
  sNx)
  (sSeq (sAsg (cV 0) (gT 4 (gC (gN 1) (gC (gN 2) (gC (gN 3) (gC (gN 4) gZ))))))
  (sSeq (sIf (bOr (bNot (bT (cCall 3 F_is_whole (cCons (cV 1) (cCons (cK (.int 0)) (cCons (cK (.int 1000)) cNil)))))) (bOr (bNot (bT (cCall 3 F_is_whole (cCons (cV 2) (cCons (cK (.int 1)) (cCons (cK (.int 1000)) cNil)))))) (bC geD (cV 1) (cV 2))))
  (fun ρ => .ex "BadSiphon" [] ρ)
  sNx)
  (sIf (bOr (bNot (bT (cCall 3 F_is_whole (cCons (cV 3) (cCons (cK (.int 1)) (cCons (cK (.int 100)) cNil)))))) (bOr (bNot (bT (cCall 3 F_is_whole (cCons (cV 4) (cCons (cK (.int 1)) (cCons (cK (.int 100)) cNil)))))) (bC geD (cV 3) (cV 4))))
  (fun ρ => .ex "BadSiphon" [] ρ)
  sNx))))
def F__check (ds : List PD) : R PD := fin (g__check (startE 5 ds))
def g__law_plus : En → Fl := (sRet (cCall 2 F__law_low (cCons (c2 addD (c2 mulD (c2 ixD (cV 0) (cK (.int 0))) (c2 ixD (cV 1) (cK (.int 1)))) (c2 mulD (c2 ixD (cV 1) (cK (.int 0))) (c2 ixD (cV 0) (cK (.int 1))))) (cCons (c2 mulD (c2 ixD (cV 0) (cK (.int 1))) (c2 ixD (cV 1) (cK (.int 1)))) cNil))))
def F__law_plus (ds : List PD) : R PD := fin (g__law_plus (startE 2 ds))
def g__law_times : En → Fl := (sRet (cIf (bC neD (cV 1) (cK (.int 0))) (cCall 2 F__law_low (cCons (c2 mulD (c2 ixD (cV 0) (cK (.int 0))) (cV 1)) (cCons (c2 ixD (cV 0) (cK (.int 1))) cNil))) (cTup (cCons (cK (.int 0)) (cCons (cK (.int 1)) cNil)))))
def F__law_times (ds : List PD) : R PD := fin (g__law_times (startE 2 ds))
def g__law_rounds : En → Fl := (sSeq (sAsg (cV 0) (gT 4 (gC (gN 1) (gC (gN 2) (gC (gN 3) (gC (gN 4) gZ))))))
  (sRet (cTup (cCons (cCall 2 F__law_low (cCons (c2 subD (cV 2) (cV 1)) (cCons (cV 3) cNil))) (cCons (cCall 2 F__law_low (cCons (c2 subD (cV 2) (cV 1)) (cCons (c2 subD (cV 4) (cV 3)) cNil))) cNil)))))
def F__law_rounds (ds : List PD) : R PD := fin (g__law_rounds (startE 5 ds))
def g_plus : En → Fl := (sRet (cCall 2 F_quotient (cCons (c2 addD (c2 mulD (c2 ixD (cV 0) (cK (.int 0))) (c2 ixD (cV 1) (cK (.int 1)))) (c2 mulD (c2 ixD (cV 1) (cK (.int 0))) (c2 ixD (cV 0) (cK (.int 1))))) (cCons (c2 mulD (c2 ixD (cV 0) (cK (.int 1))) (c2 ixD (cV 1) (cK (.int 1)))) cNil))))
def F_plus (ds : List PD) : R PD := fin (g_plus (startE 2 ds))
def g_times : En → Fl := (sRet (cCall 2 F_quotient (cCons (c2 mulD (c2 ixD (cV 0) (cK (.int 0))) (cV 1)) (cCons (c2 ixD (cV 0) (cK (.int 1))) cNil))))
def F_times (ds : List PD) : R PD := fin (g_times (startE 2 ds))
def g__rise : En → Fl := (sRet (cCall 2 F_quotient (cCons (c2 subD (c2 ixD (cV 0) (cK (.int 1))) (c2 ixD (cV 0) (cK (.int 0)))) (cCons (c2 ixD (cV 0) (cK (.int 2))) cNil))))
def F__rise (ds : List PD) : R PD := fin (g__rise (startE 1 ds))
def g__fall : En → Fl := (sRet (cCall 2 F_quotient (cCons (c2 subD (c2 ixD (cV 0) (cK (.int 1))) (c2 ixD (cV 0) (cK (.int 0)))) (cCons (c2 subD (c2 ixD (cV 0) (cK (.int 3))) (c2 ixD (cV 0) (cK (.int 2)))) cNil))))
def F__fall (ds : List PD) : R PD := fin (g__fall (startE 1 ds))
def g__check_time : En → Fl := (sSeq (sDrop (cCall 1 F__check (cCons (cV 0) cNil)))
  (sIf (bOr (bNot (bT (cCall 1 F_is_quotient (cCons (cV 1) cNil)))) (bT (cCall 2 F_is_less (cCons (cTup (cCons (cK (.int 1000000000000)) (cCons (cK (.int 1)) cNil))) (cCons (cV 1) cNil)))))
  (fun ρ => .ex "BadTime" [] ρ)
  sNx))
def F__check_time (ds : List PD) : R PD := fin (g__check_time (startE 2 ds))
def g__law_minus : En → Fl := (sRet (cCall 2 F__law_plus (cCons (cV 0) (cCons (cTup (cCons (c2 subD (cK (.int 0)) (c2 ixD (cV 1) (cK (.int 0)))) (cCons (c2 ixD (cV 1) (cK (.int 1))) cNil))) cNil))))
def F__law_minus (ds : List PD) : R PD := fin (g__law_minus (startE 2 ds))
def g_minus : En → Fl := (sRet (cCall 2 F_plus (cCons (cV 0) (cCons (cCall 2 F_times (cCons (cV 1) (cCons (c1 negD (cK (.int 1))) cNil))) cNil))))
def F_minus (ds : List PD) : R PD := fin (g_minus (startE 2 ds))
def g__again : En → Fl := (sRet (cCall 2 F_plus (cCons (cCall 1 F__rise (cCons (cV 0) cNil)) (cCons (cCall 1 F__fall (cCons (cV 0) cNil)) cNil))))
def F__again (ds : List PD) : R PD := fin (g__again (startE 1 ds))
def g__law_at_l1 : En → Fl := (sSeq (sIf (bT (cCall 2 F__law_less (cCons (cV 1) (cCons (cV 6) cNil))))
  (sRet (cTup (cCons (cCall 2 F__law_plus (cCons (cTup (cCons (cV 2) (cCons (cK (.int 1)) cNil))) (cCons (cCall 2 F__law_times (cCons (cV 1) (cCons (cV 4) cNil))) cNil))) (cCons (cV 8) (cCons (cV 9) cNil)))))
  sNx)
  (sSeq (sPar 1 8 (cCall 2 F__law_minus (cCons (cV 1) (cCons (cV 6) cNil))) (c2 addD (cV 8) (cK (.int 1))))
  (sSeq (sIf (bT (cCall 2 F__law_less (cCons (cV 1) (cCons (cV 7) cNil))))
  (sRet (cTup (cCons (cCall 2 F__law_minus (cCons (cTup (cCons (cV 3) (cCons (cK (.int 1)) cNil))) (cCons (cCall 2 F__law_times (cCons (cV 1) (cCons (c2 subD (cV 5) (cV 4)) cNil))) cNil))) (cCons (cV 8) (cCons (cCall 2 F__law_plus (cCons (cV 9) (cCons (cCall 2 F__law_times (cCons (cV 1) (cCons (cV 5) cNil))) cNil))) cNil)))))
  sNx)
  (sPar 1 9 (cCall 2 F__law_minus (cCons (cV 1) (cCons (cV 7) cNil))) (cCall 2 F__law_plus (cCons (cV 9) (cCons (cCall 2 F__law_times (cCons (cV 7) (cCons (cV 5) cNil))) cNil)))))))
def g__law_at : En → Fl := (sSeq (sAsg (cV 0) (gT 4 (gC (gN 2) (gC (gN 3) (gC (gN 4) (gC (gN 5) gZ))))))
  (sSeq (sAsg (cCall 1 F__law_rounds (cCons (cV 0) cNil)) (gT 2 (gC (gN 6) (gC (gN 7) gZ))))
  (sSeq (sAsg (cTup (cCons (cK (.int 0)) (cCons (cTup (cCons (cK (.int 0)) (cCons (cK (.int 1)) cNil))) cNil))) (gT 2 (gC (gN 8) (gC (gN 9) gZ))))
  (sSeq (sFor (iR1 (cK (.int 100000))) (gN 10) g__law_at_l1)
  (sRet (cK .none))))))
def F__law_at (ds : List PD) : R PD := fin (g__law_at (startE 11 ds))
def g_siphon_again : En → Fl := (sSeq (sDrop (cCall 1 F__check (cCons (cV 0) cNil)))
  (sRet (cCall 1 F__again (cCons (cV 0) cNil))))
def F_siphon_again (ds : List PD) : R PD := fin (g_siphon_again (startE 1 ds))
def g__rounds : En → Fl := (sSeq (sSet 2 (cCall 1 F__again (cCons (cV 0) cNil)))
  (sSeq (sSet 3 (c2 fdivD (c2 mulD (c2 ixD (cV 1) (cK (.int 0))) (c2 ixD (cV 2) (cK (.int 1)))) (c2 mulD (c2 ixD (cV 1) (cK (.int 1))) (c2 ixD (cV 2) (cK (.int 0))))))
  (sRet (cTup (cCons (cV 3) (cCons (cCall 2 F_minus (cCons (cV 1) (cCons (cCall 2 F_times (cCons (cV 2) (cCons (cV 3) cNil))) cNil))) cNil))))))
def F__rounds (ds : List PD) : R PD := fin (g__rounds (startE 4 ds))
def g_siphon_time : En → Fl := (sSeq (sDrop (cCall 1 F__check (cCons (cV 0) cNil)))
  (sSeq (sIf (bNot (bT (cCall 3 F_is_whole (cCons (cV 1) (cCons (cK (.int 1)) (cCons (cK (.int 1000000000000)) cNil))))))
  (fun ρ => .ex "BadMany" [] ρ)
  sNx)
  (sRet (cCall 2 F_plus (cCons (cCall 2 F_times (cCons (cCall 1 F__again (cCons (cV 0) cNil)) (cCons (c2 subD (cV 1) (cK (.int 1))) cNil))) (cCons (cCall 1 F__rise (cCons (cV 0) cNil)) cNil))))))
def F_siphon_time (ds : List PD) : R PD := fin (g_siphon_time (startE 2 ds))
def g_rates_again_l1 : En → Fl := (sIf (bC eqD (cCall 1 F__again (cCons (cTup (cCons (cV 0) (cCons (cV 1) (cCons (cV 4) (cCons (cV 5) cNil))))) cNil)) (cV 2))
  (sApp 3 (cTup (cCons (cV 4) (cCons (cV 5) cNil))))
  sNx)
def g_rates_again_l2 : En → Fl := (sFor (iR2 (c2 addD (cV 4) (cK (.int 1))) (c2 addD (cK (.int 100)) (cK (.int 1)))) (gN 5) g_rates_again_l1)
def g_rates_again : En → Fl := (sSeq (sDrop (cCall 1 F__check (cCons (cTup (cCons (cV 0) (cCons (cV 1) (cCons (cK (.int 1)) (cCons (cK (.int 100)) cNil))))) cNil)))
  (sSeq (sIf (bOr (bNot (bT (cCall 1 F_is_quotient (cCons (cV 2) cNil)))) (bT (cCall 2 F_is_less (cCons (cTup (cCons (cK (.int 1000000000000)) (cCons (cK (.int 1)) cNil))) (cCons (cV 2) cNil)))))
  (fun ρ => .ex "BadTime" [] ρ)
  sNx)
  (sSeq (sSetL 3 (cLst cNil))
  (sSeq (sFor (iR2 (cK (.int 1)) (cK (.int 100))) (gN 4) g_rates_again_l2)
  (sRet (cCl tupD (cCons (cW 3) cNil)))))))
def F_rates_again (ds : List PD) : R PD := fin (g_rates_again (startE 6 ds))
def g_both_run : En → Fl := (sSeq (sDrop (cCall 1 F__check (cCons (cV 0) cNil)))
  (sSeq (sDrop (cCall 1 F__check (cCons (cV 1) cNil)))
  (sSeq (sPar 2 3 (cCall 1 F__again (cCons (cV 0) cNil)) (cCall 1 F__again (cCons (cV 1) cNil)))
  (sSeq (sSet 4 (cCall 2 F_quotient (cCons (c2 mulD (c2 ixD (cV 2) (cK (.int 0))) (c2 ixD (cV 3) (cK (.int 1)))) (cCons (c2 mulD (c2 ixD (cV 2) (cK (.int 1))) (c2 ixD (cV 3) (cK (.int 0)))) cNil))))
  (sRet (cCall 2 F_times (cCons (cV 2) (cCons (c2 ixD (cV 4) (cK (.int 1))) cNil))))))))
def F_both_run (ds : List PD) : R PD := fin (g_both_run (startE 5 ds))
def g_siphon_level : En → Fl := (sSeq (sDrop (cCall 2 F__check_time (cCons (cV 0) (cCons (cV 1) cNil))))
  (sSeq (sSet 2 (c2 ixD (cCall 2 F__rounds (cCons (cV 0) (cCons (cV 1) cNil))) (cK (.int 1))))
  (sSeq (sSet 3 (cCall 1 F__rise (cCons (cV 0) cNil)))
  (sSeq (sIf (bNot (bT (cCall 2 F_is_less (cCons (cV 3) (cCons (cV 2) cNil)))))
  (sRet (cCall 2 F_plus (cCons (cTup (cCons (c2 ixD (cV 0) (cK (.int 0))) (cCons (cK (.int 1)) cNil))) (cCons (cCall 2 F_times (cCons (cV 2) (cCons (c2 ixD (cV 0) (cK (.int 2))) cNil))) cNil))))
  sNx)
  (sRet (cCall 2 F_minus (cCons (cTup (cCons (c2 ixD (cV 0) (cK (.int 1))) (cCons (cK (.int 1)) cNil))) (cCons (cCall 2 F_times (cCons (cCall 2 F_minus (cCons (cV 2) (cCons (cV 3) cNil))) (cCons (c2 subD (c2 ixD (cV 0) (cK (.int 3))) (c2 ixD (cV 0) (cK (.int 2)))) cNil))) cNil))))))))
def F_siphon_level (ds : List PD) : R PD := fin (g_siphon_level (startE 4 ds))
def g_siphon_runs : En → Fl := (sSeq (sDrop (cCall 2 F__check_time (cCons (cV 0) (cCons (cV 1) cNil))))
  (sSeq (sAsg (cCall 2 F__rounds (cCons (cV 0) (cCons (cV 1) cNil))) (gT 2 (gC (gN 2) (gC (gN 3) gZ))))
  (sSeq (sSet 4 (cCall 1 F__rise (cCons (cV 0) cNil)))
  (sSeq (sSet 5 (cIf (bT (cCall 2 F_is_less (cCons (cV 3) (cCons (cV 4) cNil)))) (cK (.tuple [.int 0, .int 1])) (cCall 2 F_minus (cCons (cV 3) (cCons (cV 4) cNil)))))
  (sSeq (sSet 6 (cCall 2 F_times (cCons (cCall 2 F_plus (cCons (cCall 2 F_times (cCons (cCall 1 F__fall (cCons (cV 0) cNil)) (cCons (cV 2) cNil))) (cCons (cV 5) cNil))) (cCons (c2 ixD (cV 0) (cK (.int 3))) cNil))))
  (sRet (cTup (cCons (c2 addD (cV 2) (cIf (bT (cCall 2 F_is_less (cCons (cV 3) (cCons (cV 4) cNil)))) (cK (.int 0)) (cK (.int 1)))) (cCons (cV 6) cNil)))))))))
def F_siphon_runs (ds : List PD) : R PD := fin (g_siphon_runs (startE 7 ds))
def g__law_word : En → Fl := (sSeq (sTry excs
  (sIf (bC eqD (cV 0) (cK (.int 0)))
  (sDrop (cCall 1 F_siphon_again (cCons (cV 1) cNil)))
  (sIf (bC eqD (cV 0) (cK (.int 1)))
  (sDrop (cCall 2 F_siphon_level (cCons (cV 1) (cCons (cV 2) cNil))))
  (sIf (bC eqD (cV 0) (cK (.int 2)))
  (sDrop (cCall 2 F_siphon_runs (cCons (cV 1) (cCons (cV 2) cNil))))
  (sIf (bC eqD (cV 0) (cK (.int 3)))
  (sDrop (cCall 2 F_siphon_time (cCons (cV 1) (cCons (cV 2) cNil))))
  (sIf (bC eqD (cV 0) (cK (.int 4)))
  (sDrop (cCall 2 F_both_run (cCons (cV 1) (cCons (cV 2) cNil))))
  (sDrop (cCall 3 F_rates_again (cCons (cV 1) (cCons (cV 2) (cCons (cV 3) cNil))))))))))
  (("BadSiphon", (sRet (cK (.str "siphon")))) :: (("BadTime", (sRet (cK (.str "time")))) :: (("BadMany", (sRet (cK (.str "many")))) :: []))))
  (sRet (cK (.str "none"))))
def F__law_word (ds : List PD) : R PD := fin (g__law_word (startE 4 ds))
def g_law_l1 : En → Fl := (sSeq (sSet 13 (c2 ixD (cL (cLst (cCons (cTup (cCons (cK (.int 0)) (cCons (cK (.int 1)) cNil))) (cCons (cV 9) (cCons (cV 11) (cCons (cCall 2 F__law_low (cCons (c2 addD (cK (.int 1)) (c2 modD (cCl intD (cCons (c2 ixD (cV 1) (c2 addD (cK (.int 30)) (cV 2))) cNil)) (cK (.int 90)))) (cCons (c2 addD (cK (.int 1)) (c2 modD (cCl intD (cCons (c2 ixD (cV 1) (c2 addD (cK (.int 35)) (cV 2))) cNil)) (cK (.int 6)))) cNil))) (cCons (cCall 2 F__law_plus (cCons (cV 11) (cCons (cV 9) cNil))) (cCons (cCall 2 F__law_low (cCons (c2 addD (cK (.int 1)) (c2 modD (cCl intD (cCons (c2 ixD (cV 1) (cK (.int 40))) cNil)) (cK (.int 200)))) (cCons (cK (.int 7)) cNil))) cNil)))))))) (cV 12)))
  (sSeq (sAsg (cCall 2 F__law_at (cCons (cV 3) (cCons (cV 13) cNil))) (gT 3 (gC (gN 14) (gC (gN 15) (gC (gN 16) gZ)))))
  (sSeq (sIf (bOr (bC neD (cCall 2 F_siphon_level (cCons (cV 3) (cCons (cV 13) cNil))) (cV 14)) (bOr (bC neD (cCall 2 F_siphon_runs (cCons (cV 3) (cCons (cV 13) cNil))) (cTup (cCons (cV 15) (cCons (cV 16) cNil)))) (bT (isaD PyData.isBool (c2 ixD (cCall 2 F_siphon_runs (cCons (cV 3) (cCons (cV 13) cNil))) (cK (.int 0)))))))
  (sRet (cK (.bool false)))
  sNx)
  (sSeq (sIf (bC neD (cCall 2 F__law_plus (cCons (cCall 2 F__law_minus (cCons (cV 14) (cCons (cTup (cCons (cV 5) (cCons (cK (.int 1)) cNil))) cNil))) (cCons (cV 16) cNil))) (cCall 2 F__law_times (cCons (cV 13) (cCons (cV 7) cNil))))
  (sRet (cK (.bool false)))
  sNx)
  (sSeq (sSet 17 (c2 addD (c2 mulD (cCl intD (cCons (c2 ixD (cV 1) (c2 addD (cK (.int 45)) (cV 12))) cNil)) (cK (.int 1000))) (cK (.int 7))))
  (sSeq (sSet 18 (cCall 2 F__law_plus (cCons (cV 13) (cCons (cCall 2 F__law_times (cCons (cV 11) (cCons (cV 17) cNil))) cNil))))
  (sIf (bOr (bC neD (cCall 2 F_siphon_level (cCons (cV 3) (cCons (cV 18) cNil))) (cV 14)) (bC neD (cCall 2 F_siphon_runs (cCons (cV 3) (cCons (cV 18) cNil))) (cTup (cCons (c2 addD (cV 15) (cV 17)) (cCons (cCall 2 F__law_plus (cCons (cV 16) (cCons (cCall 2 F__law_times (cCons (cCall 2 F__law_times (cCons (cV 10) (cCons (cV 8) cNil))) (cCons (cV 17) cNil))) cNil))) cNil)))))
  (sRet (cK (.bool false)))
  sNx)))))))
def g_law_l2 : En → Fl := (sSeq (sSet 20 (cCall 2 F_siphon_time (cCons (cV 3) (cCons (cV 19) cNil))))
  (sIf (bOr (bC neD (cV 20) (cCall 2 F__law_plus (cCons (cV 9) (cCons (cCall 2 F__law_times (cCons (cV 11) (cCons (c2 subD (cV 19) (cK (.int 1))) cNil))) cNil)))) (bOr (bC neD (c2 ixD (cCall 2 F_siphon_runs (cCons (cV 3) (cCons (cV 20) cNil))) (cK (.int 0))) (cV 19)) (bC neD (cCall 2 F_siphon_level (cCons (cV 3) (cCons (cV 20) cNil))) (cTup (cCons (cV 6) (cCons (cK (.int 1)) cNil))))))
  (sRet (cK (.bool false)))
  sNx))
def g_law_l3 : En → Fl := (sPar 22 23 (cCall 2 F__law_plus (cCons (cV 22) (cCons (cV 11) cNil))) (c2 addD (cV 23) (cK (.int 1))))
def g_law_l4 : En → Fl := (sIf (bC neD (c2 addD (cL (cLc [28] (iR1 (cK (.int 5))) (gN 28) bYes (cCall 4 F__law_word (cCons (cV 28) (cCons (cV 25) (cCons (cK .none) (cCons (cK .none) cNil))))))) (cL (cLst (cCons (cCall 4 F__law_word (cCons (cK (.int 4)) (cCons (cV 3) (cCons (cV 25) (cCons (cK .none) cNil))))) cNil)))) (cL (cRepL (cLst (cCons (cK (.str "siphon")) cNil)) (cK (.int 6)))))
  (sRet (cK (.bool false)))
  sNx)
def g_law_l5 : En → Fl := (sIf (bC neD (c2 addD (cL (cLc [28] (iSeq (cTup (cCons (cK (.int 1)) (cCons (cK (.int 2)) cNil)))) (gN 28) bYes (cCall 4 F__law_word (cCons (cV 28) (cCons (cV 3) (cCons (cV 25) (cCons (cK .none) cNil))))))) (cL (cLst (cCons (cCall 4 F__law_word (cCons (cK (.int 5)) (cCons (cV 5) (cCons (cV 6) (cCons (cV 25) cNil))))) cNil)))) (cL (cRepL (cLst (cCons (cK (.str "time")) cNil)) (cK (.int 3)))))
  (sRet (cK (.bool false)))
  sNx)
def g_law_l6 : En → Fl := (sSeq (sAsg (cTup (cCons (cCall 2 F__law_siphon (cCons (cV 1) (cCons (c2 mulD (cK (.int 4)) (cV 2)) cNil))) (cCons (cCall 2 F__law_siphon (cCons (cV 1) (cCons (c2 addD (c2 mulD (cK (.int 4)) (cV 2)) (cK (.int 2))) cNil))) cNil))) (gT 2 (gC (gN 3) (gC (gN 4) gZ))))
  (sSeq (sAsg (cV 3) (gT 4 (gC (gN 5) (gC (gN 6) (gC (gN 7) (gC (gN 8) gZ))))))
  (sSeq (sAsg (cCall 1 F__law_rounds (cCons (cV 3) cNil)) (gT 2 (gC (gN 9) (gC (gN 10) gZ))))
  (sSeq (sSet 11 (cCall 2 F__law_plus (cCons (cV 9) (cCons (cV 10) cNil))))
  (sSeq (sIf (bC neD (cCall 1 F_siphon_again (cCons (cV 3) cNil)) (cV 11))
  (sRet (cK (.bool false)))
  sNx)
  (sSeq (sFor (iR1 (cK (.int 6))) (gN 12) g_law_l1)
  (sSeq (sFor (iSeq (cL (cLst (cCons (cK (.int 1)) (cCons (cK (.int 2)) (cCons (cK (.int 5)) (cCons (c2 addD (cK (.int 1)) (cCl intD (cCons (c2 ixD (cV 1) (cK (.int 50))) cNil))) (cCons (c2 powD (cK (.int 10)) (cK (.int 6))) cNil)))))))) (gN 19) g_law_l2)
  (sSeq (sPar3 21 22 23 (cCall 2 F__law_plus (cCons (c2 ixD (cCall 1 F__law_rounds (cCons (cV 4) cNil)) (cK (.int 0))) (cCons (c2 ixD (cCall 1 F__law_rounds (cCons (cV 4) cNil)) (cK (.int 1))) cNil))) (cV 11) (cK (.int 1)))
  (sSeq (whL (bC neD (c2 mulD (c2 mulD (c2 fdivD (c2 mulD (c2 ixD (cV 22) (cK (.int 0))) (c2 ixD (cV 21) (cK (.int 1)))) (c2 mulD (c2 ixD (cV 22) (cK (.int 1))) (c2 ixD (cV 21) (cK (.int 0))))) (c2 ixD (cV 21) (cK (.int 0)))) (c2 ixD (cV 22) (cK (.int 1)))) (c2 mulD (c2 ixD (cV 22) (cK (.int 0))) (c2 ixD (cV 21) (cK (.int 1))))) g_law_l3 fuel)
  (sSeq (sIf (bOr (bC neD (cCall 2 F_both_run (cCons (cV 3) (cCons (cV 4) cNil))) (cV 22)) (bC neD (cCall 2 F_both_run (cCons (cV 4) (cCons (cV 3) cNil))) (cV 22)))
  (sRet (cK (.bool false)))
  sNx)
  (sSeq (sSet 24 (cL (cLst (cCons (cK .none) (cCons (cTup cNil) (cCons (cL (cClF items1 (cCons (cV 3) cNil))) (cCons (cSl (cV 3) oN (oS (cK (.int 3)))) (cCons (c2 addD (cV 3) (cTup (cCons (cK (.int 0)) cNil))) (cCons (cTup (cCons (cV 6) (cCons (cV 5) (cCons (cV 7) (cCons (cV 8) cNil))))) (cCons (cTup (cCons (cV 5) (cCons (cV 5) (cCons (cK (.int 1)) (cCons (cK (.int 2)) cNil))))) cNil))))))))))
  (sSeq (sFor (iSeq (c2 addD (cV 24) (cL (cLst (cCons (cTup (cCons (cV 5) (cCons (cV 6) (cCons (cV 8) (cCons (cV 7) cNil))))) (cCons (cTup (cCons (cV 5) (cCons (cV 6) (cCons (cK (.int 0)) (cCons (cK (.int 1)) cNil))))) (cCons (cTup (cCons (cV 5) (cCons (cV 6) (cCons (cK (.int 1)) (cCons (cK (.int 101)) cNil))))) (cCons (cTup (cCons (c1 negD (cK (.int 1))) (cCons (cV 6) (cCons (cK (.int 1)) (cCons (cK (.int 2)) cNil))))) (cCons (cTup (cCons (cK (.int 0)) (cCons (cK (.int 1001)) (cCons (cK (.int 1)) (cCons (cK (.int 2)) cNil))))) (cCons (cTup (cCons (cK (.bool true)) (cCons (cV 6) (cCons (cK (.int 1)) (cCons (cK (.int 2)) cNil))))) cNil)))))))))) (gN 25) g_law_l4)
  (sSeq (sFor (iSeq (cL (cLst (cCons (cK .none) (cCons (cK (.int 5)) (cCons (cTup (cCons (c1 negD (cK (.int 1))) (cCons (cK (.int 1)) cNil))) (cCons (cTup (cCons (cK (.int 2)) (cCons (cK (.int 4)) cNil))) (cCons (cTup (cCons (c2 addD (c2 powD (cK (.int 10)) (cK (.int 12))) (cK (.int 1))) (cCons (cK (.int 1)) cNil))) (cCons (cTup (cCons (cK (.bool true)) (cCons (cK (.int 1)) cNil))) cNil))))))))) (gN 25) g_law_l5)
  (sSeq (sIf (bC neD (cL (cLc [25] (iSeq (cL (cLst (cCons (cK .none) (cCons (cK (.int 0)) (cCons (c2 addD (c2 powD (cK (.int 10)) (cK (.int 12))) (cK (.int 1))) (cCons (cK (.bool true)) cNil))))))) (gN 25) bYes (cCall 4 F__law_word (cCons (cK (.int 3)) (cCons (cV 3) (cCons (cV 25) (cCons (cK .none) cNil))))))) (cL (cRepL (cLst (cCons (cK (.str "many")) cNil)) (cK (.int 4)))))
  (sRet (cK (.bool false)))
  sNx)
  (sIf (bC neD (cL (cLst (cCons (cCall 4 F__law_word (cCons (cK (.int 5)) (cCons (cV 6) (cCons (cV 5) (cCons (cK .none) cNil))))) (cCons (cCall 4 F__law_word (cCons (cK (.int 5)) (cCons (cK .none) (cCons (cV 6) (cCons (cK .none) cNil))))) (cCons (cCall 4 F__law_word (cCons (cK (.int 5)) (cCons (cV 5) (cCons (cK (.int 1001)) (cCons (cK .none) cNil))))) cNil))))) (cL (cRepL (cLst (cCons (cK (.str "siphon")) cNil)) (cK (.int 3)))))
  (sRet (cK (.bool false)))
  sNx)))))))))))))))
def g_law_l7 : En → Fl := (sSet 27 (c2 addD (cV 27) (cL (cLc [16] (iR2 (c2 addD (cV 7) (cK (.int 1))) (cK (.int 101))) (gN 16) (bC eqD (c2 mulD (c2 mulD (cV 26) (cV 16)) (c2 ixD (cV 13) (cK (.int 1)))) (c2 mulD (c2 mulD (cV 7) (c2 subD (cV 16) (cV 7))) (c2 ixD (cV 13) (cK (.int 0))))) (cTup (cCons (cV 7) (cCons (cV 16) cNil)))))))
def g_law : En → Fl := (sSeq (sSet 1 (cDr F__law_draws 0 60))
  (sSeq (sFor (iR1 (cK (.int 5))) (gN 2) g_law_l6)
  (sSeq (sAsg (cTup (cCons (c2 addD (cK (.int 1)) (c2 modD (cCl intD (cCons (c2 ixD (cV 1) (cK (.int 55))) cNil)) (cK (.int 9)))) (cCons (cCall 2 F__law_low (cCons (c2 addD (cK (.int 1)) (c2 modD (cCl intD (cCons (c2 ixD (cV 1) (cK (.int 56))) cNil)) (cK (.int 12)))) (cCons (c2 addD (cK (.int 1)) (c2 modD (cCl intD (cCons (c2 ixD (cV 1) (cK (.int 57))) cNil)) (cK (.int 3)))) cNil))) cNil))) (gT 2 (gC (gN 26) (gC (gN 13) gZ))))
  (sSeq (sSet 27 (cL (cLst cNil)))
  (sSeq (sFor (iR2 (cK (.int 1)) (cK (.int 101))) (gN 7) g_law_l7)
  (sSeq (sIf (bC neD (cCall 3 F_rates_again (cCons (cK (.int 3)) (cCons (c2 addD (cK (.int 3)) (cV 26)) (cCons (cV 13) cNil)))) (cCl tupD (cCons (cV 27) cNil)))
  (sRet (cK (.bool false)))
  sNx)
  (sSeq (sSet 3 (cTup (cCons (cK (.int 2)) (cCons (cK (.int 10)) (cCons (cK (.int 2)) (cCons (cK (.int 6)) cNil))))))
  (sSeq (sIf (bOr (bC neD (cCall 1 F_siphon_again (cCons (cV 3) cNil)) (cTup (cCons (cK (.int 6)) (cCons (cK (.int 1)) cNil)))) (bC neD (cCall 2 F_siphon_level (cCons (cV 3) (cCons (cTup (cCons (cK (.int 5)) (cCons (cK (.int 1)) cNil))) cNil))) (cTup (cCons (cK (.int 6)) (cCons (cK (.int 1)) cNil)))))
  (sRet (cK (.bool false)))
  sNx)
  (sRet (cAnd (c2 eqD (cCall 2 F_siphon_runs (cCons (cV 3) (cCons (cTup (cCons (cK (.int 5)) (cCons (cK (.int 1)) cNil))) cNil))) (cTup (cCons (cK (.int 1)) (cCons (cTup (cCons (cK (.int 6)) (cCons (cK (.int 1)) cNil))) cNil)))) (cAnd (c2 eqD (cCall 2 F_both_run (cCons (cV 3) (cCons (cTup (cCons (cK (.int 0)) (cCons (cK (.int 2)) (cCons (cK (.int 1)) (cCons (cK (.int 2)) cNil))))) cNil))) (cTup (cCons (cK (.int 12)) (cCons (cK (.int 1)) cNil)))) (c2 eqD (cCall 2 F_siphon_time (cCons (cV 3) (cCons (c2 powD (cK (.int 10)) (cK (.int 12))) cNil))) (cTup (cCons (c2 subD (c2 mulD (cK (.int 6)) (c2 powD (cK (.int 10)) (cK (.int 12)))) (cK (.int 2))) (cCons (cK (.int 1)) cNil)))))))))))))))
def F_law (ns : List Int) : R PD := fin (g_law (.sc ns :: List.replicate 28 .un))
end
end K95
namespace K95
open PySem PySem.Spec L2 DL
/-! ### quotients are rational numbers -/
def encQ (q : Rat) : PD := .tuple [.int q.num, .int (q.den : Nat)]
theorem gcd1 : ∀ (n a b : Nat), b < n → whL (bC gtD (cV 1) (cK (.int 0))) g_divisor_l1 n [.va (.int (a : Nat)), .va (.int (b : Nat))] = .nx [.va (.int (Nat.gcd a b : Nat)), .va (.int 0)]
  | 0, a, b, h => absurd h (Nat.not_lt_zero _)
  | n + 1, a, b, h => by
    rw [whL]
    by_cases hb : 0 < b
    · have hb' : (0 : Int) < (b : Int) := by omega
      have ih := gcd1 n b (a % b) (by have := Nat.mod_lt a hb; omega)
      have e : Nat.gcd b (a % b) = Nat.gcd a b := by rw [Nat.gcd_comm b, ← Nat.gcd_rec, Nat.gcd_comm]
      rw [e] at ih
      rw [Int.natCast_emod] at ih
      have st : g_divisor_l1 [.va (.int (a : Nat)), .va (.int (b : Nat))] = .nx [.va (.int (b : Nat)), .va (.int ((a : Int) % (b : Int)))] := by simp [g_divisor_l1, hb]
      simp [hb, st]
      exact ih
    · have : b = 0 := by omega
      subst this
      simp
theorem gcd2 (x y : Sl) : ∀ (n a b : Nat), b < n → whL (bC gtD (cV 3) (cK (.int 0))) g__law_low_l1 n [x, y, .va (.int (a : Nat)), .va (.int (b : Nat))] = .nx [x, y, .va (.int (Nat.gcd a b : Nat)), .va (.int 0)]
  | 0, a, b, h => absurd h (Nat.not_lt_zero _)
  | n + 1, a, b, h => by
    rw [whL]
    by_cases hb : 0 < b
    · have hb' : (0 : Int) < (b : Int) := by omega
      have ih := gcd2 x y n b (a % b) (by have := Nat.mod_lt a hb; omega)
      have e : Nat.gcd b (a % b) = Nat.gcd a b := by rw [Nat.gcd_comm b, ← Nat.gcd_rec, Nat.gcd_comm]
      rw [e] at ih
      rw [Int.natCast_emod] at ih
      have st : g__law_low_l1 [x, y, .va (.int (a : Nat)), .va (.int (b : Nat))] = .nx [x, y, .va (.int (b : Nat)), .va (.int ((a : Int) % (b : Int)))] := by simp [g__law_low_l1, hb]
      simp [hb, st]
      exact ih
    · have : b = 0 := by omega
      subst this
      simp
theorem abs_nat (i : Int) : (if i < 0 then -i else i) = ((i.natAbs : Nat) : Int) := by split <;> omega
theorem divisor_eq (a b : Int) (hb : b.natAbs < 1000000000) : F_divisor [.int a, .int b] = .ok (.int (Nat.gcd a.natAbs b.natAbs : Nat)) := by
  have e := gcd1 fuel a.natAbs b.natAbs (Nat.lt_of_lt_of_le hb fuel_ge)
  simp [F_divisor, g_divisor, startE, abs_nat]
  simp [e]
/-- in lowest terms -/
theorem low_rat (u : Int) (d : Nat) (hd : 0 < d) : u / ((Nat.gcd u.natAbs d : Nat) : Int) = (mkRat u d).num ∧ (d : Int) / ((Nat.gcd u.natAbs d : Nat) : Int) = ((mkRat u d).den : Nat) := by
  rw [Rat.num_mkRat, Rat.den_mkRat, if_neg (by omega), if_neg (by omega), Nat.gcd_comm]
  exact ⟨rfl, by rw [Int.natCast_ediv]⟩
theorem gcd_fit {u : Int} {d : Nat} (h0 : 0 < d) (h : d < 1000000000) : (0 : Int) < ((Nat.gcd u.natAbs d : Nat) : Int) ∧ ((Nat.gcd u.natAbs d : Nat) : Int) < 1073741824 := by
  have h1 := Nat.gcd_pos_of_pos_right u.natAbs h0
  have h2 := Nat.gcd_le_right u.natAbs h0
  omega
theorem quotient_eq (u : Int) (d : Nat) (h0 : 0 < d) (h : d < 1000000000) : F_quotient [.int u, .int (d : Nat)] = .ok (encQ (mkRat u d)) := by
  have e := divisor_eq u d (by simpa using h)
  rw [Int.natAbs_natCast] at e
  obtain ⟨l1, l2⟩ := low_rat u d h0
  obtain ⟨f1, f2⟩ := gcd_fit (u := u) h0 h
  generalize ((Nat.gcd u.natAbs d : Nat) : Int) = g at e l1 l2 f1 f2
  simp only [F_quotient, g_quotient, startE]
  simp [e, f1, f2, encQ, big, l1, l2]
theorem law_low_eq (u : Int) (d : Nat) (h0 : 0 < d) (h : d < 1000000000) : F__law_low [.int u, .int (d : Nat)] = .ok (encQ (mkRat u d)) := by
  have e := gcd2 (.va (.int u)) (.va (.int (d : Nat))) fuel u.natAbs d (Nat.lt_of_lt_of_le h fuel_ge)
  obtain ⟨l1, l2⟩ := low_rat u d h0
  obtain ⟨f1, f2⟩ := gcd_fit (u := u) h0 h
  have hd : ¬ ((d : Int) < 0) := by omega
  have ha : (if u < 0 then -u else u) = ((u.natAbs : Nat) : Int) := abs_nat u
  generalize ((Nat.gcd u.natAbs d : Nat) : Int) = g at e l1 l2 f1 f2
  generalize ((u.natAbs : Nat) : Int) = v at e ha
  simp only [F__law_low, g__law_low, startE]
  simp [ha, hd]
  simp [e, f1, f2, encQ, big, l1, l2]

/-! sums, products, order -/
theorem mul_r (i j : Int) (h : -18446744073709551616 < j ∧ j < 18446744073709551616) : mulD (.int i) (.int j) = .ok (.int (i * j)) := by
  rw [a_mulI, chk_of (decide_eq_true (.inr h))]
theorem mul_l (i j : Int) (h : -18446744073709551616 < i ∧ i < 18446744073709551616) : mulD (.int i) (.int j) = .ok (.int (i * j)) := by
  rw [a_mulI, chk_of (decide_eq_true (.inl h))]
theorem den_fit {q : Rat} {n : Nat} (h : q.den < n) (hn : n ≤ 18446744073709551616) : -18446744073709551616 < ((q.den : Nat) : Int) ∧ ((q.den : Nat) : Int) < 18446744073709551616 := by omega
theorem dens {a b : Rat} (h : a.den * b.den < 1000000000) : a.den < 1000000000 ∧ b.den < 1000000000 := by
  have h1 := a.den_pos
  have h2 := b.den_pos
  have h3 := Nat.le_mul_of_pos_right a.den h2
  have h4 := Nat.le_mul_of_pos_left b.den h1
  omega
theorem num_add' (a b : Rat) : mkRat (a.num * (b.den : Nat) + b.num * (a.den : Nat)) (a.den * b.den) = a + b := (Rat.add_def' a b).symm
theorem num_mul' (a b : Rat) : mkRat (a.num * b.num) (a.den * b.den) = a * b := (Rat.mul_def' a b).symm
theorem times_num (a : Rat) (n : Int) : mkRat (a.num * n) a.den = a * (n : Rat) := by
  rw [Rat.mul_def', Rat.num_intCast, Rat.den_intCast, Nat.mul_one]
theorem den_mul (b : Rat) (hb : b.den < 1000000000) (i : Int) : mulD (.int i) (.int (b.den : Nat)) = .ok (.int (i * (b.den : Nat))) := mul_r _ _ (den_fit hb (by decide))
theorem quot_add (a b : Rat) (h : a.den * b.den < 1000000000) : F_quotient [.int (a.num * (b.den : Nat) + b.num * (a.den : Nat)), .int (((a.den : Nat) : Int) * ((b.den : Nat) : Int))] = .ok (encQ (a + b)) := by
  have e := quotient_eq (a.num * (b.den : Nat) + b.num * (a.den : Nat)) (a.den * b.den) (Nat.mul_pos a.den_pos b.den_pos) h
  rw [Int.natCast_mul] at e
  rw [e]
  exact congrArg _ (congrArg encQ (num_add' a b))
theorem low_add (a b : Rat) (h : a.den * b.den < 1000000000) : F__law_low [.int (a.num * (b.den : Nat) + b.num * (a.den : Nat)), .int (((a.den : Nat) : Int) * ((b.den : Nat) : Int))] = .ok (encQ (a + b)) := by
  have e := law_low_eq (a.num * (b.den : Nat) + b.num * (a.den : Nat)) (a.den * b.den) (Nat.mul_pos a.den_pos b.den_pos) h
  rw [Int.natCast_mul] at e
  rw [e]
  exact congrArg _ (congrArg encQ (num_add' a b))
section
variable {u d u' d' n : Int} {z : PD}
theorem plus_st (m1 : mulD (.int u) (.int d') = .ok (.int (u * d'))) (m2 : mulD (.int u') (.int d) = .ok (.int (u' * d))) (m3 : mulD (.int d) (.int d') = .ok (.int (d * d'))) (e : F_quotient [.int (u * d' + u' * d), .int (d * d')] = .ok z) : F_plus [.tuple [.int u, .int d], .tuple [.int u', .int d']] = .ok z := by
  simp only [F_plus, g_plus, startE]
  simp [-a_mulI, m1, m2, m3, e]
theorem lplus_st (m1 : mulD (.int u) (.int d') = .ok (.int (u * d'))) (m2 : mulD (.int u') (.int d) = .ok (.int (u' * d))) (m3 : mulD (.int d) (.int d') = .ok (.int (d * d'))) (e : F__law_low [.int (u * d' + u' * d), .int (d * d')] = .ok z) : F__law_plus [.tuple [.int u, .int d], .tuple [.int u', .int d']] = .ok z := by
  simp only [F__law_plus, g__law_plus, startE]
  simp [-a_mulI, m1, m2, m3, e]
theorem times_st (m1 : mulD (.int u) (.int n) = .ok (.int (u * n))) (e : F_quotient [.int (u * n), .int d] = .ok z) : F_times [.tuple [.int u, .int d], .int n] = .ok z := by
  simp only [F_times, g_times, startE]
  simp [-a_mulI, m1, e]
theorem ltimes_st (h0 : n ≠ 0) (m1 : mulD (.int u) (.int n) = .ok (.int (u * n))) (e : F__law_low [.int (u * n), .int d] = .ok z) : F__law_times [.tuple [.int u, .int d], .int n] = .ok z := by
  simp only [F__law_times, g__law_times, startE]
  simp [-a_mulI, h0, m1, e]
theorem ltimes_0 : F__law_times [.tuple [.int u, .int d], .int 0] = .ok (.tuple [.int 0, .int 1]) := by
  simp only [F__law_times, g__law_times, startE]
  simp [big]
theorem minus_st {x y y' z : PD} (e1 : F_times [y, .int (-1)] = .ok y') (e2 : F_plus [x, y'] = .ok z) : F_minus [x, y] = .ok z := by
  simp only [F_minus, g_minus, startE]
  simp [e1, e2]
theorem lminus_st {x z : PD} (e2 : F__law_plus [x, .tuple [.int (-u), .int d]] = .ok z) : F__law_minus [x, .tuple [.int u, .int d]] = .ok z := by
  simp only [F__law_minus, g__law_minus, startE]
  simp [e2, big]
theorem less_st (m1 : mulD (.int u) (.int d') = .ok (.int (u * d'))) (m2 : mulD (.int u') (.int d) = .ok (.int (u' * d))) : F_is_less [.tuple [.int u, .int d], .tuple [.int u', .int d']] = .ok (.bool (decide (u * d' < u' * d))) := by
  simp only [F_is_less, g_is_less, startE]
  simp [-a_mulI, m1, m2]
theorem lless_st (m1 : mulD (.int u) (.int d') = .ok (.int (u * d'))) (m2 : mulD (.int u') (.int d) = .ok (.int (u' * d))) : F__law_less [.tuple [.int u, .int d], .tuple [.int u', .int d']] = .ok (.bool (decide (u * d' < u' * d))) := by
  simp only [F__law_less, g__law_less, startE]
  simp [-a_mulI, m1, m2]
end
theorem plus_eq (a b : Rat) (h : a.den * b.den < 1000000000) : F_plus [encQ a, encQ b] = .ok (encQ (a + b)) :=
  plus_st (den_mul b (dens h).2 _) (den_mul a (dens h).1 _) (den_mul b (dens h).2 _) (quot_add a b h)
theorem law_plus_eq (a b : Rat) (h : a.den * b.den < 1000000000) : F__law_plus [encQ a, encQ b] = .ok (encQ (a + b)) :=
  lplus_st (den_mul b (dens h).2 _) (den_mul a (dens h).1 _) (den_mul b (dens h).2 _) (low_add a b h)
theorem quot_times (a : Rat) (n : Int) (h : a.den < 1000000000) : F_quotient [.int (a.num * n), .int (a.den : Nat)] = .ok (encQ (a * (n : Rat))) :=
  (quotient_eq (a.num * n) a.den a.den_pos h).trans (congrArg _ (congrArg encQ (times_num a n)))
theorem low_times (a : Rat) (n : Int) (h : a.den < 1000000000) : F__law_low [.int (a.num * n), .int (a.den : Nat)] = .ok (encQ (a * (n : Rat))) :=
  (law_low_eq (a.num * n) a.den a.den_pos h).trans (congrArg _ (congrArg encQ (times_num a n)))
theorem times_eq (a : Rat) (n : Int) (h : a.den < 1000000000) (hn : -18446744073709551616 < n ∧ n < 18446744073709551616) : F_times [encQ a, .int n] = .ok (encQ (a * (n : Rat))) :=
  times_st (mul_r _ _ hn) (quot_times a n h)
theorem law_times_eq (a : Rat) (n : Int) (h : a.den < 1000000000) (hn : -18446744073709551616 < n ∧ n < 18446744073709551616) : F__law_times [encQ a, .int n] = .ok (encQ (a * (n : Rat))) := by
  by_cases h0 : n = 0
  · subst h0
    have : a * ((0 : Int) : Rat) = 0 := by rw [Rat.intCast_zero, Rat.mul_zero]
    rw [this]
    exact ltimes_0
  · exact ltimes_st h0 (mul_r _ _ hn) (low_times a n h)
theorem neg_one_mul' (b : Rat) : b * ((-1 : Int) : Rat) = -b := by
  have : ((-1 : Int) : Rat) = -1 := rfl
  rw [this]; grind
theorem minus_eq (a b : Rat) (h : a.den * b.den < 1000000000) : F_minus [encQ a, encQ b] = .ok (encQ (a - b)) := by
  have e1 := times_eq b (-1) (dens h).2 (by decide)
  rw [neg_one_mul'] at e1
  have e2 := plus_eq a (-b) (by rw [Rat.neg_den]; exact h)
  rw [← Rat.sub_eq_add_neg] at e2
  exact minus_st e1 e2
theorem law_minus_eq (a b : Rat) (h : a.den * b.den < 1000000000) : F__law_minus [encQ a, encQ b] = .ok (encQ (a - b)) := by
  have e2 := law_plus_eq a (-b) (by rw [Rat.neg_den]; exact h)
  rw [← Rat.sub_eq_add_neg] at e2
  exact lminus_st e2
theorem less_eq (a b : Rat) (ha : a.den < 1000000000) (hb : b.den < 1000000000) : F_is_less [encQ a, encQ b] = .ok (.bool (decide (a < b))) :=
  (less_st (den_mul b hb _) (den_mul a ha _)).trans (congrArg _ (congrArg PyData.bool (decide_eq_decide.mpr (Rat.lt_iff a b).symm)))
theorem law_less_eq (a b : Rat) (ha : a.den < 1000000000) (hb : b.den < 1000000000) : F__law_less [encQ a, encQ b] = .ok (.bool (decide (a < b))) :=
  (lless_st (den_mul b hb _) (den_mul a ha _)).trans (congrArg _ (congrArg PyData.bool (decide_eq_decide.mpr (Rat.lt_iff a b).symm)))
/-- a number told as a quotient -/
theorem encQ_int (n : Int) : encQ (n : Rat) = .tuple [.int n, .int 1] := rfl
theorem nod_Q (q : Rat) : nod (encQ q) = true := rfl
theorem depth_Q (q : Rat) : (encQ q).depth = 1 := by simp [encQ, PyData.depth, PyData.depthAll]
theorem eqv_Q (a b : Rat) : PyData.eqv (encQ a) (encQ b) = decide (a = b) := by
  unfold encQ
  by_cases h : a = b
  · subst h; simp [PyData.eqv, PyData.eqvAll]
  · simp only [PyData.eqv, PyData.eqvAll, Bool.and_true, h, decide_false]
    refine Bool.eq_false_iff.mpr fun z => h ?_
    rw [Bool.and_eq_true, beq_iff_eq, beq_iff_eq] at z
    exact Rat.ext z.1 (by omega)
theorem quot_ok (q : Rat) (h0 : 0 ≤ q) (h : q.den < 1000000000) : F_is_quotient [encQ q] = .ok (.bool true) := by
  have e := divisor_eq q.num (q.den : Nat) (by simpa using h)
  rw [Int.natAbs_natCast, q.reduced] at e
  have hd := q.den_pos
  have hn : 0 ≤ q.num := Rat.num_nonneg.mpr h0
  unfold encQ
  have i1 : ∀ i : Int, F_is_integer [.int i] = .ok (.bool true) := fun i => by simp [F_is_integer, g_is_integer, startE, PyData.isInt, PyData.isBool]
  simp only [F_is_quotient, g_is_quotient, startE]
  simp [PyData.isTuple, i1, e, hd, hn]
end K95
namespace K95
open PySem PySem.Spec L2 DL
/-! ### denominators that divide D -/
def In (D : Nat) (q : Rat) : Prop := ∃ n : Int, q * (D : Rat) = (n : Rat)
theorem den_pos' (q : Rat) : (0 : Int) < (q.den : Nat) := by have := q.den_pos; omega
theorem rat_num_den (q : Rat) : q * (q.den : Rat) = (q.num : Rat) := by
  have h : (q.den : Rat) ≠ 0 := by
    intro z
    exact q.den_nz (Rat.natCast_eq_zero_iff.mp z)
  have e := Rat.mkRat_eq_div q.num q.den
  rw [Rat.mkRat_self] at e
  grind
theorem in_den {D : Nat} {q : Rat} (hD : 0 < D) (h : In D q) : q.den ≤ D := by
  obtain ⟨n, e⟩ := h
  have hD' : (D : Rat) ≠ 0 := by
    intro z
    have := Rat.natCast_eq_zero_iff.mp z
    omega
  have : q = mkRat n D := by
    rw [Rat.mkRat_eq_div]; grind
  rw [this, Rat.den_mkRat, if_neg (by omega)]
  exact Nat.div_le_self _ _
theorem In.add {D : Nat} {a b : Rat} (ha : In D a) (hb : In D b) : In D (a + b) := by
  obtain ⟨n, e⟩ := ha
  obtain ⟨m, f⟩ := hb
  exact ⟨n + m, by rw [Rat.intCast_add]; grind⟩
theorem In.sub {D : Nat} {a b : Rat} (ha : In D a) (hb : In D b) : In D (a - b) := by
  obtain ⟨n, e⟩ := ha
  obtain ⟨m, f⟩ := hb
  exact ⟨n - m, by rw [Rat.intCast_sub]; grind⟩
theorem In.mul {D : Nat} {a : Rat} (ha : In D a) (k : Int) : In D (a * (k : Rat)) := by
  obtain ⟨n, e⟩ := ha
  exact ⟨n * k, by rw [Rat.intCast_mul]; grind⟩
theorem In.int {D : Nat} (k : Int) : In D (k : Rat) := ⟨k * D, by rw [Rat.intCast_mul]; rfl⟩
theorem In.mk {D d : Nat} (u : Int) (hd : 0 < d) (h : d ∣ D) : In D (mkRat u d) := by
  obtain ⟨k, rfl⟩ := h
  have hd' : (d : Rat) ≠ 0 := by
    intro z
    have := Rat.natCast_eq_zero_iff.mp z
    omega
  refine ⟨u * k, ?_⟩
  rw [Rat.mkRat_eq_div, Rat.intCast_mul, Rat.natCast_mul]
  have : ((k : Int) : Rat) = (k : Rat) := rfl
  rw [this]
  grind
theorem in_mul {D : Nat} {a b : Rat} (hD : 0 < D) (h : D * D < 1000000000) (ha : In D a) (hb : In D b) : a.den * b.den < 1000000000 :=
  Nat.lt_of_le_of_lt (Nat.mul_le_mul (in_den hD ha) (in_den hD hb)) h
theorem in_one {D : Nat} {a : Rat} (hD : 0 < D) (h : D * D < 1000000000) (ha : In D a) : a.den < 1000000000 := by
  have h1 := in_den hD ha
  have h2 : D ≤ D * D := Nat.le_mul_of_pos_right D hD
  omega
/-! ### a siphon -/
structure Sip (low w c e : Nat) : Prop where
  w0 : 0 < w
  c0 : 0 < c
  e0 : 0 < e
  top : low + w ≤ 1000
  rt : c + e ≤ 100
def encS (low w c e : Nat) : PD := .tuple [.int (low : Nat), .int ((low : Int) + (w : Int)), .int (c : Nat), .int ((c : Int) + (e : Int))]
def rise (w c : Nat) : Rat := mkRat w c
def agn (w c e : Nat) : Rat := rise w c + rise w e
theorem rise_eq {w c : Nat} (hc : 0 < c) : rise w c * (c : Rat) = (w : Rat) := by
  have hd' : (c : Rat) ≠ 0 := by
    intro z
    have := Rat.natCast_eq_zero_iff.mp z
    omega
  unfold rise
  rw [Rat.mkRat_eq_div]
  have : ((w : Int) : Rat) = (w : Rat) := rfl
  rw [this]
  grind
theorem rise_pos {w c : Nat} (hw : 0 < w) (hc : 0 < c) : 0 < rise w c := by
  have h := rise_eq (w := w) hc
  have h1 : (0 : Rat) < (w : Rat) := Rat.natCast_pos.mpr hw
  have h2 : (0 : Rat) < (c : Rat) := Rat.natCast_pos.mpr hc
  refine (Rat.mul_pos_iff_of_pos_right h2).mp ?_
  rw [h]; exact h1
/-- whole rounds in a time -/
def rnds (w c e : Nat) (t : Rat) : Int := (t / agn w c e).floor
def rest (w c e : Nat) (t : Rat) : Rat := t - agn w c e * (rnds w c e t : Rat)
def levelT (low w c e : Nat) (t : Rat) : Rat :=
  if rest w c e t < rise w c then (low : Rat) + rest w c e t * (c : Rat) else (low : Rat) + (w : Rat) - (rest w c e t - rise w c) * (e : Rat)
def begunT (w c e : Nat) (t : Rat) : Int := rnds w c e t + if rest w c e t < rise w c then 0 else 1
def outT (w c e : Nat) (t : Rat) : Rat := (rise w e * (rnds w c e t : Rat) + if rest w c e t < rise w c then 0 else rest w c e t - rise w c) * ((c : Rat) + (e : Rat))
theorem rest_bounds {w c e : Nat} (hw : 0 < w) (hc : 0 < c) (he : 0 < e) (t : Rat) : 0 ≤ rest w c e t ∧ rest w c e t < agn w c e := by
  have ha : 0 < agn w c e := by
    have h1 := rise_pos hw hc
    have h2 := rise_pos hw he
    unfold agn; grind
  have h1 := Rat.floor_le (t / agn w c e)
  have h2 := Rat.lt_floor_add_one (t / agn w c e)
  have h3 : t / agn w c e * agn w c e = t := Rat.div_mul_cancel (Rat.ne_of_gt ha)
  rw [Rat.intCast_add] at h2
  have e1 : ((1 : Int) : Rat) = 1 := rfl
  rw [e1] at h2
  have g1 := Rat.mul_le_mul_of_nonneg_right h1 (Rat.le_of_lt ha)
  have g2 := Rat.mul_lt_mul_of_pos_right h2 ha
  rw [h3] at g1 g2
  unfold rest rnds
  constructor <;> grind
/-- rounds by what stands between -/
theorem rnds_unique {w c e : Nat} (hw : 0 < w) (hc : 0 < c) (he : 0 < e) {t : Rat} {n : Int} (h1 : agn w c e * (n : Rat) ≤ t) (h2 : t < agn w c e * (n : Rat) + agn w c e) : rnds w c e t = n := by
  have ha : 0 < agn w c e := by
    have h1 := rise_pos hw hc
    have h2 := rise_pos hw he
    unfold agn; grind
  have h3 : t / agn w c e * agn w c e = t := Rat.div_mul_cancel (Rat.ne_of_gt ha)
  unfold rnds
  have a1 : n ≤ (t / agn w c e).floor := by
    rw [Rat.le_floor_iff]
    refine Rat.le_of_mul_le_mul_right ?_ ha
    rw [h3]; grind
  have a2 : (t / agn w c e).floor < n + 1 := by
    rw [Rat.floor_lt_iff]
    refine Rat.lt_of_mul_lt_mul_right ?_ (Rat.le_of_lt ha)
    rw [h3, Rat.intCast_add]
    have e1 : ((1 : Int) : Rat) = 1 := rfl
    rw [e1]; grind
  omega

/-- whole rounds more -/
theorem rnds_far {w c e : Nat} (hw : 0 < w) (hc : 0 < c) (he : 0 < e) (t : Rat) (n : Int) : rnds w c e (t + agn w c e * (n : Rat)) = rnds w c e t + n := by
  obtain ⟨h1, h2⟩ := rest_bounds hw hc he t
  refine rnds_unique hw hc he ?_ ?_
  · rw [Rat.intCast_add]; unfold rest at h1; grind
  · rw [Rat.intCast_add]; unfold rest at h2; grind
theorem rest_far {w c e : Nat} (hw : 0 < w) (hc : 0 < c) (he : 0 < e) (t : Rat) (n : Int) : rest w c e (t + agn w c e * (n : Rat)) = rest w c e t := by
  unfold rest
  rw [rnds_far hw hc he, Rat.intCast_add]; grind
theorem level_far {low w c e : Nat} (hw : 0 < w) (hc : 0 < c) (he : 0 < e) (t : Rat) (n : Int) : levelT low w c e (t + agn w c e * (n : Rat)) = levelT low w c e t := by
  unfold levelT; rw [rest_far hw hc he]
theorem begun_far {w c e : Nat} (hw : 0 < w) (hc : 0 < c) (he : 0 < e) (t : Rat) (n : Int) : begunT w c e (t + agn w c e * (n : Rat)) = begunT w c e t + n := by
  unfold begunT; rw [rest_far hw hc he, rnds_far hw hc he]; omega
theorem out_far {w c e : Nat} (hw : 0 < w) (hc : 0 < c) (he : 0 < e) (t : Rat) (n : Int) : outT w c e (t + agn w c e * (n : Rat)) = outT w c e t + rise w e * ((c : Rat) + (e : Rat)) * (n : Rat) := by
  unfold outT; rw [rest_far hw hc he, rnds_far hw hc he, Rat.intCast_add]; grind
/-- what comes is what stands and what has gone -/
theorem kept {low w c e : Nat} (hc : 0 < c) (he : 0 < e) (t : Rat) : levelT low w c e t - (low : Rat) + outT w c e t = t * (c : Rat) := by
  have r1 := rise_eq (w := w) hc
  have r2 := rise_eq (w := w) he
  unfold levelT outT
  have ht : t = agn w c e * (rnds w c e t : Rat) + rest w c e t := by unfold rest; grind
  generalize rest w c e t = x at *
  generalize (rnds w c e t : Rat) = k at *
  rw [ht]
  unfold agn
  split <;> grind
/-- when the m-th running begins -/
theorem told_at {low w c e : Nat} (hw : 0 < w) (hc : 0 < c) (he : 0 < e) (m : Int) : begunT w c e (agn w c e * ((m - 1 : Int) : Rat) + rise w c) = m ∧ levelT low w c e (agn w c e * ((m - 1 : Int) : Rat) + rise w c) = (low : Rat) + (w : Rat) := by
  have h1 := rise_pos hw hc
  have h2 := rise_pos hw he
  have hr : rnds w c e (agn w c e * ((m - 1 : Int) : Rat) + rise w c) = m - 1 := rnds_unique hw hc he (by grind) (by unfold agn; grind)
  have hx : rest w c e (agn w c e * ((m - 1 : Int) : Rat) + rise w c) = rise w c := by unfold rest; rw [hr]; grind
  unfold begunT levelT
  rw [hx, hr, if_neg Rat.lt_irrefl, if_neg Rat.lt_irrefl]
  exact ⟨by omega, by grind⟩
/-- the rounds as the program reckons them -/
theorem rnds_num {w c e : Nat} (hw : 0 < w) (hc : 0 < c) (he : 0 < e) (t : Rat) : t.num * ((agn w c e).den : Nat) / (((t.den : Nat) : Int) * (agn w c e).num) = rnds w c e t := by
  have h1 := rise_pos hw hc
  have h2 := rise_pos hw he
  have ha : 0 < agn w c e := by unfold agn; grind
  generalize hA : agn w c e = A at *
  have hn : 0 < A.num := by
    rcases Int.lt_or_le 0 A.num with z | z
    · exact z
    · have := (Rat.lt_iff 0 A).mp ha
      simp at this
      omega
  have hd : (0 : Int) < (t.den : Nat) := den_pos' t
  have hv : 0 < ((t.den : Nat) : Int) * A.num := Int.mul_pos hd hn
  have q1 := Int.ediv_mul_le (t.num * (A.den : Nat)) (Int.ne_of_gt hv)
  have q2 := Int.lt_ediv_add_one_mul_self (t.num * (A.den : Nat)) hv
  generalize t.num * ((A.den : Nat) : Int) / (((t.den : Nat) : Int) * A.num) = n at *
  have kA := rat_num_den A
  have kT := rat_num_den t
  have pA : (0 : Rat) < (A.den : Rat) := Rat.natCast_pos.mpr A.den_pos
  have pT : (0 : Rat) < (t.den : Rat) := Rat.natCast_pos.mpr t.den_pos
  have pAT : (0 : Rat) < (A.den : Rat) * (t.den : Rat) := Rat.mul_pos pA pT
  have g1 : (((n * (((t.den : Nat) : Int) * A.num) : Int)) : Rat) ≤ ((t.num * ((A.den : Nat) : Int) : Int) : Rat) := Rat.intCast_le_intCast.mpr q1
  have g2 : ((t.num * ((A.den : Nat) : Int) : Int) : Rat) < ((((n + 1) * (((t.den : Nat) : Int) * A.num) : Int)) : Rat) := Rat.intCast_lt_intCast.mpr q2
  simp only [Rat.intCast_mul, Rat.intCast_add] at g1 g2
  have c1 : (((A.den : Nat) : Int) : Rat) = (A.den : Rat) := rfl
  have c2 : (((t.den : Nat) : Int) : Rat) = (t.den : Rat) := rfl
  have c3 : ((1 : Int) : Rat) = 1 := rfl
  rw [c1, c2, ← kA, ← kT] at g1 g2
  rw [c3] at g2
  symm
  subst hA
  refine rnds_unique hw hc he ?_ ?_
  · refine Rat.le_of_mul_le_mul_right ?_ pAT
    grind
  · refine Rat.lt_of_mul_lt_mul_right ?_ (Rat.le_of_lt pAT)
    grind
end K95
namespace K95
open PySem PySem.Spec L2 DL
@[simp] theorem atI_3 {α : Type} (x y z u : α) (xs : List α) : atI (x :: y :: z :: u :: xs) 3 = some u := by
  have := atI_nn (xs := x :: y :: z :: u :: xs) (i := 3)
  simpa using this
theorem big_eq : big = 10000000 := rfl
/-- a siphon whose reckonings stay small -/
structure Fit (low w c e D : Nat) : Prop extends Sip low w c e where
  D0 : 0 < D
  DD : D * D < 1000000000
  cD : c ∣ D
  eD : e ∣ D
  sm : D * (w * (c + e)) < 1073741824
section
variable {l h c r u : Int} {z y x : PD}
theorem rise_st (e : F_quotient [.int (h - l), .int c] = .ok z) : F__rise [.tuple [.int l, .int h, .int c, .int r]] = .ok z := by
  simp only [F__rise, g__rise, startE]; simp [e]
theorem fall_st (e : F_quotient [.int (h - l), .int (r - c)] = .ok z) : F__fall [.tuple [.int l, .int h, .int c, .int r]] = .ok z := by
  simp only [F__fall, g__fall, startE]; simp [e]
theorem again_st {s : PD} (e1 : F__rise [s] = .ok x) (e2 : F__fall [s] = .ok y) (e : F_plus [x, y] = .ok z) : F__again [s] = .ok z := by
  simp only [F__again, g__again, startE]; simp [e1, e2, e]
theorem whole_eq (v a b : Int) : F_is_whole [.int v, .int a, .int b] = .ok (.bool (decide (a ≤ v) && decide (v ≤ b))) := by
  by_cases h : a ≤ v <;> simp [F_is_whole, g_is_whole, startE, PyData.isInt, PyData.isBool, h]
theorem check_st (h1 : 0 ≤ l ∧ l ≤ 1000) (h2 : 1 ≤ h ∧ h ≤ 1000) (h3 : l < h) (h4 : 1 ≤ c ∧ c ≤ 100) (h5 : 1 ≤ r ∧ r ≤ 100) (h6 : c < r) : F__check [.tuple [.int l, .int h, .int c, .int r]] = .ok .none := by
  simp only [F__check, g__check, startE]
  simp [PyData.isTuple, whole_eq, h1, h2, h4, h5, show ¬ h ≤ l by omega, show ¬ r ≤ c by omega]
theorem lrounds_st (e1 : F__law_low [.int (h - l), .int c] = .ok x) (e2 : F__law_low [.int (h - l), .int (r - c)] = .ok y) : F__law_rounds [.tuple [.int l, .int h, .int c, .int r]] = .ok (.tuple [x, y]) := by
  simp only [F__law_rounds, g__law_rounds, startE]; simp [e1, e2, big_eq]
end
section
variable {low w c e D : Nat}
theorem sub1 (low w : Nat) : (low : Int) + (w : Int) - (low : Int) = (w : Int) := by omega
theorem Sip.chk (S : Sip low w c e) : F__check [encS low w c e] = .ok .none := by
  have := S.w0; have := S.c0; have := S.e0; have := S.top; have := S.rt
  exact check_st (by omega) (by omega) (by omega) (by omega) (by omega) (by omega)
theorem Sip.rise (S : Sip low w c e) : F__rise [encS low w c e] = .ok (encQ (rise w c)) := by
  have := S.rt
  refine rise_st ?_
  rw [sub1]; exact quotient_eq w c S.c0 (by omega)
theorem Sip.fall (S : Sip low w c e) : F__fall [encS low w c e] = .ok (encQ (K95.rise w e)) := by
  have := S.rt
  refine fall_st ?_
  rw [sub1, sub1]; exact quotient_eq w e S.e0 (by omega)
theorem den_mk (u : Int) (d : Nat) (h : 0 < d) : (mkRat u d).den ≤ d := by
  rw [Rat.den_mkRat, if_neg (by omega)]
  exact Nat.div_le_self _ _
theorem Sip.again (S : Sip low w c e) : F__again [encS low w c e] = .ok (encQ (agn w c e)) := by
  have := S.rt
  have h1 := den_mk w c S.c0
  have h2 := den_mk w e S.e0
  have h3 := Nat.mul_le_mul h1 h2
  have h4 : c * e ≤ 100 * 100 := Nat.mul_le_mul (by omega) (by omega)
  exact again_st S.rise S.fall (plus_eq _ _ (by unfold K95.rise; omega))
theorem Sip.lrounds (S : Sip low w c e) : F__law_rounds [encS low w c e] = .ok (.tuple [encQ (K95.rise w c), encQ (K95.rise w e)]) := by
  have := S.rt
  refine lrounds_st ?_ ?_
  · rw [sub1]; exact law_low_eq w c S.c0 (by omega)
  · rw [sub1, sub1]; exact law_low_eq w e S.e0 (by omega)
theorem Fit.inR (S : Fit low w c e D) : In D (K95.rise w c) := In.mk _ S.c0 S.cD
theorem Fit.inF (S : Fit low w c e D) : In D (K95.rise w e) := In.mk _ S.e0 S.eD
theorem Fit.inA (S : Fit low w c e D) : In D (agn w c e) := S.inR.add S.inF
theorem Fit.inX (S : Fit low w c e D) {t : Rat} (h : In D t) : In D (rest w c e t) := h.sub (S.inA.mul _)
theorem Fit.ps (S : Fit low w c e D) {a b : Rat} (ha : In D a) (hb : In D b) : F_plus [encQ a, encQ b] = .ok (encQ (a + b)) := plus_eq a b (in_mul S.D0 S.DD ha hb)
theorem Fit.ms (S : Fit low w c e D) {a b : Rat} (ha : In D a) (hb : In D b) : F_minus [encQ a, encQ b] = .ok (encQ (a - b)) := minus_eq a b (in_mul S.D0 S.DD ha hb)
theorem Fit.tm (S : Fit low w c e D) {a : Rat} (ha : In D a) (n : Int) (hn : -18446744073709551616 < n ∧ n < 18446744073709551616) : F_times [encQ a, .int n] = .ok (encQ (a * (n : Rat))) := times_eq a n (in_one S.D0 S.DD ha) hn
theorem Fit.ls (S : Fit low w c e D) {a b : Rat} (ha : In D a) (hb : In D b) : F_is_less [encQ a, encQ b] = .ok (.bool (decide (a < b))) := less_eq a b (in_one S.D0 S.DD ha) (in_one S.D0 S.DD hb)
theorem Fit.lps (S : Fit low w c e D) {a b : Rat} (ha : In D a) (hb : In D b) : F__law_plus [encQ a, encQ b] = .ok (encQ (a + b)) := law_plus_eq a b (in_mul S.D0 S.DD ha hb)
theorem Fit.lms (S : Fit low w c e D) {a b : Rat} (ha : In D a) (hb : In D b) : F__law_minus [encQ a, encQ b] = .ok (encQ (a - b)) := law_minus_eq a b (in_mul S.D0 S.DD ha hb)
theorem Fit.ltm (S : Fit low w c e D) {a : Rat} (ha : In D a) (n : Int) (hn : -18446744073709551616 < n ∧ n < 18446744073709551616) : F__law_times [encQ a, .int n] = .ok (encQ (a * (n : Rat))) := law_times_eq a n (in_one S.D0 S.DD ha) hn
theorem Fit.lls (S : Fit low w c e D) {a b : Rat} (ha : In D a) (hb : In D b) : F__law_less [encQ a, encQ b] = .ok (.bool (decide (a < b))) := law_less_eq a b (in_one S.D0 S.DD ha) (in_one S.D0 S.DD hb)
theorem agn_num (S : Fit low w c e D) : (agn w c e).num ≤ ((w * (c + e) : Nat) : Int) := by
  have e1 : agn w c e = mkRat ((w * (c + e) : Nat) : Int) (c * e) := by
    unfold agn rise
    rw [Rat.mkRat_add_mkRat _ _ (by have := S.c0; omega) (by have := S.e0; omega)]
    congr 1
    rw [Int.natCast_mul, Int.natCast_add]; grind
  rw [e1, Rat.num_mkRat]
  split
  · omega
  · exact Int.ediv_le_self _ (by omega)
theorem rounds_st {t0 t1 a0 a1 n : Int} {y z : PD} {s : PD} (hA : F__again [s] = .ok (.tuple [.int a0, .int a1])) (m1 : mulD (.int t0) (.int a1) = .ok (.int (t0 * a1))) (m2 : mulD (.int t1) (.int a0) = .ok (.int (t1 * a0)))
    (hd : fdivD (.int (t0 * a1)) (.int (t1 * a0)) = .ok (.int n)) (ht : F_times [.tuple [.int a0, .int a1], .int n] = .ok y) (hm : F_minus [.tuple [.int t0, .int t1], y] = .ok z) : F__rounds [s, .tuple [.int t0, .int t1]] = .ok (.tuple [.int n, z]) := by
  simp only [F__rounds, g__rounds, startE]
  simp [-a_mulI, -a_divI, hA, m1, m2, hd, ht, hm, big_eq]
theorem Fit.rounds (S : Fit low w c e D) {t : Rat} (ht : In D t) (hn : -18446744073709551616 < rnds w c e t ∧ rnds w c e t < 18446744073709551616) :
    F__rounds [encS low w c e, encQ t] = .ok (.tuple [.int (rnds w c e t), encQ (rest w c e t)]) := by
  have hA := S.toSip.again
  have d1 := in_den S.D0 ht
  have d2 := in_den S.D0 S.inA
  have nA := agn_num S
  have ha : 0 < agn w c e := by
    have h1 := rise_pos S.w0 S.c0
    have h2 := rise_pos S.w0 S.e0
    unfold agn; grind
  have nA0 : 0 < (agn w c e).num := by
    rcases Int.lt_or_le 0 (agn w c e).num with z | z
    · exact z
    · have := (Rat.lt_iff 0 (agn w c e)).mp ha
      simp at this
      omega
  have hd := t.den_pos
  obtain ⟨N, hN⟩ : ∃ N : Nat, (agn w c e).num = (N : Int) := ⟨(agn w c e).num.toNat, by omega⟩
  have hNb : N ≤ w * (c + e) := by omega
  have hprod : t.den * N < 1073741824 := Nat.lt_of_le_of_lt (Nat.mul_le_mul d1 hNb) S.sm
  have hNp : 0 < t.den * N := Nat.mul_pos hd (by omega)
  have hD2 : D ≤ D * D := Nat.le_mul_of_pos_right D S.D0
  have hDD := S.DD
  refine rounds_st (n := rnds w c e t) hA (mul_r _ _ (by omega)) (mul_l _ _ (by omega)) ?_ (S.tm S.inA _ hn) (S.ms ht (S.inA.mul _))
  rw [a_divI, rnds_num S.w0 S.c0 S.e0 t, chk_of]
  rw [decide_eq_true_eq, hN, ← Int.natCast_mul]
  omega
end
end K95
namespace K95
open PySem PySem.Spec L2 DL
section
variable {l h c r n : Int} {s q A B z y x v : PD} {b : Bool}
theorem ctime_st (h1 : F__check [s] = .ok .none) (h2 : F_is_quotient [q] = .ok (.bool true)) (h3 : F_is_less [.tuple [.int 1000000000000, .int 1], q] = .ok (.bool false)) : F__check_time [s, q] = .ok .none := by
  simp only [F__check_time, g__check_time, startE]
  simp [h1, h2, h3, big_eq]
theorem level_st1 (h0 : F__check_time [.tuple [.int l, .int h, .int c, .int r], q] = .ok .none) (h1 : F__rounds [.tuple [.int l, .int h, .int c, .int r], q] = .ok (.tuple [.int n, x])) (h2 : F__rise [.tuple [.int l, .int h, .int c, .int r]] = .ok A) (h3 : F_is_less [A, x] = .ok (.bool false))
    (h4 : F_times [x, .int c] = .ok y) (h5 : F_plus [.tuple [.int l, .int 1], y] = .ok z) : F_siphon_level [.tuple [.int l, .int h, .int c, .int r], q] = .ok z := by
  simp only [F_siphon_level, g_siphon_level, startE]
  simp [h0, h1, h2, h3, h4, h5, big_eq]
theorem level_st2 (h0 : F__check_time [.tuple [.int l, .int h, .int c, .int r], q] = .ok .none) (h1 : F__rounds [.tuple [.int l, .int h, .int c, .int r], q] = .ok (.tuple [.int n, x])) (h2 : F__rise [.tuple [.int l, .int h, .int c, .int r]] = .ok A) (h3 : F_is_less [A, x] = .ok (.bool true))
    (h4 : F_minus [x, A] = .ok v) (h5 : F_times [v, .int (r - c)] = .ok y) (h6 : F_minus [.tuple [.int h, .int 1], y] = .ok z) : F_siphon_level [.tuple [.int l, .int h, .int c, .int r], q] = .ok z := by
  simp only [F_siphon_level, g_siphon_level, startE]
  simp [h0, h1, h2, h3, h4, h5, h6, big_eq]
theorem runs_st (h0 : F__check_time [.tuple [.int l, .int h, .int c, .int r], q] = .ok .none) (h1 : F__rounds [.tuple [.int l, .int h, .int c, .int r], q] = .ok (.tuple [.int n, x])) (h2 : F__rise [.tuple [.int l, .int h, .int c, .int r]] = .ok A) (h3 : F_is_less [x, A] = .ok (.bool b))
    (h4 : b = true → v = .tuple [.int 0, .int 1]) (h4' : b = false → F_minus [x, A] = .ok v) (h5 : F__fall [.tuple [.int l, .int h, .int c, .int r]] = .ok B) (h6 : F_times [B, .int n] = .ok y) (h7 : F_plus [y, v] = .ok s) (h8 : F_times [s, .int r] = .ok z) :
    F_siphon_runs [.tuple [.int l, .int h, .int c, .int r], q] = .ok (.tuple [.int (n + if b = true then 0 else 1), z]) := by
  simp only [F_siphon_runs, g_siphon_runs, startE]
  cases b with
  | true =>
    cases h4 rfl
    simp [h0, h1, h2, h3, h5, h6, h7, h8, big_eq]
  | false =>
    have := h4' rfl
    simp [h0, h1, h2, h3, this, h5, h6, h7, h8, big_eq]
theorem stime_st {m : Int} (h0 : F__check [s] = .ok .none) (h1 : 1 ≤ m ∧ m ≤ 1000000000000) (h2 : F__again [s] = .ok A) (h3 : F_times [A, .int (m - 1)] = .ok x) (h4 : F__rise [s] = .ok B) (h5 : F_plus [x, B] = .ok z) : F_siphon_time [s, .int m] = .ok z := by
  simp only [F_siphon_time, g_siphon_time, startE]
  simp [h0, whole_eq, h1, h2, h3, h4, h5]
end
section
variable {low w c e D : Nat}
theorem rat0 : (0 : Rat) = ((0 : Int) : Rat) := rfl
theorem castN (n : Nat) : ((n : Int) : Rat) = (n : Rat) := rfl
/-- a time that the program takes -/
structure TimeOk (D w c e : Nat) (t : Rat) : Prop where
  inD : In D t
  nn : 0 ≤ t
  top : t ≤ 1000000000000
theorem TimeOk.rn {t : Rat} (S : Fit low w c e D) (T : TimeOk D w c e t) : -18446744073709551616 < rnds w c e t ∧ rnds w c e t < 18446744073709551616 := by
  obtain ⟨h1, h2⟩ := rest_bounds S.w0 S.c0 S.e0 t
  have ha : 0 < agn w c e := by
    have h1 := rise_pos S.w0 S.c0
    have h2 := rise_pos S.w0 S.e0
    unfold agn; grind
  -- agn ≥ 1 / 100
  have hb : (1 : Rat) ≤ agn w c e * 100 := by
    have r1 := rise_eq (w := w) S.c0
    have r2 := rise_pos S.w0 S.e0
    have c100 : (c : Rat) ≤ 100 := by
      have : (c : Rat) ≤ ((100 : Nat) : Rat) := Rat.natCast_le_natCast.mpr (by have := S.rt; omega)
      exact this
    have w1 : (1 : Rat) ≤ (w : Rat) := by
      have : ((1 : Nat) : Rat) ≤ (w : Rat) := Rat.natCast_le_natCast.mpr S.w0
      exact this
    have r3 := rise_pos S.w0 S.c0
    have := Rat.mul_le_mul_of_nonneg_left c100 (Rat.le_of_lt r3)
    unfold agn; grind
  have k0 : 0 ≤ rnds w c e t := by
    unfold rnds
    rw [Rat.le_floor_iff]
    have := T.nn
    have e1 : ((0 : Int) : Rat) = 0 := rfl
    rw [e1, Rat.div_def]
    exact Rat.mul_nonneg this (Rat.le_of_lt (Rat.inv_pos.mpr ha))
  have k1 : rnds w c e t ≤ 1000000000000000 := by
    refine Int.not_lt.mp fun z => ?_
    have z' : ((1000000000000000 : Int) : Rat) < (rnds w c e t : Rat) := Rat.intCast_lt_intCast.mpr z
    have e1 : ((1000000000000000 : Int) : Rat) = 1000000000000000 := rfl
    rw [e1] at z'
    have := T.top
    unfold rest at h1
    have g1 := Rat.mul_lt_mul_of_pos_left z' ha
    grind
  omega
theorem TimeOk.chk {t : Rat} (S : Fit low w c e D) (T : TimeOk D w c e t) : F__check_time [encS low w c e, encQ t] = .ok .none := by
  refine ctime_st S.toSip.chk (quot_ok t T.nn (in_one S.D0 S.DD T.inD)) ?_
  have e1 : encQ ((1000000000000 : Int) : Rat) = .tuple [.int 1000000000000, .int 1] := rfl
  have h := S.ls (In.int 1000000000000) T.inD
  rw [e1] at h
  rw [h]
  have : ¬ (((1000000000000 : Int) : Rat) < t) := Rat.not_lt.mpr T.top
  rw [decide_eq_false this]
theorem level_eq {t : Rat} (S : Fit low w c e D) (T : TimeOk D w c e t) : F_siphon_level [encS low w c e, encQ t] = .ok (encQ (levelT low w c e t)) := by
  have h1 := S.rounds T.inD (T.rn S)
  have ix := S.inX T.inD
  have h3 := S.ls S.inR ix
  have hrt := S.rt
  by_cases hx : rise w c < rest w c e t
  · rw [decide_eq_true hx] at h3
    have h6 := S.ms (In.int ((low : Int) + (w : Int))) ((ix.sub S.inR).mul ((c : Int) + (e : Int) - (c : Int)))
    have := level_st2 (T.chk S) h1 S.toSip.rise h3 (S.ms ix S.inR) (S.tm (ix.sub S.inR) ((c : Int) + (e : Int) - (c : Int)) (by omega)) h6
    refine this.trans (congrArg _ (congrArg encQ ?_))
    have hn : ¬ rest w c e t < rise w c := by grind
    unfold levelT
    rw [if_neg hn, sub1, Rat.intCast_add, castN, castN, castN]
  · rw [decide_eq_false hx] at h3
    have h5 := S.ps (In.int (low : Int)) (ix.mul (c : Int))
    have := level_st1 (T.chk S) h1 S.toSip.rise h3 (S.tm ix (c : Int) (by omega)) h5
    refine this.trans (congrArg _ (congrArg encQ ?_))
    unfold levelT
    rw [castN, castN]
    by_cases hy : rest w c e t < rise w c
    · rw [if_pos hy]
    · rw [if_neg hy]
      have hxy : rest w c e t = rise w c := by grind
      rw [hxy, rise_eq S.c0]; grind
theorem runs_eq {t : Rat} (S : Fit low w c e D) (T : TimeOk D w c e t) : F_siphon_runs [encS low w c e, encQ t] = .ok (.tuple [.int (begunT w c e t), encQ (outT w c e t)]) := by
  have h1 := S.rounds T.inD (T.rn S)
  have ix := S.inX T.inD
  have h3 := S.ls ix S.inR
  have hrt := S.rt
  have iv : In D (if rest w c e t < rise w c then 0 else rest w c e t - rise w c) := by
    split
    · exact In.int 0
    · exact ix.sub S.inR
  have := runs_st (v := encQ (if rest w c e t < rise w c then 0 else rest w c e t - rise w c)) (T.chk S) h1 S.toSip.rise h3 (fun z => by rw [if_pos (of_decide_eq_true z)]; rfl)
    (fun z => by rw [if_neg (of_decide_eq_false z)]; exact S.ms ix S.inR) S.toSip.fall (S.tm S.inF _ (T.rn S)) (S.ps (S.inF.mul _) iv) (S.tm ((S.inF.mul _).add iv) ((c : Int) + (e : Int)) (by omega))
  refine this.trans (congrArg _ ?_)
  unfold begunT outT
  rw [Rat.intCast_add, castN, castN]
  by_cases hy : rest w c e t < rise w c
  · simp [hy]
  · simp [hy]
theorem stime_eq (S : Fit low w c e D) {m : Int} (hm : 1 ≤ m ∧ m ≤ 1000000000000) : F_siphon_time [encS low w c e, .int m] = .ok (encQ (agn w c e * ((m - 1 : Int) : Rat) + rise w c)) :=
  stime_st S.toSip.chk hm S.toSip.again (S.tm S.inA _ (by omega)) S.toSip.rise (S.ps (S.inA.mul _) S.inR)
end
end K95
namespace K95
open PySem PySem.Spec L2 DL
/-- a loop that returns at its k-th turn -/
theorem forL_rt {α : Type} {tgt : PD → En → R En} {body : En → Fl} (P : Nat → En → Prop) (enc : α → PD) (d : PD) : ∀ (ys : List α) (i k : Nat) (ρ : En), k < ys.length → P i ρ →
    (∀ j y ρ, j < k → ys[j]? = some y → P (i + j) ρ → ∃ ρ1 ρ2, tgt (enc y) ρ = .ok ρ1 ∧ (body ρ1 = .nx ρ2 ∨ body ρ1 = .ct ρ2) ∧ P (i + j + 1) ρ2) →
    (∀ y ρ, P (i + k) ρ → ∃ ρ1, tgt (enc y) ρ = .ok ρ1 ∧ body ρ1 = .rt d) → forL tgt body (ys.map enc) ρ = .rt d
  | [], i, k, ρ, hk, _, _, _ => absurd hk (Nat.not_lt_zero _)
  | y :: ys, i, 0, ρ, hk, h0, hs, he => by
    obtain ⟨ρ1, e1, e2⟩ := he y ρ h0
    rw [List.map_cons, forL, e1]
    simp only [e2]
  | y :: ys, i, k + 1, ρ, hk, h0, hs, he => by
    obtain ⟨ρ1, ρ2, e1, e2, h2⟩ := hs 0 y ρ (Nat.zero_lt_succ _) rfl h0
    have ih := forL_rt P enc d ys (i + 1) k ρ2 (by simpa using hk) h2 (fun j y ρ hj e p => by
      have := hs (j + 1) y ρ (by omega) (by simpa using e) (by rwa [show i + (j + 1) = i + 1 + j by omega])
      rwa [show i + (j + 1) = i + 1 + j by omega] at this) (fun y ρ p => he y ρ (by rwa [show i + (k + 1) = i + 1 + k by omega]))
    rw [List.map_cons, forL, e1]
    rcases e2 with e2 | e2
    · simp only [e2]; exact ih
    · simp only [e2]; exact ih
section
variable {l h c r n : Int} {s t A B o t1 o1 t2 z y x v z1 z2 z3 x0 : PD} {k : Sl}
abbrev fa (s t : PD) (l h c r : Int) (A B : PD) (n : Int) (o : PD) (k : Sl) : En := [.va s, .va t, .va (.int l), .va (.int h), .va (.int c), .va (.int r), .va A, .va B, .va (.int n), .va o, k]
theorem at_ret1 (h1 : F__law_less [t, A] = .ok (.bool true)) (h2 : F__law_times [t, .int c] = .ok y) (h3 : F__law_plus [.tuple [.int l, .int 1], y] = .ok z) : g__law_at_l1 (fa s t l h c r A B n o k) = .rt (.tuple [z, .int n, o]) := by
  simp only [g__law_at_l1]; simp [h1, h2, h3, big_eq]
theorem at_ret2 (h1 : F__law_less [t, A] = .ok (.bool false)) (h2 : F__law_minus [t, A] = .ok t1) (h3 : F__law_less [t1, B] = .ok (.bool true)) (h4 : F__law_times [t1, .int (r - c)] = .ok y) (h5 : F__law_minus [.tuple [.int h, .int 1], y] = .ok z)
    (h6 : F__law_times [t1, .int r] = .ok v) (h7 : F__law_plus [o, v] = .ok x) : g__law_at_l1 (fa s t l h c r A B n o k) = .rt (.tuple [z, .int (n + 1), x]) := by
  simp only [g__law_at_l1]; simp [h1, h2, h3, h4, h5, h6, h7, big_eq]
theorem at_go (h1 : F__law_less [t, A] = .ok (.bool false)) (h2 : F__law_minus [t, A] = .ok t1) (h3 : F__law_less [t1, B] = .ok (.bool false)) (h4 : F__law_minus [t1, B] = .ok t2)
    (h6 : F__law_times [B, .int r] = .ok v) (h7 : F__law_plus [o, v] = .ok x) : g__law_at_l1 (fa s t l h c r A B n o k) = .nx (fa s t2 l h c r A B (n + 1) x k) := by
  simp only [g__law_at_l1]; simp [h1, h2, h3, h4, h6, h7, big_eq]
theorem at_st {d : PD} (h1 : F__law_rounds [.tuple [.int l, .int h, .int c, .int r]] = .ok (.tuple [A, B])) (h2 : forL (gN 10) g__law_at_l1 ((rng 0 100000).map PyData.int) (fa (.tuple [.int l, .int h, .int c, .int r]) t l h c r A B 0 (.tuple [.int 0, .int 1]) .un) = .rt d) :
    F__law_at [.tuple [.int l, .int h, .int c, .int r], t] = .ok d := by
  simp only [F__law_at, g__law_at, startE]
  simp [h1, big_eq, rangeL_rng, h2]
end
section
variable {low w c e D : Nat}
theorem law_at_eq {t : Rat} (S : Fit low w c e D) (ht : In D t) (h0 : 0 ≤ t) (hk : rnds w c e t < 100000) :
    F__law_at [encS low w c e, encQ t] = .ok (.tuple [encQ (levelT low w c e t), .int (begunT w c e t), encQ (outT w c e t)]) := by
  have ha : 0 < agn w c e := by
    have h1 := rise_pos S.w0 S.c0
    have h2 := rise_pos S.w0 S.e0
    unfold agn; grind
  have hc := rise_pos S.w0 S.c0
  have hf := rise_pos S.w0 S.e0
  obtain ⟨b1, b2⟩ := rest_bounds S.w0 S.c0 S.e0 t
  have hrt := S.rt
  have k0 : 0 ≤ rnds w c e t := by
    unfold rnds
    rw [Rat.le_floor_iff]
    have e1 : ((0 : Int) : Rat) = 0 := rfl
    rw [e1, Rat.div_def]
    exact Rat.mul_nonneg h0 (Rat.le_of_lt (Rat.inv_pos.mpr ha))
  obtain ⟨K, hK⟩ : ∃ K : Nat, rnds w c e t = (K : Int) := ⟨(rnds w c e t).toNat, by omega⟩
  have hx : rest w c e t = t - agn w c e * (K : Rat) := by unfold rest; rw [hK]; rfl
  refine at_st S.toSip.lrounds ?_
  have ir : (rnds w c e t : Rat) = (K : Rat) := by rw [hK]; rfl
  refine forL_rt (fun j ρ => ∃ k, ρ = fa (encS low w c e) (encQ (t - agn w c e * (j : Rat))) low ((low : Int) + (w : Int)) c ((c : Int) + (e : Int)) (encQ (rise w c)) (encQ (rise w e)) (j : Nat) (encQ (rise w e * (((c : Int) + (e : Int) : Int) : Rat) * (j : Rat))) k) PyData.int _ (rng 0 100000) 0 K _ (by rw [rng_len]; omega) ⟨.un, ?_⟩ ?_ ?_
  · have e1 : t - agn w c e * ((0 : Nat) : Rat) = t := by
      have : ((0 : Nat) : Rat) = 0 := rfl
      rw [this]; grind
    have e2 : rise w e * (((c : Int) + (e : Int) : Int) : Rat) * ((0 : Nat) : Rat) = ((0 : Int) : Rat) := by
      have : ((0 : Nat) : Rat) = 0 := rfl
      have e3 : ((0 : Int) : Rat) = 0 := rfl
      rw [this, e3]; grind
    rw [e1, e2]; rfl
  · rintro j y ρ hj _ ⟨k, rfl⟩
    rw [Nat.zero_add]
    have ij : In D (t - agn w c e * (j : Rat)) := ht.sub (by have := S.inA.mul (j : Int); exact this)
    have io : In D (rise w e * (((c : Int) + (e : Int) : Int) : Rat) * (j : Rat)) := by have := (S.inF.mul ((c : Int) + (e : Int))).mul (j : Int); exact this
    have jK : (j : Rat) + 1 ≤ (K : Rat) := by
      have : (((j + 1 : Nat)) : Rat) ≤ (K : Rat) := Rat.natCast_le_natCast.mpr hj
      rw [Rat.natCast_add] at this; exact this
    have gg := Rat.mul_le_mul_of_nonneg_left jK (Rat.le_of_lt ha)
    have hge : agn w c e ≤ t - agn w c e * (j : Rat) := by rw [hx] at b1; grind
    have n1 : ¬ (t - agn w c e * (j : Rat) < rise w c) := by unfold agn at hge ⊢; grind
    have n2 : ¬ (t - agn w c e * (j : Rat) - rise w c < rise w e) := by unfold agn at hge ⊢; grind
    have l1 := S.lls ij S.inR
    rw [decide_eq_false n1] at l1
    have l2 := S.lls (ij.sub S.inR) S.inF
    rw [decide_eq_false n2] at l2
    have go := at_go (s := encS low w c e) (l := low) (h := (low : Int) + (w : Int)) (c := c) (n := (j : Nat)) (k := .va (.int y)) l1 (S.lms ij S.inR) l2 (S.lms (ij.sub S.inR) S.inF) (S.ltm S.inF ((c : Int) + (e : Int)) (by omega)) (S.lps io (S.inF.mul ((c : Int) + (e : Int))))
    refine ⟨_, _, rfl, .inl go, .va (.int y), ?_⟩
    have e1 : t - agn w c e * (j : Rat) - rise w c - rise w e = t - agn w c e * (((j + 1 : Nat)) : Rat) := by
      rw [Rat.natCast_add]
      have : ((1 : Nat) : Rat) = 1 := rfl
      rw [this]; unfold agn; grind
    have e2 : rise w e * (((c : Int) + (e : Int) : Int) : Rat) * (j : Rat) + rise w e * (((c : Int) + (e : Int) : Int) : Rat) = rise w e * (((c : Int) + (e : Int) : Int) : Rat) * (((j + 1 : Nat)) : Rat) := by
      rw [Rat.natCast_add]
      have : ((1 : Nat) : Rat) = 1 := rfl
      rw [this]; grind
    rw [e1, e2]; rfl
  · rintro y ρ ⟨k, rfl⟩
    rw [Nat.zero_add]
    have ij : In D (t - agn w c e * (K : Rat)) := ht.sub (by have := S.inA.mul (K : Int); exact this)
    have io : In D (rise w e * (((c : Int) + (e : Int) : Int) : Rat) * (K : Rat)) := by have := (S.inF.mul ((c : Int) + (e : Int))).mul (K : Int); exact this
    rw [← hx] at ij ⊢
    have l1 := S.lls ij S.inR
    by_cases hr : rest w c e t < rise w c
    · rw [decide_eq_true hr] at l1
      have p1 := S.lps (In.int (low : Int)) (ij.mul c)
      rw [encQ_int] at p1
      have q := at_ret1 (s := encS low w c e) (l := low) (h := (low : Int) + (w : Int)) (c := c) (r := (c : Int) + (e : Int)) (B := encQ (rise w e)) (n := (K : Nat)) (o := encQ (rise w e * (((c : Int) + (e : Int) : Int) : Rat) * (K : Rat))) (k := .va (.int y)) l1 (S.ltm ij c (by omega)) p1
      refine ⟨_, rfl, q.trans ?_⟩
      unfold levelT begunT outT
      rw [if_pos hr, if_pos hr, if_pos hr]
      simp only [hK, castN, Rat.intCast_add]
      have e1 : (rise w e * (K : Rat) + 0) * ((c : Rat) + (e : Rat)) = rise w e * ((c : Rat) + (e : Rat)) * (K : Rat) := by grind
      rw [e1, Int.add_zero]
    · rw [decide_eq_false hr] at l1
      have l2 := S.lls (ij.sub S.inR) S.inF
      have n2 : rest w c e t - rise w c < rise w e := by unfold agn at b2; grind
      rw [decide_eq_true n2] at l2
      have p1 := S.lms (In.int ((low : Int) + (w : Int))) ((ij.sub S.inR).mul ((c : Int) + (e : Int) - (c : Int)))
      rw [encQ_int] at p1
      have q := at_ret2 (s := encS low w c e) (l := low) (h := (low : Int) + (w : Int)) (c := c) (n := (K : Nat)) (k := .va (.int y)) l1 (S.lms ij S.inR) l2 (S.ltm (ij.sub S.inR) ((c : Int) + (e : Int) - (c : Int)) (by omega)) p1 (S.ltm (ij.sub S.inR) ((c : Int) + (e : Int)) (by omega)) (S.lps io ((ij.sub S.inR).mul _))
      refine ⟨_, rfl, q.trans ?_⟩
      unfold levelT begunT outT
      rw [if_neg hr, if_neg hr, if_neg hr]
      simp only [hK, sub1, castN, Rat.intCast_add]
      have e1 : (rise w e * (K : Rat) + (rest w c e t - rise w c)) * ((c : Rat) + (e : Rat)) = rise w e * ((c : Rat) + (e : Rat)) * (K : Rat) + (rest w c e t - rise w c) * ((c : Rat) + (e : Rat)) := by grind
      rw [e1]
end
end K95
namespace K95
open PySem PySem.Spec L2 DL
/-! ### both run -/
theorem agn_pos {w c e : Nat} (hw : 0 < w) (hc : 0 < c) (he : 0 < e) : 0 < agn w c e := by
  have h1 := rise_pos hw hc
  have h2 := rise_pos hw he
  unfold agn; grind
theorem num_pos {a : Rat} (h : 0 < a) : 0 < a.num := by
  rcases Int.lt_or_le 0 a.num with z | z
  · exact z
  · have := (Rat.lt_iff 0 a).mp h
    simp at this
    omega
theorem agn_mk {low w c e : Nat} (S : Sip low w c e) : agn w c e = mkRat ((w * (c + e) : Nat) : Int) (c * e) := by
  unfold agn rise
  rw [Rat.mkRat_add_mkRat _ _ (by have := S.c0; omega) (by have := S.e0; omega)]
  congr 1
  rw [Int.natCast_mul, Int.natCast_add]; grind
theorem agn_bounds {low w c e : Nat} (S : Sip low w c e) : (agn w c e).den ≤ 2500 ∧ 0 < (agn w c e).num ∧ (agn w c e).num ≤ 100000 := by
  have hce : c * e ≤ 2500 := by
    have h := S.rt
    have h4 : 4 * (c * e) ≤ (c + e) * (c + e) := by
      rcases Nat.le_total c e with z | z
      · obtain ⟨k, rfl⟩ := Nat.le.dest z
        grind
      · obtain ⟨k, rfl⟩ := Nat.le.dest z
        grind
    have h5 : (c + e) * (c + e) ≤ 100 * 100 := Nat.mul_le_mul h h
    omega
  have hw : w * (c + e) ≤ 1000 * 100 := Nat.mul_le_mul (by have := S.top; omega) S.rt
  have hpos := num_pos (agn_pos S.w0 S.c0 S.e0)
  refine ⟨?_, hpos, ?_⟩
  · rw [agn_mk S]
    exact Nat.le_trans (den_mk _ _ (Nat.mul_pos S.c0 S.e0)) hce
  · rw [agn_mk S, Rat.num_mkRat]
    split
    · omega
    · have := Int.ediv_le_self (((c * e).gcd ((w * (c + e) : Nat) : Int).natAbs : Nat) : Int) (show (0 : Int) ≤ ((w * (c + e) : Nat) : Int) by omega)
      omega
/-- how often the one in the other's time, in lowest terms -/
theorem ratio_mk (a b : Rat) (hb : 0 < b.num) : mkRat (a.num * (b.den : Nat)) (a.den * b.num.toNat) = a / b := by
  rw [Rat.div_def, Rat.inv_def, Rat.mkRat_eq_div]
  have e1 : Rat.divInt ((b.den : Nat) : Int) b.num = (((b.den : Nat) : Int) : Rat) / (b.num : Rat) := Rat.divInt_eq_div _ _
  rw [e1, Rat.intCast_mul, Rat.natCast_mul]
  have e2 : ((b.num.toNat : Nat) : Rat) = (b.num : Rat) := by
    have : ((b.num.toNat : Nat) : Int) = b.num := by omega
    exact (congrArg (fun i : Int => (i : Rat)) this)
  rw [e2]
  have ea := rat_num_den a
  have hd : (a.den : Rat) ≠ 0 := fun z => a.den_nz (Rat.natCast_eq_zero_iff.mp z)
  have hn : (b.num : Rat) ≠ 0 := fun z => by
    have := Rat.intCast_eq_zero_iff.mp z
    omega
  rw [← ea]
  grind
section
variable {s1 s2 z : PD} {a0 a1 b0 b1 q0 q1 : Int}
theorem brun_st (c1 : F__check [s1] = .ok .none) (c2 : F__check [s2] = .ok .none) (h1 : F__again [s1] = .ok (.tuple [.int a0, .int a1])) (h2 : F__again [s2] = .ok (.tuple [.int b0, .int b1])) (m1 : mulD (.int a0) (.int b1) = .ok (.int (a0 * b1))) (m2 : mulD (.int a1) (.int b0) = .ok (.int (a1 * b0)))
    (hq : F_quotient [.int (a0 * b1), .int (a1 * b0)] = .ok (.tuple [.int q0, .int q1])) (ht : F_times [.tuple [.int a0, .int a1], .int q1] = .ok z) : F_both_run [s1, s2] = .ok z := by
  simp only [F_both_run, g_both_run, startE]
  simp [-a_mulI, c1, c2, h1, h2, m1, m2, hq, ht]
end
theorem brun_eq {low w c e low' w' c' e' : Nat} (S : Sip low w c e) (S' : Sip low' w' c' e') : F_both_run [encS low w c e, encS low' w' c' e'] = .ok (encQ (agn w c e * (((agn w c e / agn w' c' e').den : Nat) : Rat))) := by
  obtain ⟨a1, a2, a3⟩ := agn_bounds S
  obtain ⟨b1, b2, b3⟩ := agn_bounds S'
  have hB : (((agn w' c' e').num.toNat : Nat) : Int) = (agn w' c' e').num := by omega
  have hd := (agn w c e).den_pos
  have hle : (agn w c e).den * (agn w' c' e').num.toNat ≤ 2500 * 100000 := Nat.mul_le_mul a1 (by omega)
  have hq := quotient_eq ((agn w c e).num * ((agn w' c' e').den : Nat)) ((agn w c e).den * (agn w' c' e').num.toNat) (Nat.mul_pos hd (by omega)) (by omega)
  rw [Int.natCast_mul, hB, ratio_mk _ _ b2] at hq
  have dq : (agn w c e / agn w' c' e').den ≤ 2500 * 100000 := by
    rw [← ratio_mk _ _ b2]
    exact Nat.le_trans (den_mk _ _ (Nat.mul_pos hd (by omega))) hle
  have ht := times_eq (agn w c e) (((agn w c e / agn w' c' e').den : Nat) : Int) (by omega) (by omega)
  exact brun_st S.chk S'.chk S.again S'.again (mul_r _ _ (by omega)) (mul_l _ _ (by omega)) hq ht
/-- the other way round it is the same -/
theorem brun_sym {a b : Rat} (ha : 0 < a) (hb : 0 < b) : b * (((b / a).den : Nat) : Rat) = a * (((a / b).den : Nat) : Rat) := by
  have hq : 0 < a / b := by rw [Rat.div_def]; exact Rat.mul_pos ha (Rat.inv_pos.mpr hb)
  have hn := num_pos hq
  have e1 : b / a = (a / b)⁻¹ := by
    have h1 := Rat.ne_of_gt ha
    have h2 := Rat.ne_of_gt hb
    grind
  rw [e1, Rat.den_inv, if_neg (by omega)]
  have k := rat_num_den (a / b)
  have e2 : (((a / b).num.natAbs : Nat) : Rat) = ((a / b).num : Rat) := by
    have : (((a / b).num.natAbs : Nat) : Int) = (a / b).num := by omega
    exact congrArg (fun i : Int => (i : Rat)) this
  rw [e2, ← k]
  have h2 := Rat.ne_of_gt hb
  have h3 : a / b * b = a := Rat.div_mul_cancel h2
  grind
/-- where a number times a / b is whole -/
theorem whole_at {q : Rat} (n : Nat) : (∃ k : Int, q * (n : Rat) = (k : Rat)) ↔ q.den ∣ n := by
  constructor
  · rintro ⟨k, h⟩
    have e := rat_num_den q
    -- q.num * n = k * q.den
    have h2 : q.num * (n : Int) = k * (q.den : Nat) := by
      have : ((q.num * (n : Int) : Int) : Rat) = ((k * (q.den : Nat) : Int) : Rat) := by
        rw [Rat.intCast_mul, Rat.intCast_mul]
        show (q.num : Rat) * (n : Rat) = (k : Rat) * (q.den : Rat)
        rw [← e, ← h]; grind
      exact Rat.intCast_inj.mp this
    have h3 : (q.den : Int) ∣ q.num * (n : Int) := ⟨k, by rw [h2, Int.mul_comm]⟩
    have h4 : q.den ∣ q.num.natAbs * n := by
      have := Int.natAbs_dvd_natAbs.mpr h3
      rwa [Int.natAbs_mul, Int.natAbs_natCast, Int.natAbs_natCast] at this
    exact (Nat.Coprime.dvd_of_dvd_mul_left (Nat.Coprime.symm q.reduced) h4)
  · rintro ⟨k, rfl⟩
    refine ⟨q.num * (k : Int), ?_⟩
    rw [Rat.natCast_mul, Rat.intCast_mul, ← rat_num_den q]
    show q * ((q.den : Rat) * (k : Rat)) = q * (q.den : Rat) * (k : Rat)
    grind
end K95
namespace K95
open PySem PySem.Spec L2 DL
/-! ### the law's own search for when both run -/
section
variable {x0 x1 x2 x3 x4 x5 x6 x7 x8 x9 x10 x11 x12 x13 x14 x15 x16 x17 x18 x19 x20 x21 x22 x23 x24 x25 x26 x27 x28 : Sl}

def wcond : En → R Bool := (bC neD (c2 mulD (c2 mulD (c2 fdivD (c2 mulD (c2 ixD (cV 22) (cK (.int 0))) (c2 ixD (cV 21) (cK (.int 1)))) (c2 mulD (c2 ixD (cV 22) (cK (.int 1))) (c2 ixD (cV 21) (cK (.int 0))))) (c2 ixD (cV 21) (cK (.int 0)))) (c2 ixD (cV 22) (cK (.int 1)))) (c2 mulD (c2 ixD (cV 22) (cK (.int 0))) (c2 ixD (cV 21) (cK (.int 1)))))
theorem cond_st {b0 b1 p0 p1 : Int} (m1 : mulD (.int p0) (.int b1) = .ok (.int (p0 * b1))) (m2 : mulD (.int p1) (.int b0) = .ok (.int (p1 * b0))) (hd : fdivD (.int (p0 * b1)) (.int (p1 * b0)) = .ok (.int ((p0 * b1) / (p1 * b0))))
    (m3 : mulD (.int ((p0 * b1) / (p1 * b0))) (.int b0) = .ok (.int ((p0 * b1) / (p1 * b0) * b0))) (m4 : mulD (.int ((p0 * b1) / (p1 * b0) * b0)) (.int p1) = .ok (.int ((p0 * b1) / (p1 * b0) * b0 * p1))) :
    wcond [x0, x1, x2, x3, x4, x5, x6, x7, x8, x9, x10, x11, x12, x13, x14, x15, x16, x17, x18, x19, x20, .va (.tuple [.int b0, .int b1]), .va (.tuple [.int p0, .int p1]), x23, x24, x25, x26, x27, x28] = .ok (decide ((p0 * b1) / (p1 * b0) * b0 * p1 ≠ p0 * b1)) := by
  simp only [wcond]
  simp [-a_mulI, -a_divI, m1, m2, hd, m3, m4]
theorem step_st {A p z : PD} {n : Int} (h : F__law_plus [p, A] = .ok z) : g_law_l3 [x0, x1, x2, x3, x4, x5, x6, x7, x8, x9, x10, .va A, x12, x13, x14, x15, x16, x17, x18, x19, x20, x21, .va p, .va (.int n), x24, x25, x26, x27, x28] = .nx [x0, x1, x2, x3, x4, x5, x6, x7, x8, x9, x10, .va A, x12, x13, x14, x15, x16, x17, x18, x19, x20, x21, .va z, .va (.int (n + 1)), x24, x25, x26, x27, x28] := by
  simp only [g_law_l3]
  simp [h]
theorem loop_go {A B : Rat} (hA : 0 < A) (hB : 0 < B) (dA : A.den ≤ 2500) (nB : B.num ≤ 100000) (dB : B.den ≤ 2500) : ∀ (m n : Nat), 0 < n → n + m = (A / B).den → ∀ f, m < f → whL wcond g_law_l3 f [x0, x1, x2, x3, x4, x5, x6, x7, x8, x9, x10, .va (encQ A), x12, x13, x14, x15, x16, x17, x18, x19, x20, .va (encQ B), .va (encQ (A * ((n : Nat) : Rat))), .va (.int (n : Nat)), x24, x25, x26, x27, x28] = .nx [x0, x1, x2, x3, x4, x5, x6, x7, x8, x9, x10, .va (encQ A), x12, x13, x14, x15, x16, x17, x18, x19, x20, .va (encQ B), .va (encQ (A * (((A / B).den : Nat) : Rat))), .va (.int ((A / B).den : Nat)), x24, x25, x26, x27, x28] := by
  have hBn := num_pos hB
  have inA : In A.den A := ⟨A.num, rat_num_den A⟩
  -- the test at n
  have test : ∀ n : Nat, wcond [x0, x1, x2, x3, x4, x5, x6, x7, x8, x9, x10, .va (encQ A), x12, x13, x14, x15, x16, x17, x18, x19, x20, .va (encQ B), .va (encQ (A * ((n : Nat) : Rat))), .va (.int (n : Nat)), x24, x25, x26, x27, x28] = .ok (decide (¬ (A / B).den ∣ n)) := fun n => by
    have iN : In A.den (A * (n : Rat)) := inA.mul (n : Int)
    have d := in_den A.den_pos iN
    generalize hx : A * (n : Rat) = x at *
    have hd := x.den_pos
    have hv : 0 < ((x.den : Nat) : Int) * B.num := Int.mul_pos (den_pos' x) hBn
    obtain ⟨N, hN⟩ : ∃ N : Nat, B.num = (N : Int) := ⟨B.num.toNat, by omega⟩
    have hvb : x.den * N ≤ 2500 * 100000 := Nat.mul_le_mul (by omega) (by omega)
    have hvb' : ((x.den : Nat) : Int) * B.num ≤ 250000000 := by rw [hN, ← Int.natCast_mul]; omega
    have c := cond_st (x0 := x0) (x1 := x1) (x2 := x2) (x3 := x3) (x4 := x4) (x5 := x5) (x6 := x6) (x7 := x7) (x8 := x8) (x9 := x9) (x10 := x10) (x12 := x12) (x13 := x13) (x14 := x14) (x15 := x15) (x16 := x16) (x17 := x17) (x18 := x18) (x19 := x19) (x20 := x20) (x24 := x24) (x25 := x25) (x26 := x26) (x27 := x27) (x28 := x28) (x11 := .va (encQ A)) (x23 := .va (.int (n : Nat))) (b0 := B.num) (b1 := (B.den : Nat)) (p0 := x.num) (p1 := (x.den : Nat)) (mul_r _ _ (by omega)) (mul_l _ _ (by omega)) (by rw [a_divI, chk_of (decide_eq_true ⟨hv, by omega⟩)]) (mul_r _ _ (by omega)) (mul_r _ _ (by omega))
    refine Eq.trans c (congrArg _ (decide_eq_decide.mpr ?_))
    rw [← whole_at]
    refine not_congr ?_
    have kx := rat_num_den x
    have kB := rat_num_den B
    have h2 := Rat.ne_of_gt hB
    have hxd : (x.den : Rat) ≠ 0 := fun z => x.den_nz (Rat.natCast_eq_zero_iff.mp z)
    have hBd : (B.den : Rat) ≠ 0 := fun z => B.den_nz (Rat.natCast_eq_zero_iff.mp z)
    have hBn' : (B.num : Rat) ≠ 0 := fun z => by
      have := Rat.intCast_eq_zero_iff.mp z
      omega
    have hq : A / B * (n : Rat) * B = x := by rw [← hx, Rat.div_def]; grind
    constructor
    · intro h
      refine ⟨x.num * (B.den : Nat) / (((x.den : Nat) : Int) * B.num), ?_⟩
      generalize x.num * ((B.den : Nat) : Int) / (((x.den : Nat) : Int) * B.num) = k at *
      have h' : ((k * B.num * (x.den : Nat) : Int) : Rat) = ((x.num * (B.den : Nat) : Int) : Rat) := congrArg _ h
      rw [Rat.intCast_mul, Rat.intCast_mul, Rat.intCast_mul] at h'
      have h'' : (k : Rat) * (B.num : Rat) * (x.den : Rat) = (x.num : Rat) * (B.den : Rat) := h'
      rw [← kx, ← kB, ← hq] at h''
      grind
    · rintro ⟨k, hk⟩
      have h3 : x.num * (B.den : Nat) = k * (((x.den : Nat) : Int) * B.num) := by
        have : ((x.num * (B.den : Nat) : Int) : Rat) = ((k * (((x.den : Nat) : Int) * B.num) : Int) : Rat) := by
          rw [Rat.intCast_mul, Rat.intCast_mul, Rat.intCast_mul]
          show (x.num : Rat) * (B.den : Rat) = (k : Rat) * ((x.den : Rat) * (B.num : Rat))
          rw [← kx, ← kB, ← hq, hk]; grind
        exact Rat.intCast_inj.mp this
      rw [h3, Int.mul_ediv_cancel _ (Int.ne_of_gt hv)]
      grind
  intro m
  induction m with
  | zero =>
    intro n hn e f hf
    obtain ⟨f, rfl⟩ : ∃ g, f = g + 1 := ⟨f - 1, by omega⟩
    have en : n = (A / B).den := by omega
    subst en
    rw [whL, test]
    simp
  | succ m ih =>
    intro n hn e f hf
    obtain ⟨f, rfl⟩ : ∃ g, f = g + 1 := ⟨f - 1, by omega⟩
    have hno : ¬ (A / B).den ∣ n := fun z => by
      have := Nat.le_of_dvd hn z
      omega
    rw [whL, test, decide_eq_true hno]
    have iN : In A.den (A * (n : Rat)) := inA.mul (n : Int)
    have d := in_den A.den_pos iN
    have d1 := A.den_pos
    have pl := law_plus_eq (A * (n : Rat)) A (by
      have := Nat.mul_le_mul d (Nat.le_refl A.den)
      have := Nat.mul_le_mul dA dA
      omega)
    have e2 : A * (n : Rat) + A = A * ((n + 1 : Nat) : Rat) := by
      rw [Rat.natCast_add]
      have : ((1 : Nat) : Rat) = 1 := rfl
      rw [this]; grind
    rw [e2] at pl
    have st := step_st (x0 := x0) (x1 := x1) (x2 := x2) (x3 := x3) (x4 := x4) (x5 := x5) (x6 := x6) (x7 := x7) (x8 := x8) (x9 := x9) (x10 := x10) (x12 := x12) (x13 := x13) (x14 := x14) (x15 := x15) (x16 := x16) (x17 := x17) (x18 := x18) (x19 := x19) (x20 := x20) (x24 := x24) (x25 := x25) (x26 := x26) (x27 := x27) (x28 := x28) (x21 := .va (encQ B)) (n := (n : Nat)) pl
    simp only [toS, if_true, st]
    exact ih (n + 1) (by omega) (by omega) f (by omega)
end
end K95
namespace K95
open PySem PySem.Spec L2 DL
/-! ### rates again -/
def encP (p : Int × Int) : PD := .tuple [.int p.1, .int p.2]
theorem eqQ (a b : Rat) : eqD (encQ a) (encQ b) = .ok (.bool (decide (a = b))) := by
  unfold eqD dOk
  rw [depth_Q, depth_Q, chk_of (by decide), eqv_Q]
theorem neQ (a b : Rat) : neD (encQ a) (encQ b) = .ok (.bool (!decide (a = b))) := by
  unfold neD dOk
  rw [depth_Q, depth_Q, chk_of (by decide), eqv_Q]
theorem neQ_self (a : Rat) : neD (encQ a) (encQ a) = .ok (.bool false) := by rw [neQ, decide_eq_true rfl]; rfl
def rateB (w c o : Int) (t : Rat) : Bool := decide (w * o * (t.den : Nat) = c * (o - c) * t.num)
theorem agn_rate {w c e : Nat} (hc : 0 < c) (he : 0 < e) (t : Rat) : decide (agn w c e = t) = rateB w c ((c : Int) + (e : Int)) t := by
  have S : agn w c e = mkRat ((w * (c + e) : Nat) : Int) (c * e) := by
    unfold agn rise
    rw [Rat.mkRat_add_mkRat _ _ (by omega) (by omega)]
    congr 1
    rw [Int.natCast_mul, Int.natCast_add]; grind
  unfold rateB
  refine decide_eq_decide.mpr ?_
  rw [S]
  have ht := Rat.mkRat_self t
  have hne : c * e ≠ 0 := by have := Nat.mul_pos hc he; omega
  constructor
  · intro h
    rw [← ht] at h
    have := (Rat.mkRat_eq_iff hne t.den_nz).mp h
    rw [Int.natCast_mul, Int.natCast_mul, Int.natCast_add] at this
    rw [sub1, this]; grind
  · intro h
    rw [← ht]
    refine (Rat.mkRat_eq_iff hne t.den_nz).mpr ?_
    rw [Int.natCast_mul, Int.natCast_mul, Int.natCast_add]
    rw [sub1] at h
    rw [h]; grind
def ratesT (w : Nat) (t : Rat) (c : Int) : List (Int × Int) := ((rng (c + 1) (100 - c).toNat).filter fun o => rateB w c o t).map fun o => (c, o)
theorem rates_len (w : Nat) (t : Rat) (c : Int) (h : 1 ≤ c) : (ratesT w t c).length ≤ 100 := by
  unfold ratesT
  rw [List.length_map]
  refine Nat.le_trans (List.length_filter_le _ _) ?_
  rw [rng_len]; omega
theorem u1 {c : Nat} (hc : c ≤ 99) : decide (-1000000000000000 ≤ (c : Int) + 1 ∧ (c : Int) + 1 ≤ 1000000000000000 ∧ -1000000000000000 ≤ (100 + 1 : Int) ∧ (100 + 1 : Int) ≤ 1000000000000000) = true := by
  rw [decide_eq_true_eq]; omega
theorem u2 {c : Nat} (hc : c ≤ 99) : rg2 (.int ((c : Int) + 1)) (.int (100 + 1)) = .ok (rangeL ((c : Int) + 1) ((100 : Int) + 1 - ((c : Int) + 1)).toNat) := by
  rw [a_rg2, chk_of (u1 hc)]
theorem u3 {W T : PD} {RR RR' L : List PD} {c : Nat} {x5 x5' : Sl} (h5 : rg2 (.int ((c : Int) + 1)) (.int (100 + 1)) = .ok L)
    (e : forL (gN 5) g_rates_again_l1 L [.va (.int 3), .va W, .va T, .ol RR, .va (.int (c : Nat)), x5] = .nx [.va (.int 3), .va W, .va T, .ol RR', .va (.int (c : Nat)), x5']) :
    g_rates_again_l2 [.va (.int 3), .va W, .va T, .ol RR, .va (.int (c : Nat)), x5] = .nx [.va (.int 3), .va W, .va T, .ol RR', .va (.int (c : Nat)), x5'] := by
  unfold g_rates_again_l2
  rw [a_sFor, a_iR2]
  have h1 : (c2 addD (cV 4) (cK (.int 1))) [Sl.va (.int 3), .va W, .va T, .ol RR, .va (.int (c : Nat)), x5] = .ok (.int ((c : Int) + 1)) := rfl
  have h2 : (c2 addD (cK (.int 100)) (cK (.int 1))) [Sl.va (.int 3), .va W, .va T, .ol RR, .va (.int (c : Nat)), x5] = .ok (.int (100 + 1)) := rfl
  rw [h1, h2, R.ok_bind, R.ok_bind, h5, a_toS_ok]
  exact e
theorem ra_st {W : Int} {T : PD} {L : List PD} {x4 x5 : Sl} (hc : F__check [.tuple [.int 3, .int W, .int 1, .int 100]] = .ok .none) (ht : F_is_quotient [T] = .ok (.bool true)) (hl : F_is_less [.tuple [.int 1000000000000, .int 1], T] = .ok (.bool false))
    (e : forL (gN 4) g_rates_again_l2 ((rng 1 99).map PyData.int) [.va (.int 3), .va (.int W), .va T, .ol [], .un, .un] = .nx [.va (.int 3), .va (.int W), .va T, .ol L, x4, x5]) : F_rates_again [.int 3, .int W, T] = .ok (.tuple L) := by
  have hr : rg2 (.int 1) (.int 100) = .ok ((rng 1 99).map PyData.int) := by
    rw [a_rg2, chk_of (by decide), rangeL_rng]; rfl
  generalize (rng 1 99).map PyData.int = M at e hr
  unfold F_rates_again g_rates_again
  simp [-a_rg2, startE, hc, ht, hl, big_eq, hr, e]
section
variable {w : Nat} {t : Rat} (hw : 1 ≤ w ∧ w ≤ 9)
include hw
theorem rate_st {found : List PD} {c o : Nat} (hc : 1 ≤ c) (ho : c + 1 ≤ o) (ho2 : o ≤ 100) (hf : found.length < big) :
    g_rates_again_l1 [.va (.int 3), .va (.int ((3 : Nat) + (w : Int))), .va (encQ t), .ol found, .va (.int (c : Nat)), .va (.int (o : Nat))] =
      .nx [.va (.int 3), .va (.int ((3 : Nat) + (w : Int))), .va (encQ t), .ol (if rateB w c o t = true then found ++ [encP (c, o)] else found), .va (.int (c : Nat)), .va (.int (o : Nat))] := by
  obtain ⟨e, rfl⟩ : ∃ e, o = c + e := ⟨o - c, by omega⟩
  have S : Sip 3 w c e := ⟨by omega, by omega, by omega, by omega, by omega⟩
  have h := S.again
  have hq := eqQ (agn w c e) t
  rw [agn_rate S.c0 S.e0] at hq
  unfold encS at h
  rw [Int.natCast_add]
  have h3 : ((3 : Nat) : Int) = 3 := rfl
  rw [h3] at h ⊢
  generalize rateB w c ((c : Int) + (e : Int)) t = b at hq ⊢
  generalize encQ (agn w c e) = A at h hq
  generalize encQ t = T at hq ⊢
  simp only [g_rates_again_l1]
  rw [big_eq] at hf
  cases b <;> simp [h, hq, big_eq, encP, hf]
theorem mem_rngN {lo : Int} {n j : Nat} {y : Int} (h : (rng lo n)[j]? = some y) : y = lo + (j : Int) ∧ j < n := by
  have hj := (List.getElem?_eq_some_iff.mp h).1
  rw [rng_len] at hj
  rw [rng_get hj] at h
  exact ⟨(Option.some.inj h).symm, hj⟩
theorem fold_filter {α β : Type} (p : α → Bool) (f : α → β) : ∀ (l : List α) (r : List β), l.foldl (fun r x => if p x = true then r ++ [f x] else r) r = r ++ (l.filter p).map f
  | [], r => by simp
  | x :: l, r => by
    rw [List.foldl_cons, fold_filter p f l]
    by_cases h : p x = true
    · rw [if_pos h, List.filter_cons_of_pos h]; simp
    · rw [if_neg h, List.filter_cons_of_neg h]
theorem rates_in {r : List (Int × Int)} {c : Nat} {x5 : Sl} (hc : 1 ≤ c) (hc2 : c ≤ 99) (hr : r.length ≤ 20000) :
    ∃ x5', g_rates_again_l2 [.va (.int 3), .va (.int ((3 : Nat) + (w : Int))), .va (encQ t), .ol (r.map encP), .va (.int (c : Nat)), x5] = .nx [.va (.int 3), .va (.int ((3 : Nat) + (w : Int))), .va (encQ t), .ol ((r ++ ratesT w t c).map encP), .va (.int (c : Nat)), x5'] := by
  obtain ⟨ρ', e, x5', rfl, _⟩ := forL_fold (tgt := gN 5) (body := g_rates_again_l1) (fun i (r : List (Int × Int)) ρ => ∃ x5, ρ = [.va (.int 3), .va (.int ((3 : Nat) + (w : Int))), .va (encQ t), .ol (r.map encP), .va (.int (c : Nat)), x5] ∧ r.length ≤ 20000 + i)
    (fun r o => if rateB w c o t = true then r ++ [((c : Int), o)] else r) PyData.int (rng ((c : Int) + 1) (100 - (c : Int)).toNat) (s := r) (ρ := [.va (.int 3), .va (.int ((3 : Nat) + (w : Int))), .va (encQ t), .ol (r.map encP), .va (.int (c : Nat)), x5]) ⟨x5, rfl, by omega⟩ (by
      rintro j y r ρ hj ⟨x5, rfl, hr⟩
      obtain ⟨rfl, hj2⟩ := mem_rngN hw hj
      have ey : (c : Int) + 1 + (j : Int) = ((c + 1 + j : Nat) : Int) := by omega
      have st := rate_st hw (t := t) (found := r.map encP) hc (show c + 1 ≤ c + 1 + j by omega) (by omega) (by rw [List.length_map, big_eq]; omega)
      rw [ey]
      refine ⟨_, _, rfl, .inl st, .va (.int ((c + 1 + j : Nat) : Int)), ?_, ?_⟩
      · by_cases h : rateB w c ((c + 1 + j : Nat) : Int) t = true
        · rw [if_pos h, if_pos h, List.map_append]; rfl
        · rw [if_neg h, if_neg h]
      · by_cases h : rateB w c ((c + 1 + j : Nat) : Int) t = true
        · rw [if_pos h, List.length_append, List.length_singleton]; omega
        · rw [if_neg h]; omega)
  have ee : (rng ((c : Int) + 1) (100 - (c : Int)).toNat).foldl (fun r o => if rateB w c o t = true then r ++ [((c : Int), o)] else r) r = r ++ ratesT w t c := fold_filter hw (fun o => rateB w c o t) (fun o => ((c : Int), o)) _ _
  rw [ee, List.map_append] at e
  refine ⟨x5', ?_⟩
  rw [List.map_append]
  have hr : rangeL ((c : Int) + 1) ((100 : Int) + 1 - ((c : Int) + 1)).toNat = (rng ((c : Int) + 1) (100 - (c : Int)).toNat).map PyData.int := by
    rw [rangeL_rng, show ((100 : Int) + 1 - ((c : Int) + 1)).toNat = (100 - (c : Int)).toNat by omega]
  exact u3 ((u2 hc2).trans (congrArg _ hr)) e
theorem rates_eq (ht : F_is_quotient [encQ t] = .ok (.bool true)) (hl : F_is_less [.tuple [.int 1000000000000, .int 1], encQ t] = .ok (.bool false)) :
    F_rates_again [.int 3, .int ((3 : Nat) + (w : Int)), encQ t] = .ok (.tuple (((rng 1 99).flatMap fun c => ratesT w t c).map encP)) := by
  obtain ⟨ρ', e, x4, x5, rfl, _⟩ := forL_fold (tgt := gN 4) (body := g_rates_again_l2) (fun i (r : List (Int × Int)) ρ => ∃ x4 x5, ρ = [.va (.int 3), .va (.int ((3 : Nat) + (w : Int))), .va (encQ t), .ol (r.map encP), x4, x5] ∧ r.length ≤ 100 * i)
    (fun r c => r ++ ratesT w t c) PyData.int (rng 1 99) (s := []) (ρ := [.va (.int 3), .va (.int ((3 : Nat) + (w : Int))), .va (encQ t), .ol [], .un, .un]) ⟨.un, .un, rfl, Nat.le_refl _⟩ (by
      rintro j y r ρ hj ⟨x4, x5, rfl, hr⟩
      obtain ⟨rfl, hj2⟩ := mem_rngN hw hj
      have ey : (1 : Int) + (j : Int) = ((1 + j : Nat) : Int) := by omega
      obtain ⟨x5', st⟩ := rates_in hw (t := t) (r := r) (c := 1 + j) (x5 := x5) (by omega) (by omega) (by omega)
      rw [ey]
      refine ⟨_, _, rfl, .inl st, _, _, rfl, ?_⟩
      have := rates_len w t ((1 + j : Nat) : Int) (by omega)
      rw [List.length_append]; omega)
  have ef : (rng 1 99).foldl (fun r c => r ++ ratesT w t c) [] = (rng 1 99).flatMap fun c => ratesT w t c := by rw [List.flatMap_eq_foldl]
  rw [ef] at e
  have hc : F__check [.tuple [.int 3, .int ((3 : Nat) + (w : Int)), .int 1, .int 100]] = .ok .none := check_st (by omega) (by omega) (by omega) (by omega) (by omega) (by omega)
  exact ra_st hc ht hl e
end
end K95
namespace K95
open PySem PySem.Spec L2 DL
/-! ### the law's own list of rates -/
section
variable {x0 x1 x2 x3 x4 x5 x6 x7 x8 x9 x10 x11 x12 x13 x14 x15 x16 x17 x18 x19 x20 x21 x22 x23 x24 x25 x26 x27 x28 : Sl}

theorem mul_ok (i j : Int) (h : -18446744073709551616 < j ∧ j < 18446744073709551616) : mulD (.int i) (.int j) = .ok (.int (i * j)) := mul_r i j h
theorem rate_test {w c t0 t1 v : Int} {D : PD} (hv : 0 ≤ v ∧ v ≤ 1000) (hc : 0 ≤ c ∧ c ≤ 1000) (ht0 : -1000000 < t0 ∧ t0 < 1000000) (ht1 : -1000000 < t1 ∧ t1 < 1000000) :
    (bC eqD (c2 mulD (c2 mulD (cV 26) (cV 16)) (c2 ixD (cV 13) (cK (.int 1)))) (c2 mulD (c2 mulD (cV 7) (c2 subD (cV 16) (cV 7))) (c2 ixD (cV 13) (cK (.int 0))))) [x0, x1, x2, x3, x4, x5, x6, .va (.int c), x8, x9, x10, x11, x12, .va (.tuple [.int t0, .int t1]), x14, x15, .va (.int v), x17, x18, x19, x20, x21, x22, x23, x24, x25, .va (.int w), .va D, x28] = .ok (decide (w * v * t1 = c * (v - c) * t0)) := by
  have m1 := mul_ok w v (by omega)
  have m2 := mul_ok (w * v) t1 (by omega)
  have m3 := mul_ok c (v - c) (by omega)
  have m4 := mul_ok (c * (v - c)) t0 (by omega)
  simp [-a_mulI, m1, m2, m3, m4]
theorem due_st {w c t0 t1 : Int} {r : List (Int × Int)} (hc : 1 ≤ c ∧ c ≤ 100) (ht0 : -1000000 < t0 ∧ t0 < 1000000) (ht1 : -1000000 < t1 ∧ t1 < 1000000) (hr : r.length ≤ 20000) :
    g_law_l7 [x0, x1, x2, x3, x4, x5, x6, .va (.int c), x8, x9, x10, x11, x12, .va (.tuple [.int t0, .int t1]), x14, x15, x16, x17, x18, x19, x20, x21, x22, x23, x24, x25, .va (.int w), .va (.list (r.map encP)), x28] = .nx [x0, x1, x2, x3, x4, x5, x6, .va (.int c), x8, x9, x10, x11, x12, .va (.tuple [.int t0, .int t1]), x14, x15, x16, x17, x18, x19, x20, x21, x22, x23, x24, x25, .va (.int w), .va (.list ((r ++ ((rng (c + 1) (100 - c).toNat).filter fun o => decide (w * o * t1 = c * (o - c) * t0)).map fun o => (c, o)).map encP)), x28] := by
  have e := compL_map (tgt := gN 16) (p := (bC eqD (c2 mulD (c2 mulD (cV 26) (cV 16)) (c2 ixD (cV 13) (cK (.int 1)))) (c2 mulD (c2 mulD (cV 7) (c2 subD (cV 16) (cV 7))) (c2 ixD (cV 13) (cK (.int 0)))))) (f := cTup (cCons (cV 7) (cCons (cV 16) cNil))) (ρ := [x0, x1, x2, x3, x4, x5, x6, .va (.int c), x8, x9, x10, x11, x12, .va (.tuple [.int t0, .int t1]), x14, x15, .un, x17, x18, x19, x20, x21, x22, x23, x24, x25, .va (.int w), .va (.list (r.map encP)), x28]) PyData.int (fun o => decide (w * o * t1 = c * (o - c) * t0)) (fun o => (c, o)) encP (rng (c + 1) (100 - c).toNat)
    (fun o ho => ⟨[x0, x1, x2, x3, x4, x5, x6, .va (.int c), x8, x9, x10, x11, x12, .va (.tuple [.int t0, .int t1]), x14, x15, .va (.int o), x17, x18, x19, x20, x21, x22, x23, x24, x25, .va (.int w), .va (.list (r.map encP)), x28], rfl, rate_test (by have := mem_rng.mp ho; omega) (by omega) ht0 ht1, fun _ => by simp [big_eq, encP]⟩)
  have hg : rg2 (.int (c + 1)) (.int 101) = .ok ((rng (c + 1) (100 - c).toNat).map PyData.int) := by
    rw [a_rg2, chk_of (by rw [decide_eq_true_eq]; omega), rangeL_rng, show (101 - (c + 1)).toNat = (100 - c).toNat by omega]
  have hlen : (((rng (c + 1) (100 - c).toNat).filter fun o => decide (w * o * t1 = c * (o - c) * t0)).map fun o => (c, o)).length ≤ 100 := by
    rw [List.length_map]
    refine Nat.le_trans (List.length_filter_le _ _) ?_
    rw [rng_len]; omega
  have hL : ((rng (c + 1) (100 - c).toNat).map PyData.int).length ≤ 10000000 := by rw [List.length_map, rng_len]; omega
  generalize (((rng (c + 1) (100 - c).toNat).filter fun o => decide (w * o * t1 = c * (o - c) * t0)).map fun o => (c, o)) = q at e hlen ⊢
  generalize (rng (c + 1) (100 - c).toNat).map PyData.int = L at e hg hL
  rw [List.map_append]
  have h1 : (r.map encP).length + (q.map encP).length ≤ 10000000 := by rw [List.length_map, List.length_map]; omega
  generalize r.map encP = R at e h1 ⊢
  generalize q.map encP = Q at e h1 ⊢
  unfold g_law_l7
  simp [-a_rg2, hg, big_eq, hL, e, h1]
end
end K95
namespace K95
open PySem PySem.Spec L2 DL
/-! ### refusals -/
theorem in_s : ("BadSiphon" : Str) ∈ excs := by decide +kernel
theorem in_t : ("BadTime" : Str) ∈ excs := by decide +kernel
theorem in_m : ("BadMany" : Str) ∈ excs := by decide +kernel
theorem e_ss : (("BadSiphon" : Str) == "BadSiphon") = true := by decide +kernel
theorem e_tt : (("BadTime" : Str) == "BadTime") = true := by decide +kernel
theorem e_mm : (("BadMany" : Str) == "BadMany") = true := by decide +kernel
theorem e_ts : (("BadTime" : Str) == "BadSiphon") = false := by decide +kernel
theorem e_ms : (("BadMany" : Str) == "BadSiphon") = false := by decide +kernel
theorem e_mt : (("BadMany" : Str) == "BadTime") = false := by decide +kernel
theorem word_s {w : PD} (h : F__check [w] = .ex "BadSiphon" []) : ∀ c ∈ ([0, 1, 2, 3, 4] : List Int), F__law_word [.int c, w, .none, .none] = .ok (.str "siphon") := by
  intro k hk
  have ht : ∀ q, F__check_time [w, q] = .ex "BadSiphon" [] := fun q => by simp [F__check_time, g__check_time, startE, h]
  simp only [List.mem_cons, List.not_mem_nil, or_false] at hk
  rcases hk with rfl | rfl | rfl | rfl | rfl <;>
    simp [F__law_word, g__law_word, startE, sTry, hdl, noEx, F_siphon_again, g_siphon_again, F_siphon_level, g_siphon_level, F_siphon_runs, g_siphon_runs, F_siphon_time, g_siphon_time, F_both_run, g_both_run, h, ht, in_s, e_ss]
theorem word_s2 {s w : PD} (hs : F__check [s] = .ok .none) (h : F__check [w] = .ex "BadSiphon" []) : F__law_word [.int 4, s, w, .none] = .ok (.str "siphon") := by
  simp [F__law_word, g__law_word, startE, sTry, hdl, noEx, F_both_run, g_both_run, h, hs, in_s, e_ss]
theorem word_s5 {a b t : PD} (h : F__check [.tuple [a, b, .int 1, .int 100]] = .ex "BadSiphon" []) : F__law_word [.int 5, a, b, t] = .ok (.str "siphon") := by
  simp [F__law_word, g__law_word, startE, sTry, hdl, noEx, F_rates_again, g_rates_again, big_eq, h, in_s, e_ss]
theorem word_t {s q : PD} (hs : F__check [s] = .ok .none) (h : F__check_time [s, q] = .ex "BadTime" []) : ∀ c ∈ ([1, 2] : List Int), F__law_word [.int c, s, q, .none] = .ok (.str "time") := by
  intro k hk
  simp only [List.mem_cons, List.not_mem_nil, or_false] at hk
  rcases hk with rfl | rfl <;>
    simp [F__law_word, g__law_word, startE, sTry, hdl, noEx, F_siphon_level, g_siphon_level, F_siphon_runs, g_siphon_runs, h, in_t, e_tt, e_ts]
/-- a time that is none, or too great -/
def badT (q : PD) : Prop := F_is_quotient [q] = .ok (.bool false) ∨ (F_is_quotient [q] = .ok (.bool true) ∧ F_is_less [.tuple [.int 1000000000000, .int 1], q] = .ok (.bool true))
theorem ctime_bad {s q : PD} (hs : F__check [s] = .ok .none) (h : badT q) : F__check_time [s, q] = .ex "BadTime" [] := by
  rcases h with h | ⟨h1, h2⟩
  · simp [F__check_time, g__check_time, startE, hs, h]
  · simp [F__check_time, g__check_time, startE, hs, h1, h2, big_eq]
theorem word_t5 {a b q : PD} (hs : F__check [.tuple [a, b, .int 1, .int 100]] = .ok .none) (h : badT q) : F__law_word [.int 5, a, b, q] = .ok (.str "time") := by
  rcases h with h | ⟨h1, h2⟩
  · simp [F__law_word, g__law_word, startE, sTry, hdl, noEx, F_rates_again, g_rates_again, big_eq, hs, h, in_t, e_tt, e_ts]
  · simp [F__law_word, g__law_word, startE, sTry, hdl, noEx, F_rates_again, g_rates_again, big_eq, hs, h1, h2, in_t, e_tt, e_ts]
theorem word_m {s m : PD} (hs : F__check [s] = .ok .none) (h : F_is_whole [m, .int 1, .int 1000000000000] = .ok (.bool false)) : F__law_word [.int 3, s, m, .none] = .ok (.str "many") := by
  simp [F__law_word, g__law_word, startE, sTry, hdl, noEx, F_siphon_time, g_siphon_time, hs, h, in_m, e_mm, e_mt, e_ms]
/-! what is no siphon -/
theorem bad_none : F__check [.none] = .ex "BadSiphon" [] := by simp [F__check, g__check, startE, PyData.isTuple]
theorem bad_list (xs : List PD) : F__check [.list xs] = .ex "BadSiphon" [] := by simp [F__check, g__check, startE, PyData.isTuple]
theorem bad_len (xs : List PD) (h : (xs.length : Int) ≠ 4) : F__check [.tuple xs] = .ex "BadSiphon" [] := by
  have h' : ¬ (xs.length : Int) = 4 := h
  simp [F__check, g__check, startE, PyData.isTuple, h']
theorem bad_levels {l h : Int} {x y : PD} (z : ¬ (0 ≤ l ∧ l ≤ 1000 ∧ 1 ≤ h ∧ h ≤ 1000 ∧ l < h)) : F__check [.tuple [.int l, .int h, x, y]] = .ex "BadSiphon" [] := by
  simp only [F__check, g__check, startE]
  by_cases h1 : 0 ≤ l
  · by_cases h2 : l ≤ 1000
    · by_cases h3 : 1 ≤ h
      · by_cases h4 : h ≤ 1000
        · have h5 : h ≤ l := by omega
          simp [PyData.isTuple, whole_eq, h1, h2, h3, h4, h5]
        · simp [PyData.isTuple, whole_eq, h1, h2, h3, h4]
      · simp [PyData.isTuple, whole_eq, h1, h2, h3]
    · simp [PyData.isTuple, whole_eq, h1, h2]
  · simp [PyData.isTuple, whole_eq, h1]
theorem bad_rates {l h c r : Int} (h1 : 0 ≤ l ∧ l ≤ 1000) (h2 : 1 ≤ h ∧ h ≤ 1000) (h3 : l < h) (z : ¬ (1 ≤ c ∧ c ≤ 100 ∧ 1 ≤ r ∧ r ≤ 100 ∧ c < r)) : F__check [.tuple [.int l, .int h, .int c, .int r]] = .ex "BadSiphon" [] := by
  have h4 : ¬ h ≤ l := by omega
  simp only [F__check, g__check, startE]
  by_cases k1 : 1 ≤ c
  · by_cases k2 : c ≤ 100
    · by_cases k3 : 1 ≤ r
      · by_cases k4 : r ≤ 100
        · have k5 : r ≤ c := by omega
          simp [PyData.isTuple, whole_eq, h1, h2, h4, k1, k2, k3, k4, k5]
        · simp [PyData.isTuple, whole_eq, h1, h2, h4, k1, k2, k3, k4]
      · simp [PyData.isTuple, whole_eq, h1, h2, h4, k1, k2, k3]
    · simp [PyData.isTuple, whole_eq, h1, h2, h4, k1, k2]
  · simp [PyData.isTuple, whole_eq, h1, h2, h4, k1]
theorem bad_true {h x y : PD} : F__check [.tuple [.bool true, h, x, y]] = .ex "BadSiphon" [] := by
  have : F_is_whole [.bool true, .int 0, .int 1000] = .ok (.bool false) := rfl
  simp [F__check, g__check, startE, PyData.isTuple, this]
theorem bad_no {h x y : PD} : F__check [.tuple [.none, h, x, y]] = .ex "BadSiphon" [] := by
  have : F_is_whole [.none, .int 0, .int 1000] = .ok (.bool false) := rfl
  simp [F__check, g__check, startE, PyData.isTuple, this]
/-! what is no time -/
theorem nt1 : badT .none := .inl (by simp [F_is_quotient, g_is_quotient, startE, PyData.isTuple])
theorem nt2 : badT (.int 5) := .inl (by simp [F_is_quotient, g_is_quotient, startE, PyData.isTuple])
theorem isint (i : Int) : F_is_integer [.int i] = .ok (.bool true) := by simp [F_is_integer, g_is_integer, startE, PyData.isInt, PyData.isBool]
theorem nt3 : badT (.tuple [.int (-1), .int 1]) := .inl (by simp [F_is_quotient, g_is_quotient, startE, PyData.isTuple, isint])
theorem nt4 : badT (.tuple [.int 2, .int 4]) := .inl (by
  have := divisor_eq 2 4 (by decide)
  have e : ((Nat.gcd (2 : Int).natAbs (4 : Int).natAbs : Nat) : Int) = 2 := by decide
  rw [e] at this
  simp [F_is_quotient, g_is_quotient, startE, PyData.isTuple, isint, this])
theorem nt5 : badT (.tuple [.int 1000000000001, .int 1]) := .inr ⟨quot_ok ((1000000000001 : Int) : Rat) (by decide) (by decide), by
  have := less_st (u := 1000000000000) (d := 1) (u' := 1000000000001) (d' := 1) (mul_r _ _ (by decide)) (mul_r _ _ (by decide))
  rw [this]; rfl⟩
theorem nt6 : badT (.tuple [.bool true, .int 1]) := .inl (by
  have : F_is_integer [.bool true] = .ok (.bool false) := rfl
  simp [F_is_quotient, g_is_quotient, startE, PyData.isTuple, this])
end K95
namespace K95
open PySem PySem.Spec L2 DL
/-! ### one time of a turn -/
section
variable {x0 x2 x4 x13 x14 x15 x16 x17 x18 x19 x20 x21 x22 x23 x24 x25 x26 x27 x28 : Sl} {ds : List PD} {S T RI FA A LV OUT X1 X2 X3 X4 X5 FAR O2 : PD} {low hi c r n b v : Int}

noncomputable def timeE : En → R PD := (c2 ixD (cL (cLst (cCons (cTup (cCons (cK (.int 0)) (cCons (cK (.int 1)) cNil))) (cCons (cV 9) (cCons (cV 11) (cCons (cCall 2 F__law_low (cCons (c2 addD (cK (.int 1)) (c2 modD (cCl intD (cCons (c2 ixD (cV 1) (c2 addD (cK (.int 30)) (cV 2))) cNil)) (cK (.int 90)))) (cCons (c2 addD (cK (.int 1)) (c2 modD (cCl intD (cCons (c2 ixD (cV 1) (c2 addD (cK (.int 35)) (cV 2))) cNil)) (cK (.int 6)))) cNil))) (cCons (cCall 2 F__law_plus (cCons (cV 11) (cCons (cV 9) cNil))) (cCons (cCall 2 F__law_low (cCons (c2 addD (cK (.int 1)) (c2 modD (cCl intD (cCons (c2 ixD (cV 1) (cK (.int 40))) cNil)) (cK (.int 200)))) (cCons (cK (.int 7)) cNil))) cNil)))))))) (cV 12))
theorem l1_st (hT : timeE [x0, .va (.list ds), x2, .va S, x4, .va (.int low), .va (.int hi), .va (.int c), .va (.int r), .va RI, .va FA, .va A, .va (.int n), x13, x14, x15, x16, x17, x18, x19, x20, x21, x22, x23, x24, x25, x26, x27, x28] = .ok T) (hat : F__law_at [S, T] = .ok (.tuple [LV, .int b, OUT])) (hlv : F_siphon_level [S, T] = .ok LV) (nlv : neD LV LV = .ok (.bool false)) (hru : F_siphon_runs [S, T] = .ok (.tuple [.int b, OUT])) (nru : neD (.tuple [.int b, OUT]) (.tuple [.int b, OUT]) = .ok (.bool false))
    (hmi : F__law_minus [LV, .tuple [.int low, .int 1]] = .ok X1) (hpl : F__law_plus [X1, OUT] = .ok X2) (hti : F__law_times [T, .int c] = .ok X2) (nx2 : neD X2 X2 = .ok (.bool false)) (hv : atI ds (45 + n) = some (.int v))
    (h3 : F__law_times [A, .int (v * 1000 + 7)] = .ok X3) (hfar : F__law_plus [T, X3] = .ok FAR) (hlf : F_siphon_level [S, FAR] = .ok LV) (hrf : F_siphon_runs [S, FAR] = .ok (.tuple [.int (b + (v * 1000 + 7)), O2])) (h4 : F__law_times [FA, .int r] = .ok X4) (h5 : F__law_times [X4, .int (v * 1000 + 7)] = .ok X5)
    (ho : F__law_plus [OUT, X5] = .ok O2) (no2 : neD (.tuple [.int (b + (v * 1000 + 7)), O2]) (.tuple [.int (b + (v * 1000 + 7)), O2]) = .ok (.bool false)) :
    g_law_l1 [x0, .va (.list ds), x2, .va S, x4, .va (.int low), .va (.int hi), .va (.int c), .va (.int r), .va RI, .va FA, .va A, .va (.int n), x13, x14, x15, x16, x17, x18, x19, x20, x21, x22, x23, x24, x25, x26, x27, x28] = .nx [x0, .va (.list ds), x2, .va S, x4, .va (.int low), .va (.int hi), .va (.int c), .va (.int r), .va RI, .va FA, .va A, .va (.int n), .va T, .va LV, .va (.int b), .va OUT, .va (.int (v * 1000 + 7)), .va FAR, x19, x20, x21, x22, x23, x24, x25, x26, x27, x28] := by
  have hs : ∀ rest, sSeq (sSet 13 timeE) rest [x0, .va (.list ds), x2, .va S, x4, .va (.int low), .va (.int hi), .va (.int c), .va (.int r), .va RI, .va FA, .va A, .va (.int n), x13, x14, x15, x16, x17, x18, x19, x20, x21, x22, x23, x24, x25, x26, x27, x28] = rest [x0, .va (.list ds), x2, .va S, x4, .va (.int low), .va (.int hi), .va (.int c), .va (.int r), .va RI, .va FA, .va A, .va (.int n), .va T, x14, x15, x16, x17, x18, x19, x20, x21, x22, x23, x24, x25, x26, x27, x28] := fun rest => by
    rw [a_sSeq, a_sSet, hT]; rfl
  unfold g_law_l1
  refine (hs _).trans ?_
  have hm : mulD (.int v) (.int 1000) = .ok (.int (v * 1000)) := mul_r v 1000 (by decide)
  simp [-a_mulI, hat, hlv, nlv, hru, nru, hmi, hpl, hti, nx2, hv, hm, h3, hfar, hlf, hrf, h4, h5, ho, no2, big_eq, PyData.isBool]
end
end K95
namespace K95
open PySem PySem.Spec L2 DL
/-- a siphon as the law draws it -/
structure LS (low w c e : Nat) : Prop where
  l8 : low ≤ 8
  w0 : 0 < w
  w12 : w ≤ 12
  c0 : 0 < c
  c7 : c ≤ 7
  e0 : 0 < e
  e6 : e ≤ 6
theorem LS.fit {low w c e : Nat} (L : LS low w c e) : Fit low w c e (420 * (c * e)) := by
  have h1 := L.l8; have h2 := L.w0; have h3 := L.w12; have h4 := L.c0; have h5 := L.c7; have h6 := L.e0; have h7 := L.e6
  have hce : c * e ≤ 7 * 6 := Nat.mul_le_mul h5 h7
  have hp := Nat.mul_pos h4 h6
  have hD : 420 * (c * e) ≤ 17640 := by omega
  have hDD := Nat.mul_le_mul hD hD
  have hwc : w * (c + e) ≤ 12 * 13 := Nat.mul_le_mul h3 (by omega)
  have hs := Nat.mul_le_mul hD hwc
  exact { w0 := h2, c0 := h4, e0 := h6, top := by omega, rt := by omega, D0 := by omega, DD := by omega, cD := ⟨420 * e, by grind⟩, eD := ⟨420 * c, by grind⟩, sm := by omega }
theorem rise_le {w c : Nat} (hc : 0 < c) : rise w c ≤ (w : Rat) := by
  have h := rise_eq (w := w) hc
  have h1 : ((1 : Nat) : Rat) ≤ (c : Rat) := Rat.natCast_le_natCast.mpr hc
  have h2 : ((1 : Nat) : Rat) = 1 := rfl
  have h3 : (0 : Rat) ≤ rise w c := by
    unfold rise
    have : 0 ≤ (mkRat (w : Int) c).num := by
      rw [Rat.num_mkRat]
      split
      · omega
      · exact Int.ediv_nonneg (by omega) (by omega)
    exact Rat.num_nonneg.mp this
  have := Rat.mul_le_mul_of_nonneg_left h1 h3
  rw [h2] at this
  grind
theorem agn_le {w c e : Nat} (hc : 0 < c) (he : 0 < e) (hw : w ≤ 12) : agn w c e ≤ 24 := by
  have h1 := rise_le (w := w) hc
  have h2 := rise_le (w := w) he
  have h3 : (w : Rat) ≤ ((12 : Nat) : Rat) := Rat.natCast_le_natCast.mpr hw
  have h4 : ((12 : Nat) : Rat) = 12 := rfl
  unfold agn; grind
theorem rnds_small {low w c e : Nat} (S : Sip low w c e) {t : Rat} (ht : t ≤ 900) : rnds w c e t < 100000 := by
  obtain ⟨h1, h2⟩ := rest_bounds S.w0 S.c0 S.e0 t
  have hb : (1 : Rat) ≤ agn w c e * 100 := by
    have r1 := rise_eq (w := w) S.c0
    have r2 := rise_pos S.w0 S.e0
    have c100 : (c : Rat) ≤ ((100 : Nat) : Rat) := Rat.natCast_le_natCast.mpr (by have := S.rt; omega)
    have e100 : ((100 : Nat) : Rat) = 100 := rfl
    have w1 : ((1 : Nat) : Rat) ≤ (w : Rat) := Rat.natCast_le_natCast.mpr S.w0
    have e1 : ((1 : Nat) : Rat) = 1 := rfl
    have r3 := rise_pos S.w0 S.c0
    have := Rat.mul_le_mul_of_nonneg_left c100 (Rat.le_of_lt r3)
    unfold agn; grind
  have ha := agn_pos S.w0 S.c0 S.e0
  refine Int.not_le.mp fun z => ?_
  have z' : ((100000 : Int) : Rat) ≤ (rnds w c e t : Rat) := Rat.intCast_le_intCast.mpr z
  have e1 : ((100000 : Int) : Rat) = 100000 := rfl
  rw [e1] at z'
  unfold rest at h1
  have g1 := Rat.mul_le_mul_of_nonneg_left z' (Rat.le_of_lt ha)
  grind
theorem ne_pair (b : Int) (q : Rat) : neD (.tuple [.int b, encQ q]) (.tuple [.int b, encQ q]) = .ok (.bool false) :=
  neD_self (by rfl) (by simp [PyData.depth, PyData.depthAll, depth_Q])
theorem far_time {low w c e : Nat} (L : LS low w c e) {t : Rat} {v : Int} (it : In (420 * (c * e)) t) (h0 : 0 ≤ t) (h9 : t ≤ 900) (hv : 0 ≤ v ∧ v ≤ 70000000) : TimeOk (420 * (c * e)) w c e (t + agn w c e * (v : Rat)) := by
  have ha := agn_pos L.w0 L.c0 L.e0
  have h24 := agn_le (w := w) L.c0 L.e0 L.w12
  have v0 : ((0 : Int) : Rat) ≤ (v : Rat) := Rat.intCast_le_intCast.mpr hv.1
  have v1 : (v : Rat) ≤ ((70000000 : Int) : Rat) := Rat.intCast_le_intCast.mpr hv.2
  have e0 : ((0 : Int) : Rat) = 0 := rfl
  have e1 : ((70000000 : Int) : Rat) = 70000000 := rfl
  rw [e0] at v0
  rw [e1] at v1
  have p1 := Rat.mul_nonneg (Rat.le_of_lt ha) v0
  have p2 := Rat.mul_le_mul_of_nonneg_right h24 v0
  exact ⟨it.add (L.fit.inA.mul v), by grind, by grind⟩
end K95
namespace K95
open PySem PySem.Spec L2 DL
section
variable {x0 x2 x4 x13 x14 x15 x16 x17 x18 x19 x20 x21 x22 x23 x24 x25 x26 x27 x28 : Sl} {ds : List PD} {low w c e : Nat} {n v : Int} {t : Rat}

theorem l1_go (L : LS low w c e) (it : In (420 * (c * e)) t) (h0 : 0 ≤ t) (h9 : t ≤ 900) (hT : timeE [x0, .va (.list ds), x2, .va (encS low w c e), x4, .va (.int (low : Nat)), .va (.int ((low : Int) + (w : Int))), .va (.int (c : Nat)), .va (.int ((c : Int) + (e : Int))), .va (encQ (rise w c)), .va (encQ (rise w e)), .va (encQ (agn w c e)), .va (.int n), x13, x14, x15, x16, x17, x18, x19, x20, x21, x22, x23, x24, x25, x26, x27, x28] = .ok (encQ t)) (hv : atI ds (45 + n) = some (.int v)) (v0 : 0 ≤ v ∧ v < 65521) :
    ∃ y13 y14 y15 y16 y17 y18, g_law_l1 [x0, .va (.list ds), x2, .va (encS low w c e), x4, .va (.int (low : Nat)), .va (.int ((low : Int) + (w : Int))), .va (.int (c : Nat)), .va (.int ((c : Int) + (e : Int))), .va (encQ (rise w c)), .va (encQ (rise w e)), .va (encQ (agn w c e)), .va (.int n), x13, x14, x15, x16, x17, x18, x19, x20, x21, x22, x23, x24, x25, x26, x27, x28] = .nx [x0, .va (.list ds), x2, .va (encS low w c e), x4, .va (.int (low : Nat)), .va (.int ((low : Int) + (w : Int))), .va (.int (c : Nat)), .va (.int ((c : Int) + (e : Int))), .va (encQ (rise w c)), .va (encQ (rise w e)), .va (encQ (agn w c e)), .va (.int n), y13, y14, y15, y16, y17, y18, x19, x20, x21, x22, x23, x24, x25, x26, x27, x28] := by
  have S := L.fit
  have hc := L.c7
  have he := L.e6
  have T1 : TimeOk (420 * (c * e)) w c e t := ⟨it, h0, by grind⟩
  have T2 := far_time L (v := v * 1000 + 7) it h0 h9 (by omega)
  have hat := law_at_eq S it h0 (rnds_small S.toSip h9)
  have hlv := level_eq S T1
  have hru := runs_eq S T1
  have hlf := level_eq S T2
  have hrf := runs_eq S T2
  rw [level_far S.w0 S.c0 S.e0] at hlf
  rw [begun_far S.w0 S.c0 S.e0, out_far S.w0 S.c0 S.e0] at hrf
  -- denominators of level and out
  have ix := S.inX it
  have iL : In (420 * (c * e)) (levelT low w c e t) := by
    unfold levelT
    split
    · exact (In.int (low : Int)).add (ix.mul (c : Int))
    · exact ((In.int (low : Int)).add (In.int (w : Int))).sub ((ix.sub S.inR).mul (e : Int))
  have iO : In (420 * (c * e)) (outT w c e t) := by
    unfold outT
    have : ((c : Rat) + (e : Rat)) = (((c : Int) + (e : Int) : Int) : Rat) := by rw [Rat.intCast_add]; rfl
    rw [this]
    refine In.mul ((S.inF.mul _).add ?_) _
    split
    · exact In.int 0
    · exact ix.sub S.inR
  have hmi := S.lms iL (In.int (low : Int))
  rw [encQ_int] at hmi
  have hpl := S.lps (iL.sub (In.int (low : Int))) iO
  have hk := kept (low := low) (w := w) S.c0 S.e0 t
  have hk' : levelT low w c e t - ((low : Int) : Rat) + outT w c e t = t * ((c : Int) : Rat) := hk
  rw [hk'] at hpl
  have hti := S.ltm it (c : Int) (by omega)
  have h3 := S.ltm S.inA (v * 1000 + 7) (by omega)
  have hfar := S.lps it (S.inA.mul (v * 1000 + 7))
  have h4 := S.ltm S.inF ((c : Int) + (e : Int)) (by omega)
  have h5 := S.ltm (S.inF.mul ((c : Int) + (e : Int))) (v * 1000 + 7) (by omega)
  have ho := S.lps iO ((S.inF.mul ((c : Int) + (e : Int))).mul (v * 1000 + 7))
  have hce : (((c : Int) + (e : Int) : Int) : Rat) = (c : Rat) + (e : Rat) := by rw [Rat.intCast_add]; rfl
  rw [hce] at h4 h5 ho
  exact ⟨_, _, _, _, _, _, l1_st (x0 := x0) (x2 := x2) (x4 := x4) (x13 := x13) (x14 := x14) (x15 := x15) (x16 := x16) (x17 := x17) (x18 := x18) (x19 := x19) (x20 := x20) (x21 := x21) (x22 := x22) (x23 := x23) (x24 := x24) (x25 := x25) (x26 := x26) (x27 := x27) (x28 := x28) hT hat hlv (neQ_self _) hru (ne_pair _ _) hmi hpl hti (neQ_self _) hv h3 hfar hlf hrf h4 h5 ho (ne_pair _ _)⟩
end
end K95
namespace K95
open PySem PySem.Spec L2 DL
section
variable {x0 x4 x12 x13 x14 x15 x16 x17 x18 x19 x20 x21 x22 x23 x24 x25 x26 x27 x28 : Sl} {DS : List Int} {low w c e : Nat} {n v tn a b q : Int} {t : Rat}

theorem timeE_st {x3 x5 x6 x7 x8 x10 : Sl} {ds : List PD} {RI A T3 T4 T5 : PD} (h1 : atI ds (30 + tn) = some (.int a)) (h2 : atI ds (35 + tn) = some (.int b)) (h3 : atI ds 40 = some (.int q)) (e3 : F__law_low [.int (1 + a % 90), .int (1 + b % 6)] = .ok T3) (e4 : F__law_plus [A, RI] = .ok T4) (e5 : F__law_low [.int (1 + q % 200), .int 7] = .ok T5) :
    timeE [x0, .va (.list ds), .va (.int tn), x3, x4, x5, x6, x7, x8, .va RI, x10, .va A, .va (.int n), x13, x14, x15, x16, x17, x18, x19, x20, x21, x22, x23, x24, x25, x26, x27, x28] = ixD (.list [.tuple [.int 0, .int 1], RI, A, T3, T4, T5]) (.int n) := by
  unfold timeE
  simp [-a_ixL, h1, h2, h3, e3, e4, e5, big_eq]
  simp [h1, h2, h3, e3, e4, e5, big_eq]
theorem law_low' (u d : Int) (h0 : 0 < d) (h : d < 1000) : F__law_low [.int u, .int d] = .ok (encQ (mkRat u d.toNat)) := by
  have := law_low_eq u d.toNat (by omega) (by omega)
  rwa [show ((d.toNat : Nat) : Int) = d by omega] at this
theorem mk_bounds {u d : Int} (h0 : 0 ≤ u ∧ u ≤ 900) (hd : 0 < d) : 0 ≤ mkRat u d.toNat ∧ mkRat u d.toNat ≤ 900 := by
  have hp : (0 : Rat) < ((d.toNat : Nat) : Rat) := Rat.natCast_pos.mpr (by omega)
  have h1 : ((1 : Nat) : Rat) ≤ ((d.toNat : Nat) : Rat) := Rat.natCast_le_natCast.mpr (by omega)
  have e1 : ((1 : Nat) : Rat) = 1 := rfl
  have u0 : ((0 : Int) : Rat) ≤ (u : Rat) := Rat.intCast_le_intCast.mpr h0.1
  have u1 : (u : Rat) ≤ ((900 : Int) : Rat) := Rat.intCast_le_intCast.mpr h0.2
  have e0 : ((0 : Int) : Rat) = 0 := rfl
  have e9 : ((900 : Int) : Rat) = 900 := rfl
  have hn : 0 ≤ mkRat u d.toNat := by
    have : 0 ≤ (mkRat u d.toNat).num := by
      rw [Rat.num_mkRat]
      split
      · omega
      · exact Int.ediv_nonneg h0.1 (by omega)
    exact Rat.num_nonneg.mp this
  refine ⟨hn, ?_⟩
  have k := Rat.mul_le_mul_of_nonneg_left h1 hn
  rw [e1, Rat.mkRat_eq_div] at k
  rw [Rat.mkRat_eq_div] at hn ⊢
  have hm : (u : Rat) / ((d.toNat : Nat) : Rat) * ((d.toNat : Nat) : Rat) = (u : Rat) := Rat.div_mul_cancel (Rat.ne_of_gt hp)
  grind
theorem times_all (L : LS low w c e) (hd : DS.length = 60) (ho : DrawOk DS) (ht : 0 ≤ tn ∧ tn < 5) {x12 x13 x14 x15 x16 x17 x18 : Sl} :
    ∃ y12 y13 y14 y15 y16 y17 y18, forL (gN 12) g_law_l1 ((rng 0 6).map PyData.int) [x0, .va (.list (DS.map PyData.int)), .va (.int tn), .va (encS low w c e), x4, .va (.int (low : Nat)), .va (.int ((low : Int) + (w : Int))), .va (.int (c : Nat)), .va (.int ((c : Int) + (e : Int))), .va (encQ (rise w c)), .va (encQ (rise w e)), .va (encQ (agn w c e)), x12, x13, x14, x15, x16, x17, x18, x19, x20, x21, x22, x23, x24, x25, x26, x27, x28] = .nx [x0, .va (.list (DS.map PyData.int)), .va (.int tn), .va (encS low w c e), x4, .va (.int (low : Nat)), .va (.int ((low : Int) + (w : Int))), .va (.int (c : Nat)), .va (.int ((c : Int) + (e : Int))), .va (encQ (rise w c)), .va (encQ (rise w e)), .va (encQ (agn w c e)), y12, y13, y14, y15, y16, y17, y18, x19, x20, x21, x22, x23, x24, x25, x26, x27, x28] := by
  have S := L.fit
  have hc := L.c7
  have he := L.e6
  have dr : ∀ i : Int, 0 ≤ i ∧ i < 60 → ∃ v : Int, atI (DS.map PyData.int) i = some (.int v) ∧ 0 ≤ v ∧ v < 65521 := fun i hi => by
    obtain ⟨k, rfl⟩ : ∃ k : Nat, i = (k : Int) := ⟨i.toNat, by omega⟩
    have hk : k < DS.length := by omega
    refine ⟨DS[k], ?_, ho _ (List.getElem_mem hk)⟩
    rw [atI_nn, List.getElem?_map, List.getElem?_eq_getElem hk]; rfl
  obtain ⟨a, ha, ha2⟩ := dr (30 + tn) (by omega)
  obtain ⟨b, hb, hb2⟩ := dr (35 + tn) (by omega)
  obtain ⟨q, hq, hq2⟩ := dr 40 (by omega)
  have e3 := law_low' (1 + a % 90) (1 + b % 6) (by omega) (by omega)
  have e5 := law_low' (1 + q % 200) 7 (by omega) (by omega)
  have e4 := S.lps S.inA S.inR
  have i3 : In (420 * (c * e)) (mkRat (1 + a % 90) (1 + b % 6).toNat) := In.mk _ (by omega) (by
    have h6 : (1 + b % 6).toNat = 1 ∨ (1 + b % 6).toNat = 2 ∨ (1 + b % 6).toNat = 3 ∨ (1 + b % 6).toNat = 4 ∨ (1 + b % 6).toNat = 5 ∨ (1 + b % 6).toNat = 6 := by omega
    refine Nat.dvd_trans ?_ (Nat.dvd_mul_right 420 (c * e))
    rcases h6 with z | z | z | z | z | z <;> rw [z] <;> decide)
  have i5 : In (420 * (c * e)) (mkRat (1 + q % 200) (7 : Int).toNat) := In.mk _ (by decide) (Nat.dvd_trans (by decide) (Nat.dvd_mul_right 420 (c * e)))
  have b3 := mk_bounds (u := 1 + a % 90) (d := 1 + b % 6) (by omega) (by omega)
  have b5 := mk_bounds (u := 1 + q % 200) (d := 7) (by omega) (by omega)
  have pa := agn_pos L.w0 L.c0 L.e0
  have la := agn_le (w := w) L.c0 L.e0 L.w12
  have pr := rise_pos L.w0 L.c0
  have lr : rise w c ≤ agn w c e := by
    have := rise_pos L.w0 L.e0
    unfold agn; grind
  -- the times
  have pick : ∀ n : Int, 0 ≤ n ∧ n < 6 → ∃ t : Rat, ixD (.list [.tuple [.int 0, .int 1], encQ (rise w c), encQ (agn w c e), encQ (mkRat (1 + a % 90) (1 + b % 6).toNat), encQ (agn w c e + rise w c), encQ (mkRat (1 + q % 200) (7 : Int).toNat)]) (.int n) = .ok (encQ t) ∧ In (420 * (c * e)) t ∧ 0 ≤ t ∧ t ≤ 900 := by
    intro n hn
    have hn' : n = 0 ∨ n = 1 ∨ n = 2 ∨ n = 3 ∨ n = 4 ∨ n = 5 := by omega
    rcases hn' with rfl | rfl | rfl | rfl | rfl | rfl
    · exact ⟨((0 : Int) : Rat), rfl, In.int 0, by decide, by decide⟩
    · exact ⟨_, rfl, S.inR, by grind, by grind⟩
    · exact ⟨_, rfl, S.inA, by grind, by grind⟩
    · exact ⟨_, rfl, i3, b3.1, b3.2⟩
    · exact ⟨_, rfl, S.inA.add S.inR, by grind, by grind⟩
    · exact ⟨_, rfl, i5, b5.1, b5.2⟩
  obtain ⟨ρ', e, y12, y13, y14, y15, y16, y17, y18, rfl⟩ := forL_inv (tgt := gN 12) (body := g_law_l1) (fun _ ρ => ∃ y12 y13 y14 y15 y16 y17 y18, ρ = [x0, .va (.list (DS.map PyData.int)), .va (.int tn), .va (encS low w c e), x4, .va (.int (low : Nat)), .va (.int ((low : Int) + (w : Int))), .va (.int (c : Nat)), .va (.int ((c : Int) + (e : Int))), .va (encQ (rise w c)), .va (encQ (rise w e)), .va (encQ (agn w c e)), y12, y13, y14, y15, y16, y17, y18, x19, x20, x21, x22, x23, x24, x25, x26, x27, x28]) PyData.int (rng 0 6) (ρ := [x0, .va (.list (DS.map PyData.int)), .va (.int tn), .va (encS low w c e), x4, .va (.int (low : Nat)), .va (.int ((low : Int) + (w : Int))), .va (.int (c : Nat)), .va (.int ((c : Int) + (e : Int))), .va (encQ (rise w c)), .va (encQ (rise w e)), .va (encQ (agn w c e)), x12, x13, x14, x15, x16, x17, x18, x19, x20, x21, x22, x23, x24, x25, x26, x27, x28]) ⟨_, _, _, _, _, _, _, rfl⟩ (by
    rintro j n ρ hj ⟨y12, y13, y14, y15, y16, y17, y18, rfl⟩
    have hn := mem_rng.mp (List.mem_of_getElem? hj)
    obtain ⟨t, t1, t2, t3, t4⟩ := pick n (by omega)
    obtain ⟨v, hv, hv2⟩ := dr (45 + n) (by omega)
    have hT : timeE [x0, .va (.list (DS.map PyData.int)), .va (.int tn), .va (encS low w c e), x4, .va (.int (low : Nat)), .va (.int ((low : Int) + (w : Int))), .va (.int (c : Nat)), .va (.int ((c : Int) + (e : Int))), .va (encQ (rise w c)), .va (encQ (rise w e)), .va (encQ (agn w c e)), .va (.int n), y13, y14, y15, y16, y17, y18, x19, x20, x21, x22, x23, x24, x25, x26, x27, x28] = .ok (encQ t) := (timeE_st ha hb hq e3 e4 e5).trans t1
    obtain ⟨z13, z14, z15, z16, z17, z18, go⟩ := l1_go L t2 t3 t4 hT hv hv2
    exact ⟨_, _, rfl, .inl go, _, _, _, _, _, _, _, rfl⟩)
  exact ⟨_, _, _, _, _, _, _, e⟩
end
end K95
namespace K95
open PySem PySem.Spec L2 DL
section
variable {x0 x1 x2 x3 x4 x5 x6 x7 x8 x9 x10 x11 x12 x13 x14 x15 x16 x17 x18 x19 x20 x21 x22 x23 x24 x25 x26 x27 x28 : Sl} {low w c e : Nat}

theorem l2_st {S RI A TL X OUT : PD} {hi m : Int} (h1 : F_siphon_time [S, .int m] = .ok TL) (h2 : F__law_times [A, .int (m - 1)] = .ok X) (h3 : F__law_plus [RI, X] = .ok TL) (n1 : neD TL TL = .ok (.bool false)) (h4 : F_siphon_runs [S, TL] = .ok (.tuple [.int m, OUT])) (h5 : F_siphon_level [S, TL] = .ok (.tuple [.int hi, .int 1]))
    (n2 : neD (.tuple [.int hi, .int 1]) (.tuple [.int hi, .int 1]) = .ok (.bool false)) : g_law_l2 [x0, x1, x2, .va S, x4, x5, .va (.int hi), x7, x8, .va RI, x10, .va A, x12, x13, x14, x15, x16, x17, x18, .va (.int m), x20, x21, x22, x23, x24, x25, x26, x27, x28] = .nx [x0, x1, x2, .va S, x4, x5, .va (.int hi), x7, x8, .va RI, x10, .va A, x12, x13, x14, x15, x16, x17, x18, .va (.int m), .va TL, x21, x22, x23, x24, x25, x26, x27, x28] := by
  unfold g_law_l2
  simp [h1, h2, h3, n1, h4, h5, n2, big_eq]
theorem ne_int (i : Int) : neD (.tuple [.int i, .int 1]) (.tuple [.int i, .int 1]) = .ok (.bool false) := neD_self (by rfl) (by simp [PyData.depth, PyData.depthAll])
theorem l2_go (L : LS low w c e) {m : Int} (hm : 1 ≤ m ∧ m ≤ 10000000) : ∃ y20, g_law_l2 [x0, x1, x2, .va (encS low w c e), x4, x5, .va (.int ((low : Int) + (w : Int))), x7, x8, .va (encQ (rise w c)), x10, .va (encQ (agn w c e)), x12, x13, x14, x15, x16, x17, x18, .va (.int m), x20, x21, x22, x23, x24, x25, x26, x27, x28] = .nx [x0, x1, x2, .va (encS low w c e), x4, x5, .va (.int ((low : Int) + (w : Int))), x7, x8, .va (encQ (rise w c)), x10, .va (encQ (agn w c e)), x12, x13, x14, x15, x16, x17, x18, .va (.int m), y20, x21, x22, x23, x24, x25, x26, x27, x28] := by
  have S := L.fit
  have h1 := stime_eq S (m := m) (by omega)
  have h2 := S.ltm S.inA (m - 1) (by omega)
  have h3 := S.lps S.inR (S.inA.mul (m - 1))
  have hc : rise w c + agn w c e * ((m - 1 : Int) : Rat) = agn w c e * ((m - 1 : Int) : Rat) + rise w c := by grind
  rw [hc] at h3
  have T : TimeOk (420 * (c * e)) w c e (agn w c e * ((m - 1 : Int) : Rat) + rise w c) := by
    have pa := agn_pos L.w0 L.c0 L.e0
    have la := agn_le (w := w) L.c0 L.e0 L.w12
    have pr := rise_pos L.w0 L.c0
    have lr : rise w c ≤ agn w c e := by
      have := rise_pos L.w0 L.e0
      unfold agn; grind
    have v0 : ((0 : Int) : Rat) ≤ ((m - 1 : Int) : Rat) := Rat.intCast_le_intCast.mpr (by omega)
    have v1 : ((m - 1 : Int) : Rat) ≤ ((10000000 : Int) : Rat) := Rat.intCast_le_intCast.mpr (by omega)
    have e0 : ((0 : Int) : Rat) = 0 := rfl
    have e1 : ((10000000 : Int) : Rat) = 10000000 := rfl
    rw [e0] at v0
    rw [e1] at v1
    have p1 := Rat.mul_nonneg (Rat.le_of_lt pa) v0
    have p2 := Rat.mul_le_mul_of_nonneg_right la v0
    exact ⟨(S.inA.mul _).add S.inR, by grind, by grind⟩
  obtain ⟨k1, k2⟩ := told_at (low := low) L.w0 L.c0 L.e0 m
  have h4 := runs_eq S T
  rw [k1] at h4
  have h5 := level_eq S T
  rw [k2] at h5
  have e1 : (low : Rat) + (w : Rat) = (((low : Int) + (w : Int) : Int) : Rat) := by rw [Rat.intCast_add]; rfl
  rw [e1, encQ_int] at h5
  exact ⟨_, l2_st h1 h2 h3 (neQ_self _) h4 h5 (ne_int _)⟩
theorem manys_all (L : LS low w c e) {d : Int} (hd : 0 ≤ d ∧ d < 65521) : ∃ y19 y20, forL (gN 19) g_law_l2 ([1, 2, 5, 1 + d, 1000000].map PyData.int) [x0, x1, x2, .va (encS low w c e), x4, x5, .va (.int ((low : Int) + (w : Int))), x7, x8, .va (encQ (rise w c)), x10, .va (encQ (agn w c e)), x12, x13, x14, x15, x16, x17, x18, x19, x20, x21, x22, x23, x24, x25, x26, x27, x28] = .nx [x0, x1, x2, .va (encS low w c e), x4, x5, .va (.int ((low : Int) + (w : Int))), x7, x8, .va (encQ (rise w c)), x10, .va (encQ (agn w c e)), x12, x13, x14, x15, x16, x17, x18, y19, y20, x21, x22, x23, x24, x25, x26, x27, x28] := by
  obtain ⟨ρ', e, y19, y20, rfl⟩ := forL_inv (tgt := gN 19) (body := g_law_l2) (fun _ ρ => ∃ y19 y20, ρ = [x0, x1, x2, .va (encS low w c e), x4, x5, .va (.int ((low : Int) + (w : Int))), x7, x8, .va (encQ (rise w c)), x10, .va (encQ (agn w c e)), x12, x13, x14, x15, x16, x17, x18, y19, y20, x21, x22, x23, x24, x25, x26, x27, x28]) PyData.int [1, 2, 5, 1 + d, 1000000] (ρ := [x0, x1, x2, .va (encS low w c e), x4, x5, .va (.int ((low : Int) + (w : Int))), x7, x8, .va (encQ (rise w c)), x10, .va (encQ (agn w c e)), x12, x13, x14, x15, x16, x17, x18, x19, x20, x21, x22, x23, x24, x25, x26, x27, x28]) ⟨_, _, rfl⟩ (by
    rintro j m ρ hj ⟨y19, y20, rfl⟩
    have hm := List.mem_of_getElem? hj
    simp only [List.mem_cons, List.not_mem_nil, or_false] at hm
    obtain ⟨z20, go⟩ := l2_go (x0 := x0) (x1 := x1) (x2 := x2) (x4 := x4) (x5 := x5) (x7 := x7) (x8 := x8) (x10 := x10) (x12 := x12) (x13 := x13) (x14 := x14) (x15 := x15) (x16 := x16) (x17 := x17) (x18 := x18) (x21 := x21) (x22 := x22) (x23 := x23) (x24 := x24) (x25 := x25) (x26 := x26) (x27 := x27) (x28 := x28) (x20 := y20) L (m := m) (by omega)
    exact ⟨_, _, rfl, .inl go, _, _, rfl⟩)
  exact ⟨_, _, e⟩
end
end K95
namespace K95
open PySem PySem.Spec L2 DL
section
variable {x0 x1 x2 x3 x4 x5 x6 x7 x8 x9 x10 x11 x12 x13 x14 x15 x16 x17 x18 x19 x20 x21 x22 x23 x24 x25 x26 x27 x28 : Sl} {low w c e : Nat}

theorem ne_s6 : neD (.list [.str "siphon", .str "siphon", .str "siphon", .str "siphon", .str "siphon", .str "siphon"]) (.list [.str "siphon", .str "siphon", .str "siphon", .str "siphon", .str "siphon", .str "siphon"]) = .ok (.bool false) := neD_self (by rfl) (by decide)
theorem ne_s3 : neD (.list [.str "siphon", .str "siphon", .str "siphon"]) (.list [.str "siphon", .str "siphon", .str "siphon"]) = .ok (.bool false) := neD_self (by rfl) (by decide)
theorem ne_t3 : neD (.list [.str "time", .str "time", .str "time"]) (.list [.str "time", .str "time", .str "time"]) = .ok (.bool false) := neD_self (by rfl) (by decide)
theorem ne_m4 : neD (.list [.str "many", .str "many", .str "many", .str "many"]) (.list [.str "many", .str "many", .str "many", .str "many"]) = .ok (.bool false) := neD_self (by rfl) (by decide)
theorem rg5 : rangeL 0 5 = [PyData.int 0, .int 1, .int 2, .int 3, .int 4] := rfl
theorem l4_st {S W : PD} (h : ∀ c ∈ ([0, 1, 2, 3, 4] : List Int), F__law_word [.int c, W, .none, .none] = .ok (.str "siphon")) (h2 : F__law_word [.int 4, S, W, .none] = .ok (.str "siphon")) : g_law_l4 [x0, x1, x2, .va S, x4, x5, x6, x7, x8, x9, x10, x11, x12, x13, x14, x15, x16, x17, x18, x19, x20, x21, x22, x23, x24, .va W, x26, x27, x28] = .nx [x0, x1, x2, .va S, x4, x5, x6, x7, x8, x9, x10, x11, x12, x13, x14, x15, x16, x17, x18, x19, x20, x21, x22, x23, x24, .va W, x26, x27, x28] := by
  have e := compL_all (tgt := gN 28) (f := cCall 4 F__law_word (cCons (cV 28) (cCons (cV 25) (cCons (cK .none) (cCons (cK .none) cNil))))) (ρ := [x0, x1, x2, .va S, x4, x5, x6, x7, x8, x9, x10, x11, x12, x13, x14, x15, x16, x17, x18, x19, x20, x21, x22, x23, x24, .va W, x26, x27, .un]) PyData.int (fun _ => PyData.str "siphon") (fun x => x) [0, 1, 2, 3, 4] (fun k hk => ⟨_, rfl, by simp [h k hk]⟩)
  simp only [List.map_cons, List.map_nil] at e
  have er : ∀ ρ, cRepL (cLst (cCons (cK (.str "siphon")) cNil)) (cK (.int 6)) ρ = .ok [.str "siphon", .str "siphon", .str "siphon", .str "siphon", .str "siphon", .str "siphon"] := fun ρ => rfl
  unfold g_law_l4
  simp [rg5, e, h2, er, ne_s6, big_eq]
theorem l5_st {S W l hh : PD} (h : ∀ c ∈ ([1, 2] : List Int), F__law_word [.int c, S, W, .none] = .ok (.str "time")) (h2 : F__law_word [.int 5, l, hh, W] = .ok (.str "time")) : g_law_l5 [x0, x1, x2, .va S, x4, .va l, .va hh, x7, x8, x9, x10, x11, x12, x13, x14, x15, x16, x17, x18, x19, x20, x21, x22, x23, x24, .va W, x26, x27, x28] = .nx [x0, x1, x2, .va S, x4, .va l, .va hh, x7, x8, x9, x10, x11, x12, x13, x14, x15, x16, x17, x18, x19, x20, x21, x22, x23, x24, .va W, x26, x27, x28] := by
  have e := compL_all (tgt := gN 28) (f := cCall 4 F__law_word (cCons (cV 28) (cCons (cV 3) (cCons (cV 25) (cCons (cK .none) cNil))))) (ρ := [x0, x1, x2, .va S, x4, .va l, .va hh, x7, x8, x9, x10, x11, x12, x13, x14, x15, x16, x17, x18, x19, x20, x21, x22, x23, x24, .va W, x26, x27, .un]) PyData.int (fun _ => PyData.str "time") (fun x => x) [1, 2] (fun k hk => ⟨_, rfl, by simp [h k hk]⟩)
  simp only [List.map_cons, List.map_nil] at e
  have er : ∀ ρ, cRepL (cLst (cCons (cK (.str "time")) cNil)) (cK (.int 3)) ρ = .ok [.str "time", .str "time", .str "time"] := fun ρ => rfl
  unfold g_law_l5
  simp [e, h2, er, ne_t3, big_eq]
/-- the wrong siphons of a turn -/
def wrongs (low w c e : Nat) : List PD := [.none, .tuple [], .list [.int (low : Nat), .int ((low : Int) + (w : Int)), .int (c : Nat), .int ((c : Int) + (e : Int))], .tuple [.int (low : Nat), .int ((low : Int) + (w : Int)), .int (c : Nat)],
  .tuple [.int (low : Nat), .int ((low : Int) + (w : Int)), .int (c : Nat), .int ((c : Int) + (e : Int)), .int 0], .tuple [.int ((low : Int) + (w : Int)), .int (low : Nat), .int (c : Nat), .int ((c : Int) + (e : Int))], .tuple [.int (low : Nat), .int (low : Nat), .int 1, .int 2],
  .tuple [.int (low : Nat), .int ((low : Int) + (w : Int)), .int ((c : Int) + (e : Int)), .int (c : Nat)], .tuple [.int (low : Nat), .int ((low : Int) + (w : Int)), .int 0, .int 1], .tuple [.int (low : Nat), .int ((low : Int) + (w : Int)), .int 1, .int 101],
  .tuple [.int (-1), .int ((low : Int) + (w : Int)), .int 1, .int 2], .tuple [.int 0, .int 1001, .int 1, .int 2], .tuple [.bool true, .int ((low : Int) + (w : Int)), .int 1, .int 2]]
theorem wrongs_bad (L : LS low w c e) : ∀ W ∈ wrongs low w c e, F__check [W] = .ex "BadSiphon" [] := by
  have l8 := L.l8; have w0 := L.w0; have w12 := L.w12; have c0 := L.c0; have c7 := L.c7; have e0 := L.e0; have e6 := L.e6
  intro W hW
  unfold wrongs at hW
  simp only [List.mem_cons, List.not_mem_nil, or_false] at hW
  rcases hW with rfl | rfl | rfl | rfl | rfl | rfl | rfl | rfl | rfl | rfl | rfl | rfl | rfl
  · exact bad_none
  · exact bad_len _ (by simp)
  · exact bad_list _
  · exact bad_len _ (by simp)
  · exact bad_len _ (by simp)
  · exact bad_levels (by omega)
  · exact bad_levels (by omega)
  · exact bad_rates (by omega) (by omega) (by omega) (by omega)
  · exact bad_rates (by omega) (by omega) (by omega) (by omega)
  · exact bad_rates (by omega) (by omega) (by omega) (by omega)
  · exact bad_levels (by omega)
  · exact bad_levels (by omega)
  · exact bad_true
theorem wrongs_all (L : LS low w c e) : ∃ y25, forL (gN 25) g_law_l4 (wrongs low w c e) [x0, x1, x2, .va (encS low w c e), x4, .va (.int (low : Nat)), .va (.int ((low : Int) + (w : Int))), x7, x8, x9, x10, x11, x12, x13, x14, x15, x16, x17, x18, x19, x20, x21, x22, x23, x24, x25, x26, x27, x28] = .nx [x0, x1, x2, .va (encS low w c e), x4, .va (.int (low : Nat)), .va (.int ((low : Int) + (w : Int))), x7, x8, x9, x10, x11, x12, x13, x14, x15, x16, x17, x18, x19, x20, x21, x22, x23, x24, y25, x26, x27, x28] := by
  have S := L.fit
  obtain ⟨ρ', e', y25, rfl⟩ := forL_inv (tgt := gN 25) (body := g_law_l4) (fun _ ρ => ∃ y25, ρ = [x0, x1, x2, .va (encS low w c e), x4, .va (.int (low : Nat)), .va (.int ((low : Int) + (w : Int))), x7, x8, x9, x10, x11, x12, x13, x14, x15, x16, x17, x18, x19, x20, x21, x22, x23, x24, y25, x26, x27, x28]) (fun d : PD => d) (wrongs low w c e) (ρ := [x0, x1, x2, .va (encS low w c e), x4, .va (.int (low : Nat)), .va (.int ((low : Int) + (w : Int))), x7, x8, x9, x10, x11, x12, x13, x14, x15, x16, x17, x18, x19, x20, x21, x22, x23, x24, x25, x26, x27, x28]) ⟨_, rfl⟩ (by
    rintro j W ρ hj ⟨y25, rfl⟩
    have hb := wrongs_bad L W (List.mem_of_getElem? hj)
    exact ⟨_, _, rfl, .inl (l4_st (word_s hb) (word_s2 S.toSip.chk hb)), _, rfl⟩)
  rw [List.map_id'] at e'
  exact ⟨_, e'⟩
def badTs : List PD := [.none, .int 5, .tuple [.int (-1), .int 1], .tuple [.int 2, .int 4], .tuple [.int 1000000000001, .int 1], .tuple [.bool true, .int 1]]
theorem badTs_bad : ∀ W ∈ badTs, badT W := by
  intro W hW
  unfold badTs at hW
  simp only [List.mem_cons, List.not_mem_nil, or_false] at hW
  rcases hW with rfl | rfl | rfl | rfl | rfl | rfl
  · exact nt1
  · exact nt2
  · exact nt3
  · exact nt4
  · exact nt5
  · exact nt6
theorem badTs_all (L : LS low w c e) : ∃ y25, forL (gN 25) g_law_l5 badTs [x0, x1, x2, .va (encS low w c e), x4, .va (.int (low : Nat)), .va (.int ((low : Int) + (w : Int))), x7, x8, x9, x10, x11, x12, x13, x14, x15, x16, x17, x18, x19, x20, x21, x22, x23, x24, x25, x26, x27, x28] = .nx [x0, x1, x2, .va (encS low w c e), x4, .va (.int (low : Nat)), .va (.int ((low : Int) + (w : Int))), x7, x8, x9, x10, x11, x12, x13, x14, x15, x16, x17, x18, x19, x20, x21, x22, x23, x24, y25, x26, x27, x28] := by
  have S := L.fit
  have l8 := L.l8; have w0 := L.w0; have w12 := L.w12
  have hc : F__check [.tuple [.int (low : Nat), .int ((low : Int) + (w : Int)), .int 1, .int 100]] = .ok .none := check_st (by omega) (by omega) (by omega) (by omega) (by omega) (by omega)
  obtain ⟨ρ', e', y25, rfl⟩ := forL_inv (tgt := gN 25) (body := g_law_l5) (fun _ ρ => ∃ y25, ρ = [x0, x1, x2, .va (encS low w c e), x4, .va (.int (low : Nat)), .va (.int ((low : Int) + (w : Int))), x7, x8, x9, x10, x11, x12, x13, x14, x15, x16, x17, x18, x19, x20, x21, x22, x23, x24, y25, x26, x27, x28]) (fun d : PD => d) badTs (ρ := [x0, x1, x2, .va (encS low w c e), x4, .va (.int (low : Nat)), .va (.int ((low : Int) + (w : Int))), x7, x8, x9, x10, x11, x12, x13, x14, x15, x16, x17, x18, x19, x20, x21, x22, x23, x24, x25, x26, x27, x28]) ⟨_, rfl⟩ (by
    rintro j W ρ hj ⟨y25, rfl⟩
    have hb := badTs_bad W (List.mem_of_getElem? hj)
    exact ⟨_, _, rfl, .inl (l5_st (word_t S.toSip.chk (ctime_bad S.toSip.chk hb)) (word_t5 hc hb)), _, rfl⟩)
  rw [List.map_id'] at e'
  exact ⟨_, e'⟩
end
end K95
namespace K95
open PySem PySem.Spec L2 DL
theorem seq_nx {a b : En → Fl} {ρ ρ' : En} (h : a ρ = .nx ρ') : sSeq a b ρ = b ρ' := by rw [a_sSeq, h]
/-! a drawn siphon -/
theorem law_siphon_eq {DS : List Int} {at' : Int} {a b : Int} (ha : atI (DS.map PyData.int) at' = some (.int a)) (hb : atI (DS.map PyData.int) (at' + 1) = some (.int b)) (a0 : 0 ≤ a) (b0 : 0 ≤ b) :
    ∃ low w c e : Nat, LS low w c e ∧ F__law_siphon [.list (DS.map PyData.int), .int at'] = .ok (encS low w c e) := by
  refine ⟨(a % 9).toNat, (1 + a / 16 % 12).toNat, (1 + b % 7).toNat, (1 + b / 16 % 6).toNat, ⟨by omega, by omega, by omega, by omega, by omega, by omega, by omega⟩, ?_⟩
  unfold encS
  rw [show (((a % 9).toNat : Nat) : Int) = a % 9 by omega, show (((1 + a / 16 % 12).toNat : Nat) : Int) = 1 + a / 16 % 12 by omega, show (((1 + b % 7).toNat : Nat) : Int) = 1 + b % 7 by omega, show (((1 + b / 16 % 6).toNat : Nat) : Int) = 1 + b / 16 % 6 by omega]
  generalize DS.map PyData.int = ds at *
  simp only [F__law_siphon, g__law_siphon, startE]
  have e1 : a % 9 + 1 + a / 16 % 12 = a % 9 + (1 + a / 16 % 12) := by omega
  have e2 : 1 + b % 7 + 1 + b / 16 % 6 = 1 + b % 7 + (1 + b / 16 % 6) := by omega
  simp [ha, hb, big_eq, e1, e2]
section
variable {x0 x1 x2 x3 x4 x5 x6 x7 x8 x9 x10 x11 x12 x13 x14 x15 x16 x17 x18 x19 x20 x21 x22 x23 x24 x25 x26 x27 x28 : Sl}

theorem st1 {D S1 S2 : PD} {tn : Int} (h1 : F__law_siphon [D, .int (4 * tn)] = .ok S1) (h2 : F__law_siphon [D, .int (4 * tn + 2)] = .ok S2) : (sAsg (cTup (cCons (cCall 2 F__law_siphon (cCons (cV 1) (cCons (c2 mulD (cK (.int 4)) (cV 2)) cNil))) (cCons (cCall 2 F__law_siphon (cCons (cV 1) (cCons (c2 addD (c2 mulD (cK (.int 4)) (cV 2)) (cK (.int 2))) cNil))) cNil))) (gT 2 (gC (gN 3) (gC (gN 4) gZ)))) [x0, .va D, .va (.int tn), x3, x4, x5, x6, x7, x8, x9, x10, x11, x12, x13, x14, x15, x16, x17, x18, x19, x20, x21, x22, x23, x24, x25, x26, x27, x28] = .nx [x0, .va D, .va (.int tn), .va S1, .va S2, x5, x6, x7, x8, x9, x10, x11, x12, x13, x14, x15, x16, x17, x18, x19, x20, x21, x22, x23, x24, x25, x26, x27, x28] := by
  have m : mulD (.int 4) (.int tn) = .ok (.int (4 * tn)) := mul_l 4 tn (by decide)
  simp [-a_mulI, m, h1, h2, big_eq]
theorem st2 {a b c d : PD} : (sAsg (cV 3) (gT 4 (gC (gN 5) (gC (gN 6) (gC (gN 7) (gC (gN 8) gZ)))))) [x0, x1, x2, .va (.tuple [a, b, c, d]), x4, x5, x6, x7, x8, x9, x10, x11, x12, x13, x14, x15, x16, x17, x18, x19, x20, x21, x22, x23, x24, x25, x26, x27, x28] = .nx [x0, x1, x2, .va (.tuple [a, b, c, d]), x4, .va a, .va b, .va c, .va d, x9, x10, x11, x12, x13, x14, x15, x16, x17, x18, x19, x20, x21, x22, x23, x24, x25, x26, x27, x28] := by
  simp
theorem st3 {S R1 R2 : PD} (h : F__law_rounds [S] = .ok (.tuple [R1, R2])) : (sAsg (cCall 1 F__law_rounds (cCons (cV 3) cNil)) (gT 2 (gC (gN 9) (gC (gN 10) gZ)))) [x0, x1, x2, .va S, x4, x5, x6, x7, x8, x9, x10, x11, x12, x13, x14, x15, x16, x17, x18, x19, x20, x21, x22, x23, x24, x25, x26, x27, x28] = .nx [x0, x1, x2, .va S, x4, x5, x6, x7, x8, .va R1, .va R2, x11, x12, x13, x14, x15, x16, x17, x18, x19, x20, x21, x22, x23, x24, x25, x26, x27, x28] := by
  simp [h]
theorem st4 {R1 R2 A : PD} (h : F__law_plus [R1, R2] = .ok A) : (sSet 11 (cCall 2 F__law_plus (cCons (cV 9) (cCons (cV 10) cNil)))) [x0, x1, x2, x3, x4, x5, x6, x7, x8, .va R1, .va R2, x11, x12, x13, x14, x15, x16, x17, x18, x19, x20, x21, x22, x23, x24, x25, x26, x27, x28] = .nx [x0, x1, x2, x3, x4, x5, x6, x7, x8, .va R1, .va R2, .va A, x12, x13, x14, x15, x16, x17, x18, x19, x20, x21, x22, x23, x24, x25, x26, x27, x28] := by
  simp [h]
theorem st5 {S A : PD} (h : F_siphon_again [S] = .ok A) (n : neD A A = .ok (.bool false)) : (sIf (bC neD (cCall 1 F_siphon_again (cCons (cV 3) cNil)) (cV 11)) (sRet (cK (.bool false))) sNx) [x0, x1, x2, .va S, x4, x5, x6, x7, x8, x9, x10, .va A, x12, x13, x14, x15, x16, x17, x18, x19, x20, x21, x22, x23, x24, x25, x26, x27, x28] = .nx [x0, x1, x2, .va S, x4, x5, x6, x7, x8, x9, x10, .va A, x12, x13, x14, x15, x16, x17, x18, x19, x20, x21, x22, x23, x24, x25, x26, x27, x28] := by
  simp [h, n]
theorem st6 {ρ' : En} {ρ : En} (h : forL (gN 12) g_law_l1 ((rng 0 6).map PyData.int) ρ = .nx ρ') : (sFor (iR1 (cK (.int 6))) (gN 12) g_law_l1) ρ = .nx ρ' := by
  have hr : rg1 (.int 6) = .ok ((rng 0 6).map PyData.int) := by rw [a_rg1, chk_of (by decide), rangeL_rng]; rfl
  rw [a_sFor, a_iR1, a_cK, R.ok_bind, hr, a_toS_ok, h]
theorem st7 {ρ' : En} {ds : List PD} {d : Int} (hd : atI ds 50 = some (.int d)) (h : forL (gN 19) g_law_l2 ([1, 2, 5, 1 + d, 1000000].map PyData.int) [x0, .va (.list ds), x2, x3, x4, x5, x6, x7, x8, x9, x10, x11, x12, x13, x14, x15, x16, x17, x18, x19, x20, x21, x22, x23, x24, x25, x26, x27, x28] = .nx ρ') : (sFor (iSeq (cL (cLst (cCons (cK (.int 1)) (cCons (cK (.int 2)) (cCons (cK (.int 5)) (cCons (c2 addD (cK (.int 1)) (cCl intD (cCons (c2 ixD (cV 1) (cK (.int 50))) cNil))) (cCons (c2 powD (cK (.int 10)) (cK (.int 6))) cNil)))))))) (gN 19) g_law_l2) [x0, .va (.list ds), x2, x3, x4, x5, x6, x7, x8, x9, x10, x11, x12, x13, x14, x15, x16, x17, x18, x19, x20, x21, x22, x23, x24, x25, x26, x27, x28] = .nx ρ' := by
  simp only [List.map_cons, List.map_nil] at h
  simp [hd, big_eq, h]
theorem st8 {S R1 R2 A B : PD} (h1 : F__law_rounds [S] = .ok (.tuple [R1, R2])) (h2 : F__law_plus [R1, R2] = .ok B) : (sPar3 21 22 23 (cCall 2 F__law_plus (cCons (c2 ixD (cCall 1 F__law_rounds (cCons (cV 4) cNil)) (cK (.int 0))) (cCons (c2 ixD (cCall 1 F__law_rounds (cCons (cV 4) cNil)) (cK (.int 1))) cNil))) (cV 11) (cK (.int 1))) [x0, x1, x2, x3, .va S, x5, x6, x7, x8, x9, x10, .va A, x12, x13, x14, x15, x16, x17, x18, x19, x20, x21, x22, x23, x24, x25, x26, x27, x28] = .nx [x0, x1, x2, x3, .va S, x5, x6, x7, x8, x9, x10, .va A, x12, x13, x14, x15, x16, x17, x18, x19, x20, .va B, .va A, .va (.int 1), x24, x25, x26, x27, x28] := by
  simp [h1, h2]
theorem st10 {S1 S2 Z : PD} (h1 : F_both_run [S1, S2] = .ok Z) (h2 : F_both_run [S2, S1] = .ok Z) (n : neD Z Z = .ok (.bool false)) : (sIf (bOr (bC neD (cCall 2 F_both_run (cCons (cV 3) (cCons (cV 4) cNil))) (cV 22)) (bC neD (cCall 2 F_both_run (cCons (cV 4) (cCons (cV 3) cNil))) (cV 22))) (sRet (cK (.bool false))) sNx) [x0, x1, x2, .va S1, .va S2, x5, x6, x7, x8, x9, x10, x11, x12, x13, x14, x15, x16, x17, x18, x19, x20, x21, .va Z, x23, x24, x25, x26, x27, x28] = .nx [x0, x1, x2, .va S1, .va S2, x5, x6, x7, x8, x9, x10, x11, x12, x13, x14, x15, x16, x17, x18, x19, x20, x21, .va Z, x23, x24, x25, x26, x27, x28] := by
  simp [h1, h2, n]
end
end K95
namespace K95
open PySem PySem.Spec L2 DL
section
variable {x0 x1 x2 x3 x4 x5 x6 x7 x8 x9 x10 x11 x12 x13 x14 x15 x16 x17 x18 x19 x20 x21 x22 x23 x24 x25 x26 x27 x28 : Sl} {low w c e : Nat}

theorem cut3 (l h c r : Int) : slD (.tuple [.int l, .int h, .int c, .int r]) none (some 3) = .ok (.tuple [.int l, .int h, .int c]) := rfl
theorem st11 {l h c r : Int} : (sSet 24 (cL (cLst (cCons (cK .none) (cCons (cTup cNil) (cCons (cL (cClF items1 (cCons (cV 3) cNil))) (cCons (cSl (cV 3) oN (oS (cK (.int 3)))) (cCons (c2 addD (cV 3) (cTup (cCons (cK (.int 0)) cNil))) (cCons (cTup (cCons (cV 6) (cCons (cV 5) (cCons (cV 7) (cCons (cV 8) cNil))))) (cCons (cTup (cCons (cV 5) (cCons (cV 5) (cCons (cK (.int 1)) (cCons (cK (.int 2)) cNil))))) cNil)))))))))) [x0, x1, x2, .va (.tuple [.int l, .int h, .int c, .int r]), x4, .va (.int l), .va (.int h), .va (.int c), .va (.int r), x9, x10, x11, x12, x13, x14, x15, x16, x17, x18, x19, x20, x21, x22, x23, x24, x25, x26, x27, x28] = .nx [x0, x1, x2, .va (.tuple [.int l, .int h, .int c, .int r]), x4, .va (.int l), .va (.int h), .va (.int c), .va (.int r), x9, x10, x11, x12, x13, x14, x15, x16, x17, x18, x19, x20, x21, x22, x23, .va (.list [.none, .tuple [], .list [.int l, .int h, .int c, .int r], .tuple [.int l, .int h, .int c], .tuple [.int l, .int h, .int c, .int r, .int 0], .tuple [.int h, .int l, .int c, .int r], .tuple [.int l, .int l, .int 1, .int 2]]), x25, x26, x27, x28] := by
  simp [cSl, oN, oS, cut3, big_eq]
theorem st12 {l h c r : Int} {ρ' : En} (hf : forL (gN 25) g_law_l4 ([.none, .tuple [], .list [.int l, .int h, .int c, .int r], .tuple [.int l, .int h, .int c], .tuple [.int l, .int h, .int c, .int r, .int 0], .tuple [.int h, .int l, .int c, .int r], .tuple [.int l, .int l, .int 1, .int 2]] ++ [.tuple [.int l, .int h, .int r, .int c], .tuple [.int l, .int h, .int 0, .int 1], .tuple [.int l, .int h, .int 1, .int 101], .tuple [.int (-1), .int h, .int 1, .int 2], .tuple [.int 0, .int 1001, .int 1, .int 2], .tuple [.bool true, .int h, .int 1, .int 2]]) [x0, x1, x2, .va (.tuple [.int l, .int h, .int c, .int r]), x4, .va (.int l), .va (.int h), .va (.int c), .va (.int r), x9, x10, x11, x12, x13, x14, x15, x16, x17, x18, x19, x20, x21, x22, x23, .va (.list [.none, .tuple [], .list [.int l, .int h, .int c, .int r], .tuple [.int l, .int h, .int c], .tuple [.int l, .int h, .int c, .int r, .int 0], .tuple [.int h, .int l, .int c, .int r], .tuple [.int l, .int l, .int 1, .int 2]]), x25, x26, x27, x28] = .nx ρ') : (sFor (iSeq (c2 addD (cV 24) (cL (cLst (cCons (cTup (cCons (cV 5) (cCons (cV 6) (cCons (cV 8) (cCons (cV 7) cNil))))) (cCons (cTup (cCons (cV 5) (cCons (cV 6) (cCons (cK (.int 0)) (cCons (cK (.int 1)) cNil))))) (cCons (cTup (cCons (cV 5) (cCons (cV 6) (cCons (cK (.int 1)) (cCons (cK (.int 101)) cNil))))) (cCons (cTup (cCons (c1 negD (cK (.int 1))) (cCons (cV 6) (cCons (cK (.int 1)) (cCons (cK (.int 2)) cNil))))) (cCons (cTup (cCons (cK (.int 0)) (cCons (cK (.int 1001)) (cCons (cK (.int 1)) (cCons (cK (.int 2)) cNil))))) (cCons (cTup (cCons (cK (.bool true)) (cCons (cV 6) (cCons (cK (.int 1)) (cCons (cK (.int 2)) cNil))))) cNil)))))))))) (gN 25) g_law_l4) [x0, x1, x2, .va (.tuple [.int l, .int h, .int c, .int r]), x4, .va (.int l), .va (.int h), .va (.int c), .va (.int r), x9, x10, x11, x12, x13, x14, x15, x16, x17, x18, x19, x20, x21, x22, x23, .va (.list [.none, .tuple [], .list [.int l, .int h, .int c, .int r], .tuple [.int l, .int h, .int c], .tuple [.int l, .int h, .int c, .int r, .int 0], .tuple [.int h, .int l, .int c, .int r], .tuple [.int l, .int l, .int 1, .int 2]]), x25, x26, x27, x28] = .nx ρ' := by
  simp only [List.cons_append, List.nil_append] at hf
  simp [big_eq, hf]
theorem st13 {ρ' : En} {x : En} (hf : forL (gN 25) g_law_l5 badTs x = .nx ρ') : (sFor (iSeq (cL (cLst (cCons (cK .none) (cCons (cK (.int 5)) (cCons (cTup (cCons (c1 negD (cK (.int 1))) (cCons (cK (.int 1)) cNil))) (cCons (cTup (cCons (cK (.int 2)) (cCons (cK (.int 4)) cNil))) (cCons (cTup (cCons (c2 addD (c2 powD (cK (.int 10)) (cK (.int 12))) (cK (.int 1))) (cCons (cK (.int 1)) cNil))) (cCons (cTup (cCons (cK (.bool true)) (cCons (cK (.int 1)) cNil))) cNil))))))))) (gN 25) g_law_l5) x = .nx ρ' := by
  unfold badTs at hf
  simp [big_eq, hf]
theorem whole_m : F_is_whole [.int 0, .int 1, .int 1000000000000] = .ok (.bool false) ∧ F_is_whole [.int 1000000000001, .int 1, .int 1000000000000] = .ok (.bool false) ∧ F_is_whole [.none, .int 1, .int 1000000000000] = .ok (.bool false) ∧ F_is_whole [.bool true, .int 1, .int 1000000000000] = .ok (.bool false) := by
  refine ⟨?_, ?_, rfl, rfl⟩
  · rw [whole_eq]; rfl
  · rw [whole_eq]; rfl
theorem st14 {S : PD} (hs : F__check [S] = .ok .none) : (sIf (bC neD (cL (cLc [25] (iSeq (cL (cLst (cCons (cK .none) (cCons (cK (.int 0)) (cCons (c2 addD (c2 powD (cK (.int 10)) (cK (.int 12))) (cK (.int 1))) (cCons (cK (.bool true)) cNil))))))) (gN 25) bYes (cCall 4 F__law_word (cCons (cK (.int 3)) (cCons (cV 3) (cCons (cV 25) (cCons (cK .none) cNil))))))) (cL (cRepL (cLst (cCons (cK (.str "many")) cNil)) (cK (.int 4)))))
  (sRet (cK (.bool false)))
  sNx) [x0, x1, x2, .va S, x4, x5, x6, x7, x8, x9, x10, x11, x12, x13, x14, x15, x16, x17, x18, x19, x20, x21, x22, x23, x24, x25, x26, x27, x28] = .nx [x0, x1, x2, .va S, x4, x5, x6, x7, x8, x9, x10, x11, x12, x13, x14, x15, x16, x17, x18, x19, x20, x21, x22, x23, x24, x25, x26, x27, x28] := by
  obtain ⟨m1, m2, m3, m4⟩ := whole_m
  have e := compL_all (tgt := gN 25) (f := cCall 4 F__law_word (cCons (cK (.int 3)) (cCons (cV 3) (cCons (cV 25) (cCons (cK .none) cNil))))) (ρ := [x0, x1, x2, .va S, x4, x5, x6, x7, x8, x9, x10, x11, x12, x13, x14, x15, x16, x17, x18, x19, x20, x21, x22, x23, x24, .un, x26, x27, x28]) (fun d : PD => d) (fun _ => PyData.str "many") (fun x => x) [.none, .int 0, .int 1000000000001, .bool true] (fun y hy => ⟨_, rfl, by
    have : F__law_word [.int 3, S, y, .none] = .ok (.str "many") := by
      refine word_m hs ?_
      simp only [List.mem_cons, List.not_mem_nil, or_false] at hy
      rcases hy with rfl | rfl | rfl | rfl
      · exact m3
      · exact m1
      · exact m2
      · exact m4
    simp [this]⟩)
  simp only [List.map_cons, List.map_nil] at e
  have er : ∀ ρ, cRepL (cLst (cCons (cK (.str "many")) cNil)) (cK (.int 4)) ρ = .ok [.str "many", .str "many", .str "many", .str "many"] := fun ρ => rfl
  simp [e, er, ne_m4, big_eq]
theorem st15 {l h : Int} (h1 : F__law_word [.int 5, .int h, .int l, .none] = .ok (.str "siphon")) (h2 : F__law_word [.int 5, .none, .int h, .none] = .ok (.str "siphon")) (h3 : F__law_word [.int 5, .int l, .int 1001, .none] = .ok (.str "siphon")) : (sIf (bC neD (cL (cLst (cCons (cCall 4 F__law_word (cCons (cK (.int 5)) (cCons (cV 6) (cCons (cV 5) (cCons (cK .none) cNil))))) (cCons (cCall 4 F__law_word (cCons (cK (.int 5)) (cCons (cK .none) (cCons (cV 6) (cCons (cK .none) cNil))))) (cCons (cCall 4 F__law_word (cCons (cK (.int 5)) (cCons (cV 5) (cCons (cK (.int 1001)) (cCons (cK .none) cNil))))) cNil))))) (cL (cRepL (cLst (cCons (cK (.str "siphon")) cNil)) (cK (.int 3)))))
  (sRet (cK (.bool false)))
  sNx) [x0, x1, x2, x3, x4, .va (.int l), .va (.int h), x7, x8, x9, x10, x11, x12, x13, x14, x15, x16, x17, x18, x19, x20, x21, x22, x23, x24, x25, x26, x27, x28] = .nx [x0, x1, x2, x3, x4, .va (.int l), .va (.int h), x7, x8, x9, x10, x11, x12, x13, x14, x15, x16, x17, x18, x19, x20, x21, x22, x23, x24, x25, x26, x27, x28] := by
  have er : ∀ ρ, cRepL (cLst (cCons (cK (.str "siphon")) cNil)) (cK (.int 3)) ρ = .ok [.str "siphon", .str "siphon", .str "siphon"] := fun ρ => rfl
  simp [h1, h2, h3, er, ne_s3, big_eq]
end
end K95
namespace K95
open PySem PySem.Spec L2 DL
section
variable {x0 x1 x2 x3 x4 x5 x6 x7 x8 x9 x10 x11 x12 x13 x14 x15 x16 x17 x18 x19 x20 x21 x22 x23 x24 x25 x26 x27 x28 : Sl} {low w c e : Nat}

theorem loop1 {A B : Rat} (hA : 0 < A) (hB : 0 < B) (dA : A.den ≤ 2500) (nB : B.num ≤ 100000) (dB : B.den ≤ 2500) (hf : (A / B).den ≤ 250000000) : whL wcond g_law_l3 fuel [x0, x1, x2, x3, x4, x5, x6, x7, x8, x9, x10, .va (encQ A), x12, x13, x14, x15, x16, x17, x18, x19, x20, .va (encQ B), .va (encQ A), .va (.int 1), x24, x25, x26, x27, x28] = .nx [x0, x1, x2, x3, x4, x5, x6, x7, x8, x9, x10, .va (encQ A), x12, x13, x14, x15, x16, x17, x18, x19, x20, .va (encQ B), .va (encQ (A * (((A / B).den : Nat) : Rat))), .va (.int ((A / B).den : Nat)), x24, x25, x26, x27, x28] := by
  have hp := (A / B).den_pos
  have h := loop_go (x0 := x0) (x1 := x1) (x2 := x2) (x3 := x3) (x4 := x4) (x5 := x5) (x6 := x6) (x7 := x7) (x8 := x8) (x9 := x9) (x10 := x10) (x12 := x12) (x13 := x13) (x14 := x14) (x15 := x15) (x16 := x16) (x17 := x17) (x18 := x18) (x19 := x19) (x20 := x20) (x24 := x24) (x25 := x25) (x26 := x26) (x27 := x27) (x28 := x28) hA hB dA nB dB ((A / B).den - 1) 1 (by omega) (by omega) fuel (by have := fuel_ge; omega)
  have e : A * ((1 : Nat) : Rat) = A := by
    have : ((1 : Nat) : Rat) = 1 := rfl
    rw [this, Rat.mul_one]
  rw [e] at h
  exact h
theorem ratio_den {low' w' c' e' : Nat} (S : Sip low w c e) (S' : Sip low' w' c' e') : (agn w c e / agn w' c' e').den ≤ 250000000 := by
  obtain ⟨a1, a2, a3⟩ := agn_bounds S
  obtain ⟨b1, b2, b3⟩ := agn_bounds S'
  have hd := (agn w c e).den_pos
  rw [← ratio_mk _ _ b2]
  exact Nat.le_trans (den_mk _ _ (Nat.mul_pos hd (by omega))) (Nat.le_trans (Nat.mul_le_mul a1 (show (agn w' c' e').num.toNat ≤ 100000 by omega)) (by decide))
theorem sagain_st {s A : PD} (h1 : F__check [s] = .ok .none) (h2 : F__again [s] = .ok A) : F_siphon_again [s] = .ok A := by
  simp only [F_siphon_again, g_siphon_again, startE]
  simp [h1, h2]
theorem l6_go {DS : List Int} {tn : Int} (hd : DS.length = 60) (ho : DrawOk DS) (ht : 0 ≤ tn ∧ tn < 5) :
    ∃ y2 y3 y4 y5 y6 y7 y8 y9 y10 y11 y12 y13 y14 y15 y16 y17 y18 y19 y20 y21 y22 y23 y24 y25 y26 y27 y28, g_law_l6 [x0, .va (.list (DS.map PyData.int)), .va (.int tn), x3, x4, x5, x6, x7, x8, x9, x10, x11, x12, x13, x14, x15, x16, x17, x18, x19, x20, x21, x22, x23, x24, x25, x26, x27, x28] = .nx [x0, .va (.list (DS.map PyData.int)), y2, y3, y4, y5, y6, y7, y8, y9, y10, y11, y12, y13, y14, y15, y16, y17, y18, y19, y20, y21, y22, y23, y24, y25, y26, y27, y28] := by
  have dr : ∀ i : Int, 0 ≤ i ∧ i < 60 → ∃ v : Int, atI (DS.map PyData.int) i = some (.int v) ∧ 0 ≤ v ∧ v < 65521 := fun i hi => by
    obtain ⟨k, rfl⟩ : ∃ k : Nat, i = (k : Int) := ⟨i.toNat, by omega⟩
    have hk : k < DS.length := by omega
    refine ⟨DS[k], ?_, ho _ (List.getElem_mem hk)⟩
    rw [atI_nn, List.getElem?_map, List.getElem?_eq_getElem hk]; rfl
  obtain ⟨a, ha, ha2⟩ := dr (4 * tn) (by omega)
  obtain ⟨b, hb, hb2⟩ := dr (4 * tn + 1) (by omega)
  obtain ⟨a', ha', ha2'⟩ := dr (4 * tn + 2) (by omega)
  obtain ⟨b', hb', hb2'⟩ := dr (4 * tn + 2 + 1) (by omega)
  obtain ⟨d, hdd, hd2⟩ := dr 50 (by omega)
  obtain ⟨low, w, c, e, L, h1⟩ := law_siphon_eq ha hb ha2.1 hb2.1
  obtain ⟨low', w', c', e', L', h2⟩ := law_siphon_eq ha' hb' ha2'.1 hb2'.1
  have S := L.fit
  have S' := L'.fit
  obtain ⟨a1, a2, a3⟩ := agn_bounds S.toSip
  obtain ⟨b1, b2, b3⟩ := agn_bounds S'.toSip
  have pA := agn_pos S.w0 S.c0 S.e0
  have pB := agn_pos S'.w0 S'.c0 S'.e0
  have hr := S.toSip.lrounds
  have hr' := S'.toSip.lrounds
  have pl := S.lps S.inR S.inF
  have pl' := S'.lps S'.inR S'.inF
  have sa := sagain_st S.toSip.chk S.toSip.again
  have br1 := brun_eq S.toSip S'.toSip
  have br2 := brun_eq S'.toSip S.toSip
  rw [brun_sym pA pB] at br2
  have z1 := word_s5 (t := .none) (bad_levels (l := (low : Int) + (w : Int)) (h := (low : Nat)) (x := .int 1) (y := .int 100) (by have := L.w0; omega))
  have z2 := word_s5 (t := .none) (bad_no (h := .int ((low : Int) + (w : Int))) (x := .int 1) (y := .int 100))
  have z3 := word_s5 (t := .none) (bad_levels (l := (low : Nat)) (h := 1001) (x := .int 1) (y := .int 100) (by omega))
  obtain ⟨y12, y13, y14, y15, y16, y17, y18, e6⟩ := times_all (x0 := x0) (x4 := .va (encS low' w' c' e')) (x12 := x12) (x13 := x13) (x14 := x14) (x15 := x15) (x16 := x16) (x17 := x17) (x18 := x18) (x19 := x19) (x20 := x20) (x21 := x21) (x22 := x22) (x23 := x23) (x24 := x24) (x25 := x25) (x26 := x26) (x27 := x27) (x28 := x28) L hd ho ht
  obtain ⟨y19, y20, e7⟩ := manys_all (x0 := x0) (x1 := .va (.list (DS.map PyData.int))) (x2 := .va (.int tn)) (x4 := .va (encS low' w' c' e')) (x5 := .va (.int (low : Nat))) (x7 := .va (.int (c : Nat))) (x8 := .va (.int ((c : Int) + (e : Int)))) (x10 := .va (encQ (rise w e))) (x12 := y12) (x13 := y13) (x14 := y14) (x15 := y15) (x16 := y16) (x17 := y17) (x18 := y18) (x19 := x19) (x20 := x20) (x21 := x21) (x22 := x22) (x23 := x23) (x24 := x24) (x25 := x25) (x26 := x26) (x27 := x27) (x28 := x28) L hd2
  have e9 := loop1 (x0 := x0) (x1 := .va (.list (DS.map PyData.int))) (x2 := .va (.int tn)) (x3 := .va (encS low w c e)) (x4 := .va (encS low' w' c' e')) (x5 := .va (.int (low : Nat))) (x6 := .va (.int ((low : Int) + (w : Int)))) (x7 := .va (.int (c : Nat))) (x8 := .va (.int ((c : Int) + (e : Int)))) (x9 := .va (encQ (rise w c))) (x10 := .va (encQ (rise w e))) (x12 := y12) (x13 := y13) (x14 := y14) (x15 := y15) (x16 := y16) (x17 := y17) (x18 := y18) (x19 := y19) (x20 := y20) (x24 := x24) (x25 := x25) (x26 := x26) (x27 := x27) (x28 := x28) pA pB a1 b3 b1 (ratio_den S.toSip S'.toSip)
  obtain ⟨y25, e12⟩ := wrongs_all (x0 := x0) (x1 := .va (.list (DS.map PyData.int))) (x2 := .va (.int tn)) (x4 := .va (encS low' w' c' e')) (x7 := .va (.int (c : Nat))) (x8 := .va (.int ((c : Int) + (e : Int)))) (x9 := .va (encQ (rise w c))) (x10 := .va (encQ (rise w e))) (x11 := .va (encQ (agn w c e))) (x12 := y12) (x13 := y13) (x14 := y14) (x15 := y15) (x16 := y16) (x17 := y17) (x18 := y18) (x19 := y19) (x20 := y20) (x21 := .va (encQ (agn w' c' e'))) (x22 := .va (encQ (agn w c e * (((agn w c e / agn w' c' e').den : Nat) : Rat)))) (x23 := .va (.int ((agn w c e / agn w' c' e').den : Nat))) (x24 := .va (.list [.none, .tuple [], .list [.int (low : Nat), .int ((low : Int) + (w : Int)), .int (c : Nat), .int ((c : Int) + (e : Int))], .tuple [.int (low : Nat), .int ((low : Int) + (w : Int)), .int (c : Nat)], .tuple [.int (low : Nat), .int ((low : Int) + (w : Int)), .int (c : Nat), .int ((c : Int) + (e : Int)), .int 0], .tuple [.int ((low : Int) + (w : Int)), .int (low : Nat), .int (c : Nat), .int ((c : Int) + (e : Int))], .tuple [.int (low : Nat), .int (low : Nat), .int 1, .int 2]])) (x25 := x25) (x26 := x26) (x27 := x27) (x28 := x28) L
  obtain ⟨z25, e13⟩ := badTs_all (x0 := x0) (x1 := .va (.list (DS.map PyData.int))) (x2 := .va (.int tn)) (x4 := .va (encS low' w' c' e')) (x7 := .va (.int (c : Nat))) (x8 := .va (.int ((c : Int) + (e : Int)))) (x9 := .va (encQ (rise w c))) (x10 := .va (encQ (rise w e))) (x11 := .va (encQ (agn w c e))) (x12 := y12) (x13 := y13) (x14 := y14) (x15 := y15) (x16 := y16) (x17 := y17) (x18 := y18) (x19 := y19) (x20 := y20) (x21 := .va (encQ (agn w' c' e'))) (x22 := .va (encQ (agn w c e * (((agn w c e / agn w' c' e').den : Nat) : Rat)))) (x23 := .va (.int ((agn w c e / agn w' c' e').den : Nat))) (x24 := .va (.list [.none, .tuple [], .list [.int (low : Nat), .int ((low : Int) + (w : Int)), .int (c : Nat), .int ((c : Int) + (e : Int))], .tuple [.int (low : Nat), .int ((low : Int) + (w : Int)), .int (c : Nat)], .tuple [.int (low : Nat), .int ((low : Int) + (w : Int)), .int (c : Nat), .int ((c : Int) + (e : Int)), .int 0], .tuple [.int ((low : Int) + (w : Int)), .int (low : Nat), .int (c : Nat), .int ((c : Int) + (e : Int))], .tuple [.int (low : Nat), .int (low : Nat), .int 1, .int 2]])) (x25 := y25) (x26 := x26) (x27 := x27) (x28 := x28) L
  exact ⟨_, _, _, _, _, _, _, _, _, _, _, _, _, _, _, _, _, _, _, _, _, _, _, _, _, _, _, by
    unfold g_law_l6
    exact (Eq.trans (seq_nx (st1 h1 h2)) (Eq.trans (seq_nx (st2)) (Eq.trans (seq_nx (st3 hr)) (Eq.trans (seq_nx (st4 pl)) (Eq.trans (seq_nx (st5 sa (neQ_self _))) (Eq.trans (seq_nx (st6 e6)) (Eq.trans (seq_nx (st7 hdd e7)) (Eq.trans (seq_nx (st8 hr' pl')) (Eq.trans (seq_nx (e9)) (Eq.trans (seq_nx (st10 br1 br2 (neQ_self _))) (Eq.trans (seq_nx (st11)) (Eq.trans (seq_nx (st12 e12)) (Eq.trans (seq_nx (st13 e13)) (Eq.trans (seq_nx (st14 S.toSip.chk)) (st15 z1 z2 z3)))))))))))))))⟩
end
end K95
namespace K95
open PySem PySem.Spec L2 DL
section
variable {x0 x1 x2 x3 x4 x5 x6 x7 x8 x9 x10 x11 x12 x13 x14 x15 x16 x17 x18 x19 x20 x21 x22 x23 x24 x25 x26 x27 x28 : Sl}

theorem lw3 {ds : List PD} {a b d : Int} {T : PD} (h1 : atI ds 55 = some (.int a)) (h2 : atI ds 56 = some (.int b)) (h3 : atI ds 57 = some (.int d)) (h4 : F__law_low [.int (1 + b % 12), .int (1 + d % 3)] = .ok T) : (sAsg (cTup (cCons (c2 addD (cK (.int 1)) (c2 modD (cCl intD (cCons (c2 ixD (cV 1) (cK (.int 55))) cNil)) (cK (.int 9)))) (cCons (cCall 2 F__law_low (cCons (c2 addD (cK (.int 1)) (c2 modD (cCl intD (cCons (c2 ixD (cV 1) (cK (.int 56))) cNil)) (cK (.int 12)))) (cCons (c2 addD (cK (.int 1)) (c2 modD (cCl intD (cCons (c2 ixD (cV 1) (cK (.int 57))) cNil)) (cK (.int 3)))) cNil))) cNil))) (gT 2 (gC (gN 26) (gC (gN 13) gZ)))) [x0, .va (.list ds), x2, x3, x4, x5, x6, x7, x8, x9, x10, x11, x12, x13, x14, x15, x16, x17, x18, x19, x20, x21, x22, x23, x24, x25, x26, x27, x28] = .nx [x0, .va (.list ds), x2, x3, x4, x5, x6, x7, x8, x9, x10, x11, x12, .va T, x14, x15, x16, x17, x18, x19, x20, x21, x22, x23, x24, x25, .va (.int (1 + a % 9)), x27, x28] := by
  simp [h1, h2, h3, h4, big_eq]
theorem lw4 : (sSet 27 (cL (cLst cNil))) [x0, x1, x2, x3, x4, x5, x6, x7, x8, x9, x10, x11, x12, x13, x14, x15, x16, x17, x18, x19, x20, x21, x22, x23, x24, x25, x26, x27, x28] = .nx [x0, x1, x2, x3, x4, x5, x6, x7, x8, x9, x10, x11, x12, x13, x14, x15, x16, x17, x18, x19, x20, x21, x22, x23, x24, x25, x26, .va (.list []), x28] := by
  simp [big_eq]
theorem lw6 {T : PD} {w : Int} {L : List PD} (h : F_rates_again [.int 3, .int (3 + w), T] = .ok (.tuple L)) (n : neD (.tuple L) (.tuple L) = .ok (.bool false)) : (sIf (bC neD (cCall 3 F_rates_again (cCons (cK (.int 3)) (cCons (c2 addD (cK (.int 3)) (cV 26)) (cCons (cV 13) cNil)))) (cCl tupD (cCons (cV 27) cNil)))
  (sRet (cK (.bool false)))
  sNx) [x0, x1, x2, x3, x4, x5, x6, x7, x8, x9, x10, x11, x12, .va T, x14, x15, x16, x17, x18, x19, x20, x21, x22, x23, x24, x25, .va (.int w), .va (.list L), x28] = .nx [x0, x1, x2, x3, x4, x5, x6, x7, x8, x9, x10, x11, x12, .va T, x14, x15, x16, x17, x18, x19, x20, x21, x22, x23, x24, x25, .va (.int w), .va (.list L), x28] := by
  simp [h, n]
theorem lw7 : (sSet 3 (cTup (cCons (cK (.int 2)) (cCons (cK (.int 10)) (cCons (cK (.int 2)) (cCons (cK (.int 6)) cNil)))))) [x0, x1, x2, x3, x4, x5, x6, x7, x8, x9, x10, x11, x12, x13, x14, x15, x16, x17, x18, x19, x20, x21, x22, x23, x24, x25, x26, x27, x28] = .nx [x0, x1, x2, .va (.tuple [.int 2, .int 10, .int 2, .int 6]), x4, x5, x6, x7, x8, x9, x10, x11, x12, x13, x14, x15, x16, x17, x18, x19, x20, x21, x22, x23, x24, x25, x26, x27, x28] := by
  simp [big_eq]
theorem lw8 {S : PD} (h1 : F_siphon_again [S] = .ok (.tuple [.int 6, .int 1])) (h2 : F_siphon_level [S, .tuple [.int 5, .int 1]] = .ok (.tuple [.int 6, .int 1])) : (sIf (bOr (bC neD (cCall 1 F_siphon_again (cCons (cV 3) cNil)) (cTup (cCons (cK (.int 6)) (cCons (cK (.int 1)) cNil)))) (bC neD (cCall 2 F_siphon_level (cCons (cV 3) (cCons (cTup (cCons (cK (.int 5)) (cCons (cK (.int 1)) cNil))) cNil))) (cTup (cCons (cK (.int 6)) (cCons (cK (.int 1)) cNil)))))
  (sRet (cK (.bool false)))
  sNx) [x0, x1, x2, .va S, x4, x5, x6, x7, x8, x9, x10, x11, x12, x13, x14, x15, x16, x17, x18, x19, x20, x21, x22, x23, x24, x25, x26, x27, x28] = .nx [x0, x1, x2, .va S, x4, x5, x6, x7, x8, x9, x10, x11, x12, x13, x14, x15, x16, x17, x18, x19, x20, x21, x22, x23, x24, x25, x26, x27, x28] := by
  have n := ne_int 6
  simp [h1, h2, n, big_eq]
theorem eq_int (i : Int) : eqD (.tuple [.int i, .int 1]) (.tuple [.int i, .int 1]) = .ok (.bool true) := eqD_self (by rfl) (by simp [PyData.depth, PyData.depthAll])
theorem lw9 {S : PD} (h1 : F_siphon_runs [S, .tuple [.int 5, .int 1]] = .ok (.tuple [.int 1, .tuple [.int 6, .int 1]])) (h2 : F_both_run [S, .tuple [.int 0, .int 2, .int 1, .int 2]] = .ok (.tuple [.int 12, .int 1])) (h3 : F_siphon_time [S, .int 1000000000000] = .ok (.tuple [.int 5999999999998, .int 1])) :
    (sRet (cAnd (c2 eqD (cCall 2 F_siphon_runs (cCons (cV 3) (cCons (cTup (cCons (cK (.int 5)) (cCons (cK (.int 1)) cNil))) cNil))) (cTup (cCons (cK (.int 1)) (cCons (cTup (cCons (cK (.int 6)) (cCons (cK (.int 1)) cNil))) cNil)))) (cAnd (c2 eqD (cCall 2 F_both_run (cCons (cV 3) (cCons (cTup (cCons (cK (.int 0)) (cCons (cK (.int 2)) (cCons (cK (.int 1)) (cCons (cK (.int 2)) cNil))))) cNil))) (cTup (cCons (cK (.int 12)) (cCons (cK (.int 1)) cNil)))) (c2 eqD (cCall 2 F_siphon_time (cCons (cV 3) (cCons (c2 powD (cK (.int 10)) (cK (.int 12))) cNil))) (cTup (cCons (c2 subD (c2 mulD (cK (.int 6)) (c2 powD (cK (.int 10)) (cK (.int 12)))) (cK (.int 2))) (cCons (cK (.int 1)) cNil))))))) [x0, x1, x2, .va S, x4, x5, x6, x7, x8, x9, x10, x11, x12, x13, x14, x15, x16, x17, x18, x19, x20, x21, x22, x23, x24, x25, x26, x27, x28] = .rt (.bool true) := by
  have n1 : eqD (.tuple [.int 1, .tuple [.int 6, .int 1]]) (.tuple [.int 1, .tuple [.int 6, .int 1]]) = .ok (.bool true) := eqD_self (by rfl) (by decide)
  have n2 := eq_int 12
  have n3 := eq_int 5999999999998
  simp [h1, h2, h3, n1, n2, n3, big_eq]
end
end K95
namespace K95
open PySem PySem.Spec L2 DL
/-! closed reckonings -/
theorem c_ls : LS 2 8 2 4 := ⟨by decide, by decide, by decide, by decide, by decide, by decide, by decide⟩
theorem c_r1 : rise 8 2 = 4 := by have := rise_eq (w := 8) (c := 2) (by decide); have e1 : ((2 : Nat) : Rat) = 2 := rfl; have e2 : ((8 : Nat) : Rat) = 8 := rfl; rw [e1, e2] at this; grind
theorem c_r2 : rise 8 4 = 2 := by have := rise_eq (w := 8) (c := 4) (by decide); have e1 : ((4 : Nat) : Rat) = 4 := rfl; have e2 : ((8 : Nat) : Rat) = 8 := rfl; rw [e1, e2] at this; grind
theorem c_r3 : rise 2 1 = 2 := by have := rise_eq (w := 2) (c := 1) (by decide); have e1 : ((1 : Nat) : Rat) = 1 := rfl; have e2 : ((2 : Nat) : Rat) = 2 := rfl; rw [e1, e2] at this; grind
theorem c_a : agn 8 2 4 = ((6 : Int) : Rat) := by have e : ((6 : Int) : Rat) = 6 := rfl; rw [e]; unfold agn; rw [c_r1, c_r2]; grind
theorem c_b : agn 2 1 1 = ((4 : Int) : Rat) := by have e : ((4 : Int) : Rat) = 4 := rfl; rw [e]; unfold agn; rw [c_r3]; grind
theorem c_n : rnds 8 2 4 ((5 : Int) : Rat) = 0 := by
  have e : ((5 : Int) : Rat) = 5 := rfl
  have e0 : ((0 : Int) : Rat) = 0 := rfl
  have e6 : ((6 : Int) : Rat) = 6 := rfl
  refine rnds_unique (by decide) (by decide) (by decide) ?_ ?_ <;> rw [c_a, e, e0, e6] <;> grind
theorem c_x : rest 8 2 4 ((5 : Int) : Rat) = 5 := by
  have e : ((5 : Int) : Rat) = 5 := rfl
  have e0 : ((0 : Int) : Rat) = 0 := rfl
  unfold rest; rw [c_n, e, e0]; grind
theorem c_no : ¬ rest 8 2 4 ((5 : Int) : Rat) < rise 8 2 := by rw [c_x, c_r1]; grind
theorem c_lv : levelT 2 8 2 4 ((5 : Int) : Rat) = ((6 : Int) : Rat) := by
  unfold levelT
  rw [if_neg c_no, c_x, c_r1]
  have e1 : ((2 : Nat) : Rat) = 2 := rfl
  have e2 : ((8 : Nat) : Rat) = 8 := rfl
  have e3 : ((4 : Nat) : Rat) = 4 := rfl
  have e6 : ((6 : Int) : Rat) = 6 := rfl
  rw [e1, e2, e3, e6]; grind
theorem c_bg : begunT 8 2 4 ((5 : Int) : Rat) = 1 := by unfold begunT; rw [if_neg c_no, c_n]; rfl
theorem c_ou : outT 8 2 4 ((5 : Int) : Rat) = ((6 : Int) : Rat) := by
  unfold outT
  rw [if_neg c_no, c_x, c_r1, c_r2, c_n]
  have e0 : ((0 : Int) : Rat) = 0 := rfl
  have e1 : ((2 : Nat) : Rat) = 2 := rfl
  have e3 : ((4 : Nat) : Rat) = 4 := rfl
  have e6 : ((6 : Int) : Rat) = 6 := rfl
  rw [e0, e1, e3, e6]; grind
theorem c_t : TimeOk (420 * (2 * 4)) 8 2 4 ((5 : Int) : Rat) := ⟨In.int 5, by decide, by decide⟩
theorem c_1 : F_siphon_again [encS 2 8 2 4] = .ok (.tuple [.int 6, .int 1]) := by
  have h := sagain_st c_ls.fit.toSip.chk c_ls.fit.toSip.again
  rw [c_a] at h; exact h
theorem c_2 : F_siphon_level [encS 2 8 2 4, .tuple [.int 5, .int 1]] = .ok (.tuple [.int 6, .int 1]) := by
  have h := level_eq c_ls.fit c_t
  rw [c_lv] at h; exact h
theorem c_3 : F_siphon_runs [encS 2 8 2 4, .tuple [.int 5, .int 1]] = .ok (.tuple [.int 1, .tuple [.int 6, .int 1]]) := by
  have h := runs_eq c_ls.fit c_t
  rw [c_bg, c_ou] at h; exact h
theorem c_4 : F_both_run [encS 2 8 2 4, .tuple [.int 0, .int 2, .int 1, .int 2]] = .ok (.tuple [.int 12, .int 1]) := by
  have h := brun_eq c_ls.fit.toSip (⟨by decide, by decide, by decide, by decide, by decide⟩ : Sip 0 2 1 1)
  have hq : agn 8 2 4 / agn 2 1 1 = mkRat 3 2 := by
    rw [c_a, c_b, Rat.mkRat_eq_div]
    have e6 : ((6 : Int) : Rat) = 6 := rfl
    have e4 : ((4 : Int) : Rat) = 4 := rfl
    have e3 : ((3 : Int) : Rat) = 3 := rfl
    have e2 : ((2 : Nat) : Rat) = 2 := rfl
    rw [e6, e4, e3, e2]; grind
  have hd : (mkRat 3 2).den = 2 := by rw [Rat.den_mkRat]; decide
  rw [hq, hd, c_a] at h
  have e : ((6 : Int) : Rat) * ((2 : Nat) : Rat) = ((12 : Int) : Rat) := by
    have e6 : ((6 : Int) : Rat) = 6 := rfl
    have e2 : ((2 : Nat) : Rat) = 2 := rfl
    have e12 : ((12 : Int) : Rat) = 12 := rfl
    rw [e6, e2, e12]; grind
  rw [e] at h; exact h
theorem c_5 : F_siphon_time [encS 2 8 2 4, .int 1000000000000] = .ok (.tuple [.int 5999999999998, .int 1]) := by
  have h := stime_eq c_ls.fit (m := 1000000000000) (by decide)
  rw [c_a, c_r1] at h
  have e : ((6 : Int) : Rat) * ((1000000000000 - 1 : Int) : Rat) + 4 = ((5999999999998 : Int) : Rat) := by
    have e6 : ((6 : Int) : Rat) = 6 := rfl
    have e1 : ((1000000000000 - 1 : Int) : Rat) = 999999999999 := rfl
    have e2 : ((5999999999998 : Int) : Rat) = 5999999999998 := rfl
    rw [e6, e1, e2]; grind
  rw [e] at h; exact h
end K95
namespace K95
open PySem PySem.Spec L2 DL

theorem turns {DS ns : List Int} (hd : DS.length = 60) (ho : DrawOk DS) : ∃ y2 y3 y4 y5 y6 y7 y8 y9 y10 y11 y12 y13 y14 y15 y16 y17 y18 y19 y20 y21 y22 y23 y24 y25 y26 y27 y28, forL (gN 2) g_law_l6 ((rng 0 5).map PyData.int) [.sc ns, .va (.list (DS.map PyData.int)), .un, .un, .un, .un, .un, .un, .un, .un, .un, .un, .un, .un, .un, .un, .un, .un, .un, .un, .un, .un, .un, .un, .un, .un, .un, .un, .un] = .nx [.sc ns, .va (.list (DS.map PyData.int)), y2, y3, y4, y5, y6, y7, y8, y9, y10, y11, y12, y13, y14, y15, y16, y17, y18, y19, y20, y21, y22, y23, y24, y25, y26, y27, y28] := by
  obtain ⟨ρ', e, y2, y3, y4, y5, y6, y7, y8, y9, y10, y11, y12, y13, y14, y15, y16, y17, y18, y19, y20, y21, y22, y23, y24, y25, y26, y27, y28, rfl⟩ := forL_inv (tgt := gN 2) (body := g_law_l6) (fun _ ρ => ∃ y2 y3 y4 y5 y6 y7 y8 y9 y10 y11 y12 y13 y14 y15 y16 y17 y18 y19 y20 y21 y22 y23 y24 y25 y26 y27 y28, ρ = [.sc ns, .va (.list (DS.map PyData.int)), y2, y3, y4, y5, y6, y7, y8, y9, y10, y11, y12, y13, y14, y15, y16, y17, y18, y19, y20, y21, y22, y23, y24, y25, y26, y27, y28]) PyData.int (rng 0 5) (ρ := [.sc ns, .va (.list (DS.map PyData.int)), .un, .un, .un, .un, .un, .un, .un, .un, .un, .un, .un, .un, .un, .un, .un, .un, .un, .un, .un, .un, .un, .un, .un, .un, .un, .un, .un]) ⟨_, _, _, _, _, _, _, _, _, _, _, _, _, _, _, _, _, _, _, _, _, _, _, _, _, _, _, rfl⟩ (by
    rintro j tn ρ hj ⟨y2, y3, y4, y5, y6, y7, y8, y9, y10, y11, y12, y13, y14, y15, y16, y17, y18, y19, y20, y21, y22, y23, y24, y25, y26, y27, y28, rfl⟩
    have hn := mem_rng.mp (List.mem_of_getElem? hj)
    obtain ⟨z2, z3, z4, z5, z6, z7, z8, z9, z10, z11, z12, z13, z14, z15, z16, z17, z18, z19, z20, z21, z22, z23, z24, z25, z26, z27, z28, go⟩ := l6_go (x0 := .sc ns) (x3 := y3) (x4 := y4) (x5 := y5) (x6 := y6) (x7 := y7) (x8 := y8) (x9 := y9) (x10 := y10) (x11 := y11) (x12 := y12) (x13 := y13) (x14 := y14) (x15 := y15) (x16 := y16) (x17 := y17) (x18 := y18) (x19 := y19) (x20 := y20) (x21 := y21) (x22 := y22) (x23 := y23) (x24 := y24) (x25 := y25) (x26 := y26) (x27 := y27) (x28 := y28) (DS := DS) (tn := tn) hd ho (by omega)
    exact ⟨_, _, rfl, .inl go, _, _, _, _, _, _, _, _, _, _, _, _, _, _, _, _, _, _, _, _, _, _, _, _, _, _, _, rfl⟩)
  exact ⟨_, _, _, _, _, _, _, _, _, _, _, _, _, _, _, _, _, _, _, _, _, _, _, _, _, _, _, e⟩
theorem fold_due (w : Nat) (t : Rat) : ((rng 1 100).flatMap fun c => ratesT w t c) = (rng 1 99).flatMap fun c => ratesT w t c := by
  have e : rng 1 100 = rng 1 99 ++ [100] := by decide
  rw [e, List.flatMap_append]
  have : ratesT w t 100 = [] := rfl
  simp [this]
end K95
namespace K95
open PySem PySem.Spec L2 DL

theorem due_all {x0 x1 x2 x3 x4 x5 x6 x7 x8 x9 x10 x11 x12 x13 x14 x15 x16 x17 x18 x19 x20 x21 x22 x23 x24 x25 x26 x27 x28 : Sl} {T : Rat} {w : Nat} (hw : 1 ≤ w ∧ w ≤ 9) (t0 : -1000000 < T.num ∧ T.num < 1000000) (t1 : -1000000 < ((T.den : Nat) : Int) ∧ ((T.den : Nat) : Int) < 1000000) :
    ∃ y7, forL (gN 7) g_law_l7 ((rng 1 100).map PyData.int) [x0, x1, x2, x3, x4, x5, x6, x7, x8, x9, x10, x11, x12, .va (encQ T), x14, x15, x16, x17, x18, x19, x20, x21, x22, x23, x24, x25, .va (.int (w : Nat)), .va (.list []), x28] = .nx [x0, x1, x2, x3, x4, x5, x6, y7, x8, x9, x10, x11, x12, .va (encQ T), x14, x15, x16, x17, x18, x19, x20, x21, x22, x23, x24, x25, .va (.int (w : Nat)), .va (.list (((rng 1 99).flatMap fun c => ratesT w T c).map encP)), x28] := by
  obtain ⟨ρ', e, y7, rfl, _⟩ := forL_fold (tgt := gN 7) (body := g_law_l7) (fun i (r : List (Int × Int)) ρ => ∃ y7, ρ = [x0, x1, x2, x3, x4, x5, x6, y7, x8, x9, x10, x11, x12, .va (encQ T), x14, x15, x16, x17, x18, x19, x20, x21, x22, x23, x24, x25, .va (.int (w : Nat)), .va (.list (r.map encP)), x28] ∧ r.length ≤ 100 * i) (fun r c => r ++ ratesT w T c) PyData.int (rng 1 100) (s := []) (ρ := [x0, x1, x2, x3, x4, x5, x6, x7, x8, x9, x10, x11, x12, .va (encQ T), x14, x15, x16, x17, x18, x19, x20, x21, x22, x23, x24, x25, .va (.int (w : Nat)), .va (.list []), x28]) ⟨_, rfl, Nat.le_refl _⟩ (by
    rintro j c r ρ hj ⟨y7, rfl, hr⟩
    have hm := mem_rng.mp (List.mem_of_getElem? hj)
    have hj2 := (List.getElem?_eq_some_iff.mp hj).1
    rw [rng_len] at hj2
    have st := due_st (x0 := x0) (x1 := x1) (x2 := x2) (x3 := x3) (x4 := x4) (x5 := x5) (x6 := x6) (x8 := x8) (x9 := x9) (x10 := x10) (x11 := x11) (x12 := x12) (x14 := x14) (x15 := x15) (x16 := x16) (x17 := x17) (x18 := x18) (x19 := x19) (x20 := x20) (x21 := x21) (x22 := x22) (x23 := x23) (x24 := x24) (x25 := x25) (x28 := x28) (w := (w : Nat)) (c := c) (r := r) (by omega) t0 t1 (by omega)
    refine ⟨_, _, rfl, .inl st, _, rfl, ?_⟩
    have := rates_len w T c (by omega)
    rw [List.length_append]; omega)
  have ef : (rng 1 100).foldl (fun r c => r ++ ratesT w T c) [] = (rng 1 99).flatMap fun c => ratesT w T c := by rw [← fold_due, List.flatMap_eq_foldl]
  rw [ef] at e
  exact ⟨_, e⟩
end K95
namespace K95
open PySem PySem.Spec L2 DL
theorem st_dr {ns : List Int} {D : PD} {xs : En} (h : F__law_draws ns 60 = .ok D) : (sSet 1 (cDr F__law_draws 0 60)) (.sc ns :: .un :: xs) = .nx (.sc ns :: .va D :: xs) := by
  simp [cDr, h]
theorem st_t5 {ρ ρ' : En} (h : forL (gN 2) g_law_l6 ((rng 0 5).map PyData.int) ρ = .nx ρ') : (sFor (iR1 (cK (.int 5))) (gN 2) g_law_l6) ρ = .nx ρ' := by
  have hr : rg1 (.int 5) = .ok ((rng 0 5).map PyData.int) := by rw [a_rg1, chk_of (by decide), rangeL_rng]; rfl
  rw [a_sFor, a_iR1, a_cK, R.ok_bind, hr, a_toS_ok, h]
theorem st_due {ρ ρ' : En} (h : forL (gN 7) g_law_l7 ((rng 1 100).map PyData.int) ρ = .nx ρ') : (sFor (iR2 (cK (.int 1)) (cK (.int 101))) (gN 7) g_law_l7) ρ = .nx ρ' := by
  have hr : rg2 (.int 1) (.int 101) = .ok ((rng 1 100).map PyData.int) := by rw [a_rg2, chk_of (by decide), rangeL_rng]; rfl
  rw [a_sFor, a_iR2, a_cK, a_cK, R.ok_bind, R.ok_bind, hr, a_toS_ok, h]
theorem ne_pairs (l : List (Int × Int)) : neD (.tuple (l.map encP)) (.tuple (l.map encP)) = .ok (.bool false) := by
  refine neD_self ?_ ?_
  · rw [nod]
    refine nodAll_of _ fun d hd => ?_
    obtain ⟨p, _, rfl⟩ := List.mem_map.mp hd
    rfl
  · rw [PyData.depth]
    have := depthAll_le (l.map encP) 1 fun d hd => by
      obtain ⟨p, _, rfl⟩ := List.mem_map.mp hd
      simp [encP, PyData.depth, PyData.depthAll]
    omega
theorem holds (ns : List Int) (h63 : ns.length ≤ 63) : F_law ns = .ok (.bool true) := by
  obtain ⟨DS, e1, hlen, hdr⟩ := draws_ok ns 60 (by omega)
  have e1' : F__law_draws ns 60 = .ok (.list (DS.map PyData.int)) := e1
  obtain ⟨y2, y3, y4, y5, y6, y7, y8, y9, y10, y11, y12, y13, y14, y15, y16, y17, y18, y19, y20, y21, y22, y23, y24, y25, y26, y27, y28, e5⟩ := turns (ns := ns) hlen hdr
  have dr : ∀ i : Int, 0 ≤ i ∧ i < 60 → ∃ v : Int, atI (DS.map PyData.int) i = some (.int v) ∧ 0 ≤ v ∧ v < 65521 := fun i hi => by
    obtain ⟨k, rfl⟩ : ∃ k : Nat, i = (k : Int) := ⟨i.toNat, by omega⟩
    have hk : k < DS.length := by omega
    refine ⟨DS[k], ?_, hdr _ (List.getElem_mem hk)⟩
    rw [atI_nn, List.getElem?_map, List.getElem?_eq_getElem hk]; rfl
  obtain ⟨a, ha, ha2⟩ := dr 55 (by omega)
  obtain ⟨b, hb, hb2⟩ := dr 56 (by omega)
  obtain ⟨d, hd', hd2⟩ := dr 57 (by omega)
  have hT := law_low' (1 + b % 12) (1 + d % 3) (by omega) (by omega)
  obtain ⟨w, hw⟩ : ∃ w : Nat, 1 + a % 9 = (w : Int) := ⟨(1 + a % 9).toNat, by omega⟩
  have hw9 : 1 ≤ w ∧ w ≤ 9 := by omega
  have bT := mk_bounds (u := 1 + b % 12) (d := 1 + d % 3) (by omega) (by omega)
  have dT := den_mk (1 + b % 12) (1 + d % 3).toNat (by omega)
  have nT : (mkRat (1 + b % 12) (1 + d % 3).toNat).num ≤ 1000 := by
    rw [Rat.num_mkRat]
    split
    · omega
    · exact Int.le_trans (Int.ediv_le_self _ (by omega)) (by omega)
  have nT0 := Rat.num_nonneg.mpr bT.1
  generalize mkRat (1 + b % 12) (1 + d % 3).toNat = T at *
  have t0 : -1000000 < T.num ∧ T.num < 1000000 := by omega
  have t1 : -1000000 < ((T.den : Nat) : Int) ∧ ((T.den : Nat) : Int) < 1000000 := by omega
  have s3 := lw3 (x0 := .sc ns) (x2 := y2) (x3 := y3) (x4 := y4) (x5 := y5) (x6 := y6) (x7 := y7) (x8 := y8) (x9 := y9) (x10 := y10) (x11 := y11) (x12 := y12) (x13 := y13) (x14 := y14) (x15 := y15) (x16 := y16) (x17 := y17) (x18 := y18) (x19 := y19) (x20 := y20) (x21 := y21) (x22 := y22) (x23 := y23) (x24 := y24) (x25 := y25) (x26 := y26) (x27 := y27) (x28 := y28) ha hb hd' hT
  rw [hw] at s3
  obtain ⟨z7, e7⟩ := due_all (x0 := .sc ns) (x1 := .va (.list (DS.map PyData.int))) (x2 := y2) (x3 := y3) (x4 := y4) (x5 := y5) (x6 := y6) (x7 := y7) (x8 := y8) (x9 := y9) (x10 := y10) (x11 := y11) (x12 := y12) (x13 := .va (encQ T)) (x14 := y14) (x15 := y15) (x16 := y16) (x17 := y17) (x18 := y18) (x19 := y19) (x20 := y20) (x21 := y21) (x22 := y22) (x23 := y23) (x24 := y24) (x25 := y25) (x26 := .va (.int (w : Nat))) (x27 := y27) (x28 := y28) (T := T) (w := w) hw9 t0 t1
  have hl : F_is_less [.tuple [.int 1000000000000, .int 1], encQ T] = .ok (.bool false) := by
    have h := less_eq ((1000000000000 : Int) : Rat) T (by decide) (by omega)
    rw [encQ_int] at h
    rw [h]
    have : ¬ (((1000000000000 : Int) : Rat) < T) := by
      have e : ((1000000000000 : Int) : Rat) = 1000000000000 := rfl
      rw [e]; grind
    rw [decide_eq_false this]
  have hr := rates_eq hw9 (t := T) (quot_ok T bT.1 (by omega)) hl
  have hn := ne_pairs ((rng 1 99).flatMap fun c => ratesT w T c)
  have hfin : g_law (.sc ns :: List.replicate 28 .un) = .rt (.bool true) := by
    unfold g_law
    exact Eq.trans (seq_nx (st_dr e1')) (Eq.trans (seq_nx (st_t5 e5)) (Eq.trans (seq_nx s3) (Eq.trans (seq_nx lw4) (Eq.trans (seq_nx (st_due e7)) (Eq.trans (seq_nx (lw6 hr hn)) (Eq.trans (seq_nx lw7) (Eq.trans (seq_nx (lw8 c_1 c_2)) (lw9 c_3 c_4 c_5))))))))
  unfold F_law
  rw [hfin]; rfl
end K95
namespace K95
open PySem PySem.Spec PyProof.Rows L2 DL
def topS (i : Nat) : Stmt := PySem.Challenge.pw_sandwright_k95_whole_siphons.main.body.getD i (.Pass ⟨0, 0, 0, 0⟩)
abbrev s_is_whole : Stmt := topS 6
abbrev s_divisor : Stmt := topS 10
abbrev s_is_less : Stmt := topS 14
abbrev s_is_integer : Stmt := topS 15
abbrev s__law_draws : Stmt := topS 35
abbrev s__law_low : Stmt := topS 36
abbrev s__law_less : Stmt := topS 40
abbrev s__law_siphon : Stmt := topS 41
abbrev s_quotient : Stmt := topS 11
abbrev s_is_quotient : Stmt := topS 16
abbrev s__check : Stmt := topS 22
abbrev s__law_plus : Stmt := topS 37
abbrev s__law_times : Stmt := topS 38
abbrev s__law_rounds : Stmt := topS 42
abbrev s_plus : Stmt := topS 12
abbrev s_times : Stmt := topS 13
abbrev s__rise : Stmt := topS 23
abbrev s__fall : Stmt := topS 24
abbrev s__check_time : Stmt := topS 28
abbrev s__law_minus : Stmt := topS 39
abbrev s_minus : Stmt := topS 17
abbrev s__again : Stmt := topS 25
abbrev s__law_at : Stmt := topS 43
abbrev s_siphon_again : Stmt := topS 26
abbrev s__rounds : Stmt := topS 27
abbrev s_siphon_time : Stmt := topS 31
abbrev s_rates_again : Stmt := topS 32
abbrev s_both_run : Stmt := topS 33
abbrev s_siphon_level : Stmt := topS 29
abbrev s_siphon_runs : Stmt := topS 30
abbrev s__law_word : Stmt := topS 44
abbrev s_law : Stmt := topS 45
structure Tx (K : PySem.W.Frag) (mg : Str → Option Value) where
  f_is_whole : Addr
  fd_is_whole : FuncData
  F_is_whole : Fun K "is_whole" "is_whole" s_is_whole f_is_whole fd_is_whole
  b_is_whole : Binds K fd_is_whole ["value", "least", "most"] []
  m_is_whole : mg "is_whole" = some (.ref f_is_whole)
  k_is_whole : PySem.W.keepIn K (.ref f_is_whole) = true
  f_divisor : Addr
  fd_divisor : FuncData
  F_divisor : Fun K "divisor" "divisor" s_divisor f_divisor fd_divisor
  b_divisor : Binds K fd_divisor ["one", "other"] []
  m_divisor : mg "divisor" = some (.ref f_divisor)
  k_divisor : PySem.W.keepIn K (.ref f_divisor) = true
  f_is_less : Addr
  fd_is_less : FuncData
  F_is_less : Fun K "is_less" "is_less" s_is_less f_is_less fd_is_less
  b_is_less : Binds K fd_is_less ["one", "other"] []
  m_is_less : mg "is_less" = some (.ref f_is_less)
  k_is_less : PySem.W.keepIn K (.ref f_is_less) = true
  f_is_integer : Addr
  fd_is_integer : FuncData
  F_is_integer : Fun K "is_integer" "is_integer" s_is_integer f_is_integer fd_is_integer
  b_is_integer : Binds K fd_is_integer ["value"] []
  m_is_integer : mg "is_integer" = some (.ref f_is_integer)
  k_is_integer : PySem.W.keepIn K (.ref f_is_integer) = true
  f__law_draws : Addr
  fd__law_draws : FuncData
  F__law_draws : Fun K "_law_draws" "_law_draws" s__law_draws f__law_draws fd__law_draws
  b__law_draws : Binds K fd__law_draws ["script", "many"] []
  m__law_draws : mg "_law_draws" = some (.ref f__law_draws)
  k__law_draws : PySem.W.keepIn K (.ref f__law_draws) = true
  f__law_low : Addr
  fd__law_low : FuncData
  F__law_low : Fun K "_law_low" "_law_low" s__law_low f__law_low fd__law_low
  b__law_low : Binds K fd__law_low ["up", "down"] []
  m__law_low : mg "_law_low" = some (.ref f__law_low)
  k__law_low : PySem.W.keepIn K (.ref f__law_low) = true
  f__law_less : Addr
  fd__law_less : FuncData
  F__law_less : Fun K "_law_less" "_law_less" s__law_less f__law_less fd__law_less
  b__law_less : Binds K fd__law_less ["one", "other"] []
  m__law_less : mg "_law_less" = some (.ref f__law_less)
  k__law_less : PySem.W.keepIn K (.ref f__law_less) = true
  f__law_siphon : Addr
  fd__law_siphon : FuncData
  F__law_siphon : Fun K "_law_siphon" "_law_siphon" s__law_siphon f__law_siphon fd__law_siphon
  b__law_siphon : Binds K fd__law_siphon ["draws", "at"] []
  m__law_siphon : mg "_law_siphon" = some (.ref f__law_siphon)
  k__law_siphon : PySem.W.keepIn K (.ref f__law_siphon) = true
  f_quotient : Addr
  fd_quotient : FuncData
  F_quotient : Fun K "quotient" "quotient" s_quotient f_quotient fd_quotient
  b_quotient : Binds K fd_quotient ["up", "down"] []
  m_quotient : mg "quotient" = some (.ref f_quotient)
  k_quotient : PySem.W.keepIn K (.ref f_quotient) = true
  f_is_quotient : Addr
  fd_is_quotient : FuncData
  F_is_quotient : Fun K "is_quotient" "is_quotient" s_is_quotient f_is_quotient fd_is_quotient
  b_is_quotient : Binds K fd_is_quotient ["value"] []
  m_is_quotient : mg "is_quotient" = some (.ref f_is_quotient)
  k_is_quotient : PySem.W.keepIn K (.ref f_is_quotient) = true
  f__check : Addr
  fd__check : FuncData
  F__check : Fun K "_check" "_check" s__check f__check fd__check
  b__check : Binds K fd__check ["siphon"] []
  m__check : mg "_check" = some (.ref f__check)
  k__check : PySem.W.keepIn K (.ref f__check) = true
  f__law_plus : Addr
  fd__law_plus : FuncData
  F__law_plus : Fun K "_law_plus" "_law_plus" s__law_plus f__law_plus fd__law_plus
  b__law_plus : Binds K fd__law_plus ["one", "other"] []
  m__law_plus : mg "_law_plus" = some (.ref f__law_plus)
  k__law_plus : PySem.W.keepIn K (.ref f__law_plus) = true
  f__law_times : Addr
  fd__law_times : FuncData
  F__law_times : Fun K "_law_times" "_law_times" s__law_times f__law_times fd__law_times
  b__law_times : Binds K fd__law_times ["one", "number"] []
  m__law_times : mg "_law_times" = some (.ref f__law_times)
  k__law_times : PySem.W.keepIn K (.ref f__law_times) = true
  f__law_rounds : Addr
  fd__law_rounds : FuncData
  F__law_rounds : Fun K "_law_rounds" "_law_rounds" s__law_rounds f__law_rounds fd__law_rounds
  b__law_rounds : Binds K fd__law_rounds ["siphon"] []
  m__law_rounds : mg "_law_rounds" = some (.ref f__law_rounds)
  k__law_rounds : PySem.W.keepIn K (.ref f__law_rounds) = true
  f_plus : Addr
  fd_plus : FuncData
  F_plus : Fun K "plus" "plus" s_plus f_plus fd_plus
  b_plus : Binds K fd_plus ["one", "other"] []
  m_plus : mg "plus" = some (.ref f_plus)
  k_plus : PySem.W.keepIn K (.ref f_plus) = true
  f_times : Addr
  fd_times : FuncData
  F_times : Fun K "times" "times" s_times f_times fd_times
  b_times : Binds K fd_times ["one", "number"] []
  m_times : mg "times" = some (.ref f_times)
  k_times : PySem.W.keepIn K (.ref f_times) = true
  f__rise : Addr
  fd__rise : FuncData
  F__rise : Fun K "_rise" "_rise" s__rise f__rise fd__rise
  b__rise : Binds K fd__rise ["siphon"] []
  m__rise : mg "_rise" = some (.ref f__rise)
  k__rise : PySem.W.keepIn K (.ref f__rise) = true
  f__fall : Addr
  fd__fall : FuncData
  F__fall : Fun K "_fall" "_fall" s__fall f__fall fd__fall
  b__fall : Binds K fd__fall ["siphon"] []
  m__fall : mg "_fall" = some (.ref f__fall)
  k__fall : PySem.W.keepIn K (.ref f__fall) = true
  f__check_time : Addr
  fd__check_time : FuncData
  F__check_time : Fun K "_check_time" "_check_time" s__check_time f__check_time fd__check_time
  b__check_time : Binds K fd__check_time ["siphon", "time"] []
  m__check_time : mg "_check_time" = some (.ref f__check_time)
  k__check_time : PySem.W.keepIn K (.ref f__check_time) = true
  f__law_minus : Addr
  fd__law_minus : FuncData
  F__law_minus : Fun K "_law_minus" "_law_minus" s__law_minus f__law_minus fd__law_minus
  b__law_minus : Binds K fd__law_minus ["one", "other"] []
  m__law_minus : mg "_law_minus" = some (.ref f__law_minus)
  k__law_minus : PySem.W.keepIn K (.ref f__law_minus) = true
  f_minus : Addr
  fd_minus : FuncData
  F_minus : Fun K "minus" "minus" s_minus f_minus fd_minus
  b_minus : Binds K fd_minus ["one", "other"] []
  m_minus : mg "minus" = some (.ref f_minus)
  k_minus : PySem.W.keepIn K (.ref f_minus) = true
  f__again : Addr
  fd__again : FuncData
  F__again : Fun K "_again" "_again" s__again f__again fd__again
  b__again : Binds K fd__again ["siphon"] []
  m__again : mg "_again" = some (.ref f__again)
  k__again : PySem.W.keepIn K (.ref f__again) = true
  f__law_at : Addr
  fd__law_at : FuncData
  F__law_at : Fun K "_law_at" "_law_at" s__law_at f__law_at fd__law_at
  b__law_at : Binds K fd__law_at ["siphon", "time"] []
  m__law_at : mg "_law_at" = some (.ref f__law_at)
  k__law_at : PySem.W.keepIn K (.ref f__law_at) = true
  f_siphon_again : Addr
  fd_siphon_again : FuncData
  F_siphon_again : Fun K "siphon_again" "siphon_again" s_siphon_again f_siphon_again fd_siphon_again
  b_siphon_again : Binds K fd_siphon_again ["siphon"] []
  m_siphon_again : mg "siphon_again" = some (.ref f_siphon_again)
  k_siphon_again : PySem.W.keepIn K (.ref f_siphon_again) = true
  f__rounds : Addr
  fd__rounds : FuncData
  F__rounds : Fun K "_rounds" "_rounds" s__rounds f__rounds fd__rounds
  b__rounds : Binds K fd__rounds ["siphon", "time"] []
  m__rounds : mg "_rounds" = some (.ref f__rounds)
  k__rounds : PySem.W.keepIn K (.ref f__rounds) = true
  f_siphon_time : Addr
  fd_siphon_time : FuncData
  F_siphon_time : Fun K "siphon_time" "siphon_time" s_siphon_time f_siphon_time fd_siphon_time
  b_siphon_time : Binds K fd_siphon_time ["siphon", "many"] []
  m_siphon_time : mg "siphon_time" = some (.ref f_siphon_time)
  k_siphon_time : PySem.W.keepIn K (.ref f_siphon_time) = true
  f_rates_again : Addr
  fd_rates_again : FuncData
  F_rates_again : Fun K "rates_again" "rates_again" s_rates_again f_rates_again fd_rates_again
  b_rates_again : Binds K fd_rates_again ["low", "high", "time"] []
  m_rates_again : mg "rates_again" = some (.ref f_rates_again)
  k_rates_again : PySem.W.keepIn K (.ref f_rates_again) = true
  f_both_run : Addr
  fd_both_run : FuncData
  F_both_run : Fun K "both_run" "both_run" s_both_run f_both_run fd_both_run
  b_both_run : Binds K fd_both_run ["siphon", "other"] []
  m_both_run : mg "both_run" = some (.ref f_both_run)
  k_both_run : PySem.W.keepIn K (.ref f_both_run) = true
  f_siphon_level : Addr
  fd_siphon_level : FuncData
  F_siphon_level : Fun K "siphon_level" "siphon_level" s_siphon_level f_siphon_level fd_siphon_level
  b_siphon_level : Binds K fd_siphon_level ["siphon", "time"] []
  m_siphon_level : mg "siphon_level" = some (.ref f_siphon_level)
  k_siphon_level : PySem.W.keepIn K (.ref f_siphon_level) = true
  f_siphon_runs : Addr
  fd_siphon_runs : FuncData
  F_siphon_runs : Fun K "siphon_runs" "siphon_runs" s_siphon_runs f_siphon_runs fd_siphon_runs
  b_siphon_runs : Binds K fd_siphon_runs ["siphon", "time"] []
  m_siphon_runs : mg "siphon_runs" = some (.ref f_siphon_runs)
  k_siphon_runs : PySem.W.keepIn K (.ref f_siphon_runs) = true
  f__law_word : Addr
  fd__law_word : FuncData
  F__law_word : Fun K "_law_word" "_law_word" s__law_word f__law_word fd__law_word
  b__law_word : Binds K fd__law_word ["way", "one", "two", "three"] []
  m__law_word : mg "_law_word" = some (.ref f__law_word)
  k__law_word : PySem.W.keepIn K (.ref f__law_word) = true
  f_law : Addr
  fd_law : FuncData
  F_law : Fun K "law" "law" s_law f_law fd_law
  b_law : Binds K fd_law ["script"] []
  m_law : mg "law" = some (.ref f_law)
  k_law : PySem.W.keepIn K (.ref f_law) = true
  z_abs : mg "abs" = none
  z_bool : mg "bool" = none
  z_int : mg "int" = none
  z_isinstance : mg "isinstance" = none
  z_len : mg "len" = none
  z_list : mg "list" = none
  z_range : mg "range" = none
  z_tuple : mg "tuple" = none
  c_MOST_HIGH : McD K mg "MOST_HIGH" (.int 1000)
  c_MOST_MANY : McD K mg "MOST_MANY" (.int 1000000000000)
  c_MOST_RATE : McD K mg "MOST_RATE" (.int 100)
  c_MOST_TIME : McD K mg "MOST_TIME" (.int 1000000000000)
  c_NOTHING : McD K mg "NOTHING" (.tuple [.int 0, .int 1])
  C_BadMany : Addr
  g_BadMany : mg "BadMany" = some (.ref C_BadMany)
  x_BadMany : PySem.W.excIn K C_BadMany [.type "ValueError", .type "Exception", .type "BaseException", .type "object"] "ValueError.__new__" = true
  k_BadMany : PySem.W.keepIn K (.ref C_BadMany) = true
  s_BadMany : PySem.W.subIn K (.ref C_BadMany) (.type "BaseException") = some true
  t_BadMany : PySem.W.typeIn K (.ref C_BadMany) = some (.type "type")
  C_BadSiphon : Addr
  g_BadSiphon : mg "BadSiphon" = some (.ref C_BadSiphon)
  x_BadSiphon : PySem.W.excIn K C_BadSiphon [.type "ValueError", .type "Exception", .type "BaseException", .type "object"] "ValueError.__new__" = true
  k_BadSiphon : PySem.W.keepIn K (.ref C_BadSiphon) = true
  s_BadSiphon : PySem.W.subIn K (.ref C_BadSiphon) (.type "BaseException") = some true
  t_BadSiphon : PySem.W.typeIn K (.ref C_BadSiphon) = some (.type "type")
  C_BadTime : Addr
  g_BadTime : mg "BadTime" = some (.ref C_BadTime)
  x_BadTime : PySem.W.excIn K C_BadTime [.type "ValueError", .type "Exception", .type "BaseException", .type "object"] "ValueError.__new__" = true
  k_BadTime : PySem.W.keepIn K (.ref C_BadTime) = true
  s_BadTime : PySem.W.subIn K (.ref C_BadTime) (.type "BaseException") = some true
  t_BadTime : PySem.W.typeIn K (.ref C_BadTime) = some (.type "type")
  ap : Apart K mg excs
section
variable {P : Program} {w : World} {K : PySem.W.Frag} {mg : Str → Option Value} {base : Heap}
theorem sc_is_whole : FnScope ["value", "least", "most"] ["value", "least", "most"] (defScope s_is_whole) := ⟨rfl, rfl, rfl, by decide +kernel, rfl, by decide +kernel, by decide +kernel⟩
theorem fn_is_whole (T : Tx K mg) : FnD P w K mg base 1 T.f_is_whole T.fd_is_whole ["value", "least", "most"] F_is_whole := fnD_of (N := ["value", "least", "most"]) (k := 0) (g := g_is_whole) T.F_is_whole sc_is_whole fun cdv A outer s H E hr => (show DSs _ _ _ g_is_whole from
    (dss_one (ds_ret (de_and (de_isa isa_int (by rfl) T.z_isinstance (by rfl) T.z_int PyProof.Rows.boot_int (DE.dv (de_v (pv 0)))) (de_and (de_not (DE.dv (de_isa isa_bool (by rfl) T.z_isinstance (by rfl) T.z_bool PyProof.Rows.boot_bool (DE.dv (de_v (pv 0)))))) (de_one (de_chain (opd_le (Deep.of hr)) (opd_le (Deep.of hr)) (DE.dv (de_v (pv 1))) (DE.dv (de_v (pv 0))) (DE.dv (de_v (pv 2))))))))))
theorem sc_divisor : FnScope ["one", "other"] ["one", "other"] (defScope s_divisor) := ⟨rfl, rfl, rfl, by decide +kernel, rfl, by decide +kernel, by decide +kernel⟩
theorem fn_divisor (T : Tx K mg) : FnD P w K mg base 1 T.f_divisor T.fd_divisor ["one", "other"] F_divisor := fnD_of (N := ["one", "other"]) (k := 0) (g := g_divisor) T.F_divisor sc_divisor fun cdv A outer s H E hr => (show DSs _ _ _ g_divisor from
    (dss_cons (ds_par (i := 0) (j := 1) rfl sc_divisor.nd rfl rfl (by decide) rfl rfl (de_callB cd_abs (by rfl) T.z_abs PyProof.Rows.boot_abs (da_cons (DE.dv (de_v (pv 0))) da_nil)) (de_callB cd_abs (by rfl) T.z_abs PyProof.Rows.boot_abs (da_cons (DE.dv (de_v (pv 1))) da_nil)) (by rfl))
    (dss_cons (ds_while fuel (passes_of rfl) (db_c (opd_gt (Deep.of hr)) (DE.dv (de_v (pv 1))) (DE.dv de_int) (nomark _))
    (dss_one (ds_par (i := 0) (j := 1) rfl sc_divisor.nd rfl rfl (by decide) rfl rfl (de_v (pv 1)) (de_op opd_mod (DE.dv (de_v (pv 0))) (DE.dv (de_v (pv 1)))) (by rfl))))
    (dss_one (ds_ret (de_v (pv 0)))))))
theorem sc_is_less : FnScope ["one", "other"] ["one", "other"] (defScope s_is_less) := ⟨rfl, rfl, rfl, by decide +kernel, rfl, by decide +kernel, by decide +kernel⟩
theorem fn_is_less (T : Tx K mg) : FnD P w K mg base 1 T.f_is_less T.fd_is_less ["one", "other"] F_is_less := fnD_of (N := ["one", "other"]) (k := 0) (g := g_is_less) T.F_is_less sc_is_less fun cdv A outer s H E hr => (show DSs _ _ _ g_is_less from
    (dss_one (ds_ret (de_cmp (opd_lt (Deep.of hr)) (DE.dv (de_op opd_mul (DE.dv (de_ix (DE.dv (de_v (pv 0))) (DE.dv de_int) (fun _ _ => rfl))) (DE.dv (de_ix (DE.dv (de_v (pv 1))) (DE.dv de_int) (fun _ _ => rfl))))) (DE.dv (de_op opd_mul (DE.dv (de_ix (DE.dv (de_v (pv 1))) (DE.dv de_int) (fun _ _ => rfl))) (DE.dv (de_ix (DE.dv (de_v (pv 0))) (DE.dv de_int) (fun _ _ => rfl))))) (nomark _)))))
theorem sc_is_integer : FnScope ["value"] ["value"] (defScope s_is_integer) := ⟨rfl, rfl, rfl, by decide +kernel, rfl, by decide +kernel, by decide +kernel⟩
theorem fn_is_integer (T : Tx K mg) : FnD P w K mg base 1 T.f_is_integer T.fd_is_integer ["value"] F_is_integer := fnD_of (N := ["value"]) (k := 0) (g := g_is_integer) T.F_is_integer sc_is_integer fun cdv A outer s H E hr => (show DSs _ _ _ g_is_integer from
    (dss_one (ds_ret (de_and (de_isa isa_int (by rfl) T.z_isinstance (by rfl) T.z_int PyProof.Rows.boot_int (DE.dv (de_v (pv 0)))) (de_one (de_not (DE.dv (de_isa isa_bool (by rfl) T.z_isinstance (by rfl) T.z_bool PyProof.Rows.boot_bool (DE.dv (de_v (pv 0)))))))))))
theorem sc__law_draws : FnScope ["script", "many", "draws", "seed", "cell", "number", "k"] ["script", "many"] (defScope s__law_draws) := ⟨rfl, rfl, rfl, by decide +kernel, rfl, by decide +kernel, by decide +kernel⟩
theorem fn__law_draws (T : Tx K mg) : FnOk P w K mg base (L2.CX P w) 1 T.f__law_draws T.fd__law_draws ["script", "many"] (spScr K F__law_draws) := fnScr_of (N := ["script", "many", "draws", "seed", "cell", "number", "k"]) (k := 0) (g := g__law_draws) T.F__law_draws sc__law_draws rfl fun cdv A outer s H E hr => (show DSs _ _ _ g__law_draws from
    (dss_cons (ds_setL (i := 2) sc__law_draws.nd rfl (by first | exact .inl rfl | exact .inr rfl) (df_lst dc_nil))
    (dss_cons (ds_set (i := 3) sc__law_draws.nd rfl (by first | exact .inl rfl | exact .inr rfl) de_int)
    (dss_cons (ds_for (passes_of rfl) rfl (di_seq (DF.de (df_scr (pv 0)))) (dg_name (i := 4) sc__law_draws.nd rfl (by first | exact .inl rfl | exact .inr rfl))
    (dss_cons (ds_set (i := 5) sc__law_draws.nd rfl (by first | exact .inl rfl | exact .inr rfl) (de_callB cd_abs (by rfl) T.z_abs PyProof.Rows.boot_abs (da_cons (DE.dv (de_v (pv 4))) da_nil)))
    (dss_cons (ds_set (i := 3) sc__law_draws.nd rfl (by first | exact .inl rfl | exact .inr rfl) (de_op opd_mod (DE.dv (de_callTy cd_int (by rfl) T.z_int PyProof.Rows.boot_int (da_cons (DE.dv (de_op opd_add (DE.dv (de_op opd_add (DE.dv (de_op opd_mul (DE.dv (de_v (pv 3))) (DE.dv de_int))) (DE.dv (de_v (pv 5))))) (DE.dv de_int))) da_nil))) (DE.dv de_int)))
    (dss_one (ds_if (db_c (opd_ge (Deep.of hr)) (DE.dv (de_v (pv 5))) (DE.dv (de_op opd_pow (DE.dv de_int) (DE.dv de_int))) (nomark _))
    (dss_one (ds_for (passes_of rfl) rfl (di_r1 (by rfl) T.z_range de_int) (dg_name (i := 6) sc__law_draws.nd rfl (by first | exact .inl rfl | exact .inr rfl))
    (dss_one (ds_if (db_c (opd_gt (Deep.of hr)) (DE.dv (de_v (pv 5))) (DE.dv de_int) (nomark _))
    (dss_cons (ds_app (pv 2) (de_op opd_mod (DE.dv (de_callTy cd_int (by rfl) T.z_int PyProof.Rows.boot_int (da_cons (DE.dv (de_v (pv 5))) da_nil))) (DE.dv de_int)))
    (dss_one (ds_set (i := 5) sc__law_draws.nd rfl (by first | exact .inl rfl | exact .inr rfl) (de_op opd_fdiv (DE.dv (de_v (pv 5))) (DE.dv de_int)))))
    dss_nil))))
    (dss_one (ds_app (pv 2) (de_op opd_mod (DE.dv (de_op opd_fdiv (DE.dv (de_callTy cd_int (by rfl) T.z_int PyProof.Rows.boot_int (da_cons (DE.dv (de_op opd_add (DE.dv (de_op opd_mul (DE.dv (de_v (pv 3))) (DE.dv de_int))) (DE.dv de_int))) da_nil))) (DE.dv de_int))) (DE.dv de_int)))))))))
    (dss_cons (ds_for (passes_of rfl) rfl (di_r1 (by rfl) T.z_range (de_v (pv 1))) (dg_name (i := 6) sc__law_draws.nd rfl (by first | exact .inl rfl | exact .inr rfl))
    (dss_one (ds_if (db_c (opd_lt (Deep.of hr)) (DE.dv (de_callB cd_len (by rfl) T.z_len PySem.boot_len (da_cons (dv_v (pv 2)) da_nil))) (DE.dv (de_v (pv 1))) (nomark _))
    (dss_cons (ds_set (i := 3) sc__law_draws.nd rfl (by first | exact .inl rfl | exact .inr rfl) (de_op opd_mod (DE.dv (de_callTy cd_int (by rfl) T.z_int PyProof.Rows.boot_int (da_cons (DE.dv (de_op opd_add (DE.dv (de_op opd_add (DE.dv (de_op opd_mul (DE.dv (de_v (pv 3))) (DE.dv de_int))) (DE.dv (de_v (pv 6))))) (DE.dv de_int))) da_nil))) (DE.dv de_int)))
    (dss_one (ds_app (pv 2) (de_op opd_mod (DE.dv (de_op opd_fdiv (DE.dv (de_callTy cd_int (by rfl) T.z_int PyProof.Rows.boot_int (da_cons (DE.dv (de_v (pv 3))) da_nil))) (DE.dv de_int))) (DE.dv de_int)))))
    dss_nil)))
    (dss_one (ds_ret (de_sl (dv_v (pv 2)) do_n (do_s (de_v (pv 1)))))))))))
theorem sc__law_low : FnScope ["up", "down", "one", "other"] ["up", "down"] (defScope s__law_low) := ⟨rfl, rfl, rfl, by decide +kernel, rfl, by decide +kernel, by decide +kernel⟩
theorem fn__law_low (T : Tx K mg) : FnD P w K mg base 1 T.f__law_low T.fd__law_low ["up", "down"] F__law_low := fnD_of (N := ["up", "down", "one", "other"]) (k := 0) (g := g__law_low) T.F__law_low sc__law_low fun cdv A outer s H E hr => (show DSs _ _ _ g__law_low from
    (dss_cons (ds_par (i := 2) (j := 3) rfl sc__law_low.nd rfl rfl (by decide) rfl rfl (de_callB cd_abs (by rfl) T.z_abs PyProof.Rows.boot_abs (da_cons (DE.dv (de_v (pv 0))) da_nil)) (de_callB cd_abs (by rfl) T.z_abs PyProof.Rows.boot_abs (da_cons (DE.dv (de_v (pv 1))) da_nil)) (by rfl))
    (dss_cons (ds_while fuel (passes_of rfl) (db_c (opd_gt (Deep.of hr)) (DE.dv (de_v (pv 3))) (DE.dv de_int) (nomark _))
    (dss_one (ds_par (i := 2) (j := 3) rfl sc__law_low.nd rfl rfl (by decide) rfl rfl (de_v (pv 3)) (de_op opd_mod (DE.dv (de_v (pv 2))) (DE.dv (de_v (pv 3)))) (by rfl))))
    (dss_one (ds_ret (de_tup (dc_cons (de_op opd_fdiv (DE.dv (de_v (pv 0))) (DE.dv (de_v (pv 2)))) (dc_cons (de_op opd_fdiv (DE.dv (de_v (pv 1))) (DE.dv (de_v (pv 2)))) dc_nil))))))))
theorem sc__law_less : FnScope ["one", "other"] ["one", "other"] (defScope s__law_less) := ⟨rfl, rfl, rfl, by decide +kernel, rfl, by decide +kernel, by decide +kernel⟩
theorem fn__law_less (T : Tx K mg) : FnD P w K mg base 1 T.f__law_less T.fd__law_less ["one", "other"] F__law_less := fnD_of (N := ["one", "other"]) (k := 0) (g := g__law_less) T.F__law_less sc__law_less fun cdv A outer s H E hr => (show DSs _ _ _ g__law_less from
    (dss_one (ds_ret (de_cmp (opd_lt (Deep.of hr)) (DE.dv (de_op opd_mul (DE.dv (de_ix (DE.dv (de_v (pv 0))) (DE.dv de_int) (fun _ _ => rfl))) (DE.dv (de_ix (DE.dv (de_v (pv 1))) (DE.dv de_int) (fun _ _ => rfl))))) (DE.dv (de_op opd_mul (DE.dv (de_ix (DE.dv (de_v (pv 1))) (DE.dv de_int) (fun _ _ => rfl))) (DE.dv (de_ix (DE.dv (de_v (pv 0))) (DE.dv de_int) (fun _ _ => rfl))))) (nomark _)))))
theorem sc__law_siphon : FnScope ["draws", "at", "low", "coming"] ["draws", "at"] (defScope s__law_siphon) := ⟨rfl, rfl, rfl, by decide +kernel, rfl, by decide +kernel, by decide +kernel⟩
theorem fn__law_siphon (T : Tx K mg) : FnD P w K mg base 1 T.f__law_siphon T.fd__law_siphon ["draws", "at"] F__law_siphon := fnD_of (N := ["draws", "at", "low", "coming"]) (k := 0) (g := g__law_siphon) T.F__law_siphon sc__law_siphon fun cdv A outer s H E hr => (show DSs _ _ _ g__law_siphon from
    (dss_cons (ds_par (i := 2) (j := 3) rfl sc__law_siphon.nd rfl rfl (by decide) rfl rfl (de_op opd_mod (DE.dv (de_callTy cd_int (by rfl) T.z_int PyProof.Rows.boot_int (da_cons (DE.dv (de_ix (DE.dv (de_v (pv 0))) (DE.dv (de_v (pv 1))) (fun _ _ => rfl))) da_nil))) (DE.dv de_int)) (de_op opd_add (DE.dv de_int) (DE.dv (de_op opd_mod (DE.dv (de_callTy cd_int (by rfl) T.z_int PyProof.Rows.boot_int (da_cons (DE.dv (de_ix (DE.dv (de_v (pv 0))) (DE.dv (de_op opd_add (DE.dv (de_v (pv 1))) (DE.dv de_int))) (fun _ _ => rfl))) da_nil))) (DE.dv de_int)))) (by rfl))
    (dss_one (ds_ret (de_tup (dc_cons (de_v (pv 2)) (dc_cons (de_op opd_add (DE.dv (de_op opd_add (DE.dv (de_v (pv 2))) (DE.dv de_int))) (DE.dv (de_op opd_mod (DE.dv (de_op opd_fdiv (DE.dv (de_callTy cd_int (by rfl) T.z_int PyProof.Rows.boot_int (da_cons (DE.dv (de_ix (DE.dv (de_v (pv 0))) (DE.dv (de_v (pv 1))) (fun _ _ => rfl))) da_nil))) (DE.dv de_int))) (DE.dv de_int)))) (dc_cons (de_v (pv 3)) (dc_cons (de_op opd_add (DE.dv (de_op opd_add (DE.dv (de_v (pv 3))) (DE.dv de_int))) (DE.dv (de_op opd_mod (DE.dv (de_op opd_fdiv (DE.dv (de_callTy cd_int (by rfl) T.z_int PyProof.Rows.boot_int (da_cons (DE.dv (de_ix (DE.dv (de_v (pv 0))) (DE.dv (de_op opd_add (DE.dv (de_v (pv 1))) (DE.dv de_int))) (fun _ _ => rfl))) da_nil))) (DE.dv de_int))) (DE.dv de_int)))) dc_nil)))))))))
theorem sc_quotient : FnScope ["up", "down", "size"] ["up", "down"] (defScope s_quotient) := ⟨rfl, rfl, rfl, by decide +kernel, rfl, by decide +kernel, by decide +kernel⟩
theorem fn_quotient (T : Tx K mg) : FnD P w K mg base 2 T.f_quotient T.fd_quotient ["up", "down"] F_quotient := fnD_of (N := ["up", "down", "size"]) (k := 1) (g := g_quotient) T.F_quotient sc_quotient fun cdv A outer s H E hr => (show DSs _ _ _ g_quotient from
    (dss_cons (ds_set (i := 2) sc_quotient.nd rfl (by first | exact .inl rfl | exact .inr rfl) (de_cl (fn_divisor T) (hr.mono (by decide)) (by rfl) T.m_divisor T.k_divisor T.b_divisor (takes_of rfl rfl rfl rfl) (dc_cons (de_v (pv 0)) (dc_cons (de_v (pv 1)) dc_nil))))
    (dss_one (ds_ret (de_tup (dc_cons (de_op opd_fdiv (DE.dv (de_v (pv 0))) (DE.dv (de_v (pv 2)))) (dc_cons (de_op opd_fdiv (DE.dv (de_v (pv 1))) (DE.dv (de_v (pv 2)))) dc_nil)))))))
theorem sc_is_quotient : FnScope ["value"] ["value"] (defScope s_is_quotient) := ⟨rfl, rfl, rfl, by decide +kernel, rfl, by decide +kernel, by decide +kernel⟩
theorem fn_is_quotient (T : Tx K mg) : FnD P w K mg base 2 T.f_is_quotient T.fd_is_quotient ["value"] F_is_quotient := fnD_of (N := ["value"]) (k := 1) (g := g_is_quotient) T.F_is_quotient sc_is_quotient fun cdv A outer s H E hr => (show DSs _ _ _ g_is_quotient from
    (dss_cons (ds_if (db_w (dw_or (db_not (db_t (DE.dv (de_isa isa_tuple (by rfl) T.z_isinstance (by rfl) T.z_tuple PyProof.Rows.boot_tuple (DE.dv (de_v (pv 0))))) (fun _ => rfl))) (dw_or (db_c (opd_ne (Deep.of hr)) (DE.dv (de_callB cd_len (by rfl) T.z_len PySem.boot_len (da_cons (DE.dv (de_v (pv 0))) da_nil))) (DE.dv de_int) (nomark _)) (dw_or (db_not (db_t (DE.dv (de_cl (fn_is_integer T) (hr.mono (by decide)) (by rfl) T.m_is_integer T.k_is_integer T.b_is_integer (takes_of rfl rfl rfl rfl) (dc_cons (de_ix (DE.dv (de_v (pv 0))) (DE.dv de_int) (fun _ _ => rfl)) dc_nil))) (fun _ => rfl))) (dw_or1 (db_not (db_t (DE.dv (de_cl (fn_is_integer T) (hr.mono (by decide)) (by rfl) T.m_is_integer T.k_is_integer T.b_is_integer (takes_of rfl rfl rfl rfl) (dc_cons (de_ix (DE.dv (de_v (pv 0))) (DE.dv de_int) (fun _ _ => rfl)) dc_nil))) (fun _ => rfl))))))))
    (dss_one (ds_ret de_bl))
    dss_nil)
    (dss_one (ds_ret (de_and (de_cmp (opd_ge (Deep.of hr)) (DE.dv (de_ix (DE.dv (de_v (pv 0))) (DE.dv de_int) (fun _ _ => rfl))) (DE.dv de_int) (nomark _)) (de_and (de_cmp (opd_gt (Deep.of hr)) (DE.dv (de_ix (DE.dv (de_v (pv 0))) (DE.dv de_int) (fun _ _ => rfl))) (DE.dv de_int) (nomark _)) (de_one (de_cmp (opd_eq (Deep.of hr)) (DE.dv (de_cl (fn_divisor T) (hr.mono (by decide)) (by rfl) T.m_divisor T.k_divisor T.b_divisor (takes_of rfl rfl rfl rfl) (dc_cons (de_ix (DE.dv (de_v (pv 0))) (DE.dv de_int) (fun _ _ => rfl)) (dc_cons (de_ix (DE.dv (de_v (pv 0))) (DE.dv de_int) (fun _ _ => rfl)) dc_nil)))) (DE.dv de_int) (nomark _)))))))))
theorem sc__check : FnScope ["siphon", "low", "high", "coming", "running"] ["siphon"] (defScope s__check) := ⟨rfl, rfl, rfl, by decide +kernel, rfl, by decide +kernel, by decide +kernel⟩
theorem fn__check (T : Tx K mg) : FnD P w K mg base 2 T.f__check T.fd__check ["siphon"] F__check := fnD_of (N := ["siphon", "low", "high", "coming", "running"]) (k := 1) (g := g__check) T.F__check sc__check fun cdv A outer s H E hr => (show DSs _ _ _ g__check from
    (dss_cons (ds_if (db_w (dw_or (db_not (db_t (DE.dv (de_isa isa_tuple (by rfl) T.z_isinstance (by rfl) T.z_tuple PyProof.Rows.boot_tuple (DE.dv (de_v (pv 0))))) (fun _ => rfl))) (dw_or1 (db_c (opd_ne (Deep.of hr)) (DE.dv (de_callB cd_len (by rfl) T.z_len PySem.boot_len (da_cons (DE.dv (de_v (pv 0))) da_nil))) (DE.dv de_int) (nomark _)))))
    (dss_one (ds_raise rfl (takes_of rfl rfl rfl rfl) PySem.F.excBase_ValueError T.x_BadSiphon T.g_BadSiphon T.k_BadSiphon (raises_own T.s_BadSiphon T.t_BadSiphon) (by rfl)))
    dss_nil)
    (dss_cons (ds_asg (de_v (pv 0)) (dg_tup (n := 4) rfl (dgs_cons (dg_name (i := 1) sc__check.nd rfl (by first | exact .inl rfl | exact .inr rfl)) (dgs_cons (dg_name (i := 2) sc__check.nd rfl (by first | exact .inl rfl | exact .inr rfl)) (dgs_cons (dg_name (i := 3) sc__check.nd rfl (by first | exact .inl rfl | exact .inr rfl)) (dgs_cons (dg_name (i := 4) sc__check.nd rfl (by first | exact .inl rfl | exact .inr rfl)) dgs_nil))))))
    (dss_cons (ds_if (db_w (dw_or (db_not (db_t (DE.dv (de_cl (fn_is_whole T) (hr.mono (by decide)) (by rfl) T.m_is_whole T.k_is_whole T.b_is_whole (takes_of rfl rfl rfl rfl) (dc_cons (de_v (pv 1)) (dc_cons de_int (dc_cons (de_mc T.c_MOST_HIGH (by rfl)) dc_nil))))) (fun _ => rfl))) (dw_or (db_not (db_t (DE.dv (de_cl (fn_is_whole T) (hr.mono (by decide)) (by rfl) T.m_is_whole T.k_is_whole T.b_is_whole (takes_of rfl rfl rfl rfl) (dc_cons (de_v (pv 2)) (dc_cons de_int (dc_cons (de_mc T.c_MOST_HIGH (by rfl)) dc_nil))))) (fun _ => rfl))) (dw_or1 (db_c (opd_ge (Deep.of hr)) (DE.dv (de_v (pv 1))) (DE.dv (de_v (pv 2))) (nomark _))))))
    (dss_one (ds_raise rfl (takes_of rfl rfl rfl rfl) PySem.F.excBase_ValueError T.x_BadSiphon T.g_BadSiphon T.k_BadSiphon (raises_own T.s_BadSiphon T.t_BadSiphon) (by rfl)))
    dss_nil)
    (dss_one (ds_if (db_w (dw_or (db_not (db_t (DE.dv (de_cl (fn_is_whole T) (hr.mono (by decide)) (by rfl) T.m_is_whole T.k_is_whole T.b_is_whole (takes_of rfl rfl rfl rfl) (dc_cons (de_v (pv 3)) (dc_cons de_int (dc_cons (de_mc T.c_MOST_RATE (by rfl)) dc_nil))))) (fun _ => rfl))) (dw_or (db_not (db_t (DE.dv (de_cl (fn_is_whole T) (hr.mono (by decide)) (by rfl) T.m_is_whole T.k_is_whole T.b_is_whole (takes_of rfl rfl rfl rfl) (dc_cons (de_v (pv 4)) (dc_cons de_int (dc_cons (de_mc T.c_MOST_RATE (by rfl)) dc_nil))))) (fun _ => rfl))) (dw_or1 (db_c (opd_ge (Deep.of hr)) (DE.dv (de_v (pv 3))) (DE.dv (de_v (pv 4))) (nomark _))))))
    (dss_one (ds_raise rfl (takes_of rfl rfl rfl rfl) PySem.F.excBase_ValueError T.x_BadSiphon T.g_BadSiphon T.k_BadSiphon (raises_own T.s_BadSiphon T.t_BadSiphon) (by rfl)))
    dss_nil))))))
theorem sc__law_plus : FnScope ["one", "other"] ["one", "other"] (defScope s__law_plus) := ⟨rfl, rfl, rfl, by decide +kernel, rfl, by decide +kernel, by decide +kernel⟩
theorem fn__law_plus (T : Tx K mg) : FnD P w K mg base 2 T.f__law_plus T.fd__law_plus ["one", "other"] F__law_plus := fnD_of (N := ["one", "other"]) (k := 1) (g := g__law_plus) T.F__law_plus sc__law_plus fun cdv A outer s H E hr => (show DSs _ _ _ g__law_plus from
    (dss_one (ds_ret (de_cl (fn__law_low T) (hr.mono (by decide)) (by rfl) T.m__law_low T.k__law_low T.b__law_low (takes_of rfl rfl rfl rfl) (dc_cons (de_op opd_add (DE.dv (de_op opd_mul (DE.dv (de_ix (DE.dv (de_v (pv 0))) (DE.dv de_int) (fun _ _ => rfl))) (DE.dv (de_ix (DE.dv (de_v (pv 1))) (DE.dv de_int) (fun _ _ => rfl))))) (DE.dv (de_op opd_mul (DE.dv (de_ix (DE.dv (de_v (pv 1))) (DE.dv de_int) (fun _ _ => rfl))) (DE.dv (de_ix (DE.dv (de_v (pv 0))) (DE.dv de_int) (fun _ _ => rfl)))))) (dc_cons (de_op opd_mul (DE.dv (de_ix (DE.dv (de_v (pv 0))) (DE.dv de_int) (fun _ _ => rfl))) (DE.dv (de_ix (DE.dv (de_v (pv 1))) (DE.dv de_int) (fun _ _ => rfl)))) dc_nil))))))
theorem sc__law_times : FnScope ["one", "number"] ["one", "number"] (defScope s__law_times) := ⟨rfl, rfl, rfl, by decide +kernel, rfl, by decide +kernel, by decide +kernel⟩
theorem fn__law_times (T : Tx K mg) : FnD P w K mg base 2 T.f__law_times T.fd__law_times ["one", "number"] F__law_times := fnD_of (N := ["one", "number"]) (k := 1) (g := g__law_times) T.F__law_times sc__law_times fun cdv A outer s H E hr => (show DSs _ _ _ g__law_times from
    (dss_one (ds_ret (de_if (db_c (opd_ne (Deep.of hr)) (DE.dv (de_v (pv 1))) (DE.dv de_int) (nomark _)) (de_cl (fn__law_low T) (hr.mono (by decide)) (by rfl) T.m__law_low T.k__law_low T.b__law_low (takes_of rfl rfl rfl rfl) (dc_cons (de_op opd_mul (DE.dv (de_ix (DE.dv (de_v (pv 0))) (DE.dv de_int) (fun _ _ => rfl))) (DE.dv (de_v (pv 1)))) (dc_cons (de_ix (DE.dv (de_v (pv 0))) (DE.dv de_int) (fun _ _ => rfl)) dc_nil))) (de_tup (dc_cons de_int (dc_cons de_int dc_nil)))))))
theorem sc__law_rounds : FnScope ["siphon", "low", "high", "coming", "running"] ["siphon"] (defScope s__law_rounds) := ⟨rfl, rfl, rfl, by decide +kernel, rfl, by decide +kernel, by decide +kernel⟩
theorem fn__law_rounds (T : Tx K mg) : FnD P w K mg base 2 T.f__law_rounds T.fd__law_rounds ["siphon"] F__law_rounds := fnD_of (N := ["siphon", "low", "high", "coming", "running"]) (k := 1) (g := g__law_rounds) T.F__law_rounds sc__law_rounds fun cdv A outer s H E hr => (show DSs _ _ _ g__law_rounds from
    (dss_cons (ds_asg (de_v (pv 0)) (dg_tup (n := 4) rfl (dgs_cons (dg_name (i := 1) sc__law_rounds.nd rfl (by first | exact .inl rfl | exact .inr rfl)) (dgs_cons (dg_name (i := 2) sc__law_rounds.nd rfl (by first | exact .inl rfl | exact .inr rfl)) (dgs_cons (dg_name (i := 3) sc__law_rounds.nd rfl (by first | exact .inl rfl | exact .inr rfl)) (dgs_cons (dg_name (i := 4) sc__law_rounds.nd rfl (by first | exact .inl rfl | exact .inr rfl)) dgs_nil))))))
    (dss_one (ds_ret (de_tup (dc_cons (de_cl (fn__law_low T) (hr.mono (by decide)) (by rfl) T.m__law_low T.k__law_low T.b__law_low (takes_of rfl rfl rfl rfl) (dc_cons (de_op opd_sub (DE.dv (de_v (pv 2))) (DE.dv (de_v (pv 1)))) (dc_cons (de_v (pv 3)) dc_nil))) (dc_cons (de_cl (fn__law_low T) (hr.mono (by decide)) (by rfl) T.m__law_low T.k__law_low T.b__law_low (takes_of rfl rfl rfl rfl) (dc_cons (de_op opd_sub (DE.dv (de_v (pv 2))) (DE.dv (de_v (pv 1)))) (dc_cons (de_op opd_sub (DE.dv (de_v (pv 4))) (DE.dv (de_v (pv 3)))) dc_nil))) dc_nil)))))))
theorem sc_plus : FnScope ["one", "other"] ["one", "other"] (defScope s_plus) := ⟨rfl, rfl, rfl, by decide +kernel, rfl, by decide +kernel, by decide +kernel⟩
theorem fn_plus (T : Tx K mg) : FnD P w K mg base 3 T.f_plus T.fd_plus ["one", "other"] F_plus := fnD_of (N := ["one", "other"]) (k := 2) (g := g_plus) T.F_plus sc_plus fun cdv A outer s H E hr => (show DSs _ _ _ g_plus from
    (dss_one (ds_ret (de_cl (fn_quotient T) (hr.mono (by decide)) (by rfl) T.m_quotient T.k_quotient T.b_quotient (takes_of rfl rfl rfl rfl) (dc_cons (de_op opd_add (DE.dv (de_op opd_mul (DE.dv (de_ix (DE.dv (de_v (pv 0))) (DE.dv de_int) (fun _ _ => rfl))) (DE.dv (de_ix (DE.dv (de_v (pv 1))) (DE.dv de_int) (fun _ _ => rfl))))) (DE.dv (de_op opd_mul (DE.dv (de_ix (DE.dv (de_v (pv 1))) (DE.dv de_int) (fun _ _ => rfl))) (DE.dv (de_ix (DE.dv (de_v (pv 0))) (DE.dv de_int) (fun _ _ => rfl)))))) (dc_cons (de_op opd_mul (DE.dv (de_ix (DE.dv (de_v (pv 0))) (DE.dv de_int) (fun _ _ => rfl))) (DE.dv (de_ix (DE.dv (de_v (pv 1))) (DE.dv de_int) (fun _ _ => rfl)))) dc_nil))))))
theorem sc_times : FnScope ["one", "number"] ["one", "number"] (defScope s_times) := ⟨rfl, rfl, rfl, by decide +kernel, rfl, by decide +kernel, by decide +kernel⟩
theorem fn_times (T : Tx K mg) : FnD P w K mg base 3 T.f_times T.fd_times ["one", "number"] F_times := fnD_of (N := ["one", "number"]) (k := 2) (g := g_times) T.F_times sc_times fun cdv A outer s H E hr => (show DSs _ _ _ g_times from
    (dss_one (ds_ret (de_cl (fn_quotient T) (hr.mono (by decide)) (by rfl) T.m_quotient T.k_quotient T.b_quotient (takes_of rfl rfl rfl rfl) (dc_cons (de_op opd_mul (DE.dv (de_ix (DE.dv (de_v (pv 0))) (DE.dv de_int) (fun _ _ => rfl))) (DE.dv (de_v (pv 1)))) (dc_cons (de_ix (DE.dv (de_v (pv 0))) (DE.dv de_int) (fun _ _ => rfl)) dc_nil))))))
theorem sc__rise : FnScope ["siphon"] ["siphon"] (defScope s__rise) := ⟨rfl, rfl, rfl, by decide +kernel, rfl, by decide +kernel, by decide +kernel⟩
theorem fn__rise (T : Tx K mg) : FnD P w K mg base 3 T.f__rise T.fd__rise ["siphon"] F__rise := fnD_of (N := ["siphon"]) (k := 2) (g := g__rise) T.F__rise sc__rise fun cdv A outer s H E hr => (show DSs _ _ _ g__rise from
    (dss_one (ds_ret (de_cl (fn_quotient T) (hr.mono (by decide)) (by rfl) T.m_quotient T.k_quotient T.b_quotient (takes_of rfl rfl rfl rfl) (dc_cons (de_op opd_sub (DE.dv (de_ix (DE.dv (de_v (pv 0))) (DE.dv de_int) (fun _ _ => rfl))) (DE.dv (de_ix (DE.dv (de_v (pv 0))) (DE.dv de_int) (fun _ _ => rfl)))) (dc_cons (de_ix (DE.dv (de_v (pv 0))) (DE.dv de_int) (fun _ _ => rfl)) dc_nil))))))
theorem sc__fall : FnScope ["siphon"] ["siphon"] (defScope s__fall) := ⟨rfl, rfl, rfl, by decide +kernel, rfl, by decide +kernel, by decide +kernel⟩
theorem fn__fall (T : Tx K mg) : FnD P w K mg base 3 T.f__fall T.fd__fall ["siphon"] F__fall := fnD_of (N := ["siphon"]) (k := 2) (g := g__fall) T.F__fall sc__fall fun cdv A outer s H E hr => (show DSs _ _ _ g__fall from
    (dss_one (ds_ret (de_cl (fn_quotient T) (hr.mono (by decide)) (by rfl) T.m_quotient T.k_quotient T.b_quotient (takes_of rfl rfl rfl rfl) (dc_cons (de_op opd_sub (DE.dv (de_ix (DE.dv (de_v (pv 0))) (DE.dv de_int) (fun _ _ => rfl))) (DE.dv (de_ix (DE.dv (de_v (pv 0))) (DE.dv de_int) (fun _ _ => rfl)))) (dc_cons (de_op opd_sub (DE.dv (de_ix (DE.dv (de_v (pv 0))) (DE.dv de_int) (fun _ _ => rfl))) (DE.dv (de_ix (DE.dv (de_v (pv 0))) (DE.dv de_int) (fun _ _ => rfl)))) dc_nil))))))
theorem sc__check_time : FnScope ["siphon", "time"] ["siphon", "time"] (defScope s__check_time) := ⟨rfl, rfl, rfl, by decide +kernel, rfl, by decide +kernel, by decide +kernel⟩
theorem fn__check_time (T : Tx K mg) : FnD P w K mg base 3 T.f__check_time T.fd__check_time ["siphon", "time"] F__check_time := fnD_of (N := ["siphon", "time"]) (k := 2) (g := g__check_time) T.F__check_time sc__check_time fun cdv A outer s H E hr => (show DSs _ _ _ g__check_time from
    (dss_cons (ds_expr (de_cl (fn__check T) (hr.mono (by decide)) (by rfl) T.m__check T.k__check T.b__check (takes_of rfl rfl rfl rfl) (dc_cons (de_v (pv 0)) dc_nil)))
    (dss_one (ds_if (db_w (dw_or (db_not (db_t (DE.dv (de_cl (fn_is_quotient T) (hr.mono (by decide)) (by rfl) T.m_is_quotient T.k_is_quotient T.b_is_quotient (takes_of rfl rfl rfl rfl) (dc_cons (de_v (pv 1)) dc_nil))) (fun _ => rfl))) (dw_or1 (db_t (DE.dv (de_cl (fn_is_less T) (hr.mono (by decide)) (by rfl) T.m_is_less T.k_is_less T.b_is_less (takes_of rfl rfl rfl rfl) (dc_cons (de_tup (dc_cons (de_mc T.c_MOST_TIME (by rfl)) (dc_cons de_int dc_nil))) (dc_cons (de_v (pv 1)) dc_nil)))) (fun _ => rfl)))))
    (dss_one (ds_raise rfl (takes_of rfl rfl rfl rfl) PySem.F.excBase_ValueError T.x_BadTime T.g_BadTime T.k_BadTime (raises_own T.s_BadTime T.t_BadTime) (by rfl)))
    dss_nil))))
theorem sc__law_minus : FnScope ["one", "other"] ["one", "other"] (defScope s__law_minus) := ⟨rfl, rfl, rfl, by decide +kernel, rfl, by decide +kernel, by decide +kernel⟩
theorem fn__law_minus (T : Tx K mg) : FnD P w K mg base 3 T.f__law_minus T.fd__law_minus ["one", "other"] F__law_minus := fnD_of (N := ["one", "other"]) (k := 2) (g := g__law_minus) T.F__law_minus sc__law_minus fun cdv A outer s H E hr => (show DSs _ _ _ g__law_minus from
    (dss_one (ds_ret (de_cl (fn__law_plus T) (hr.mono (by decide)) (by rfl) T.m__law_plus T.k__law_plus T.b__law_plus (takes_of rfl rfl rfl rfl) (dc_cons (de_v (pv 0)) (dc_cons (de_tup (dc_cons (de_op opd_sub (DE.dv de_int) (DE.dv (de_ix (DE.dv (de_v (pv 1))) (DE.dv de_int) (fun _ _ => rfl)))) (dc_cons (de_ix (DE.dv (de_v (pv 1))) (DE.dv de_int) (fun _ _ => rfl)) dc_nil))) dc_nil))))))
theorem sc_minus : FnScope ["one", "other"] ["one", "other"] (defScope s_minus) := ⟨rfl, rfl, rfl, by decide +kernel, rfl, by decide +kernel, by decide +kernel⟩
theorem fn_minus (T : Tx K mg) : FnD P w K mg base 4 T.f_minus T.fd_minus ["one", "other"] F_minus := fnD_of (N := ["one", "other"]) (k := 3) (g := g_minus) T.F_minus sc_minus fun cdv A outer s H E hr => (show DSs _ _ _ g_minus from
    (dss_one (ds_ret (de_cl (fn_plus T) (hr.mono (by decide)) (by rfl) T.m_plus T.k_plus T.b_plus (takes_of rfl rfl rfl rfl) (dc_cons (de_v (pv 0)) (dc_cons (de_cl (fn_times T) (hr.mono (by decide)) (by rfl) T.m_times T.k_times T.b_times (takes_of rfl rfl rfl rfl) (dc_cons (de_v (pv 1)) (dc_cons (de_un und_neg de_int) dc_nil))) dc_nil))))))
theorem sc__again : FnScope ["siphon"] ["siphon"] (defScope s__again) := ⟨rfl, rfl, rfl, by decide +kernel, rfl, by decide +kernel, by decide +kernel⟩
theorem fn__again (T : Tx K mg) : FnD P w K mg base 4 T.f__again T.fd__again ["siphon"] F__again := fnD_of (N := ["siphon"]) (k := 3) (g := g__again) T.F__again sc__again fun cdv A outer s H E hr => (show DSs _ _ _ g__again from
    (dss_one (ds_ret (de_cl (fn_plus T) (hr.mono (by decide)) (by rfl) T.m_plus T.k_plus T.b_plus (takes_of rfl rfl rfl rfl) (dc_cons (de_cl (fn__rise T) (hr.mono (by decide)) (by rfl) T.m__rise T.k__rise T.b__rise (takes_of rfl rfl rfl rfl) (dc_cons (de_v (pv 0)) dc_nil)) (dc_cons (de_cl (fn__fall T) (hr.mono (by decide)) (by rfl) T.m__fall T.k__fall T.b__fall (takes_of rfl rfl rfl rfl) (dc_cons (de_v (pv 0)) dc_nil)) dc_nil))))))
theorem sc__law_at : FnScope ["siphon", "time", "low", "high", "coming", "running", "rise", "fall", "begun", "out", "k"] ["siphon", "time"] (defScope s__law_at) := ⟨rfl, rfl, rfl, by decide +kernel, rfl, by decide +kernel, by decide +kernel⟩
theorem fn__law_at (T : Tx K mg) : FnD P w K mg base 4 T.f__law_at T.fd__law_at ["siphon", "time"] F__law_at := fnD_of (N := ["siphon", "time", "low", "high", "coming", "running", "rise", "fall", "begun", "out", "k"]) (k := 3) (g := g__law_at) T.F__law_at sc__law_at fun cdv A outer s H E hr => (show DSs _ _ _ g__law_at from
    (dss_cons (ds_asg (de_v (pv 0)) (dg_tup (n := 4) rfl (dgs_cons (dg_name (i := 2) sc__law_at.nd rfl (by first | exact .inl rfl | exact .inr rfl)) (dgs_cons (dg_name (i := 3) sc__law_at.nd rfl (by first | exact .inl rfl | exact .inr rfl)) (dgs_cons (dg_name (i := 4) sc__law_at.nd rfl (by first | exact .inl rfl | exact .inr rfl)) (dgs_cons (dg_name (i := 5) sc__law_at.nd rfl (by first | exact .inl rfl | exact .inr rfl)) dgs_nil))))))
    (dss_cons (ds_asg (de_cl (fn__law_rounds T) (hr.mono (by decide)) (by rfl) T.m__law_rounds T.k__law_rounds T.b__law_rounds (takes_of rfl rfl rfl rfl) (dc_cons (de_v (pv 0)) dc_nil)) (dg_tup (n := 2) rfl (dgs_cons (dg_name (i := 6) sc__law_at.nd rfl (by first | exact .inl rfl | exact .inr rfl)) (dgs_cons (dg_name (i := 7) sc__law_at.nd rfl (by first | exact .inl rfl | exact .inr rfl)) dgs_nil))))
    (dss_cons (ds_asg (de_tup (dc_cons de_int (dc_cons (de_tup (dc_cons de_int (dc_cons de_int dc_nil))) dc_nil))) (dg_tup (n := 2) rfl (dgs_cons (dg_name (i := 8) sc__law_at.nd rfl (by first | exact .inl rfl | exact .inr rfl)) (dgs_cons (dg_name (i := 9) sc__law_at.nd rfl (by first | exact .inl rfl | exact .inr rfl)) dgs_nil))))
    (dss_cons (ds_for (passes_of rfl) rfl (di_r1 (by rfl) T.z_range de_int) (dg_name (i := 10) sc__law_at.nd rfl (by first | exact .inl rfl | exact .inr rfl))
    (dss_cons (ds_if (db_t (DE.dv (de_cl (fn__law_less T) (hr.mono (by decide)) (by rfl) T.m__law_less T.k__law_less T.b__law_less (takes_of rfl rfl rfl rfl) (dc_cons (de_v (pv 1)) (dc_cons (de_v (pv 6)) dc_nil)))) (fun _ => rfl))
    (dss_one (ds_ret (de_tup (dc_cons (de_cl (fn__law_plus T) (hr.mono (by decide)) (by rfl) T.m__law_plus T.k__law_plus T.b__law_plus (takes_of rfl rfl rfl rfl) (dc_cons (de_tup (dc_cons (de_v (pv 2)) (dc_cons de_int dc_nil))) (dc_cons (de_cl (fn__law_times T) (hr.mono (by decide)) (by rfl) T.m__law_times T.k__law_times T.b__law_times (takes_of rfl rfl rfl rfl) (dc_cons (de_v (pv 1)) (dc_cons (de_v (pv 4)) dc_nil))) dc_nil))) (dc_cons (de_v (pv 8)) (dc_cons (de_v (pv 9)) dc_nil))))))
    dss_nil)
    (dss_cons (ds_par (i := 1) (j := 8) rfl sc__law_at.nd rfl rfl (by decide) rfl rfl (de_cl (fn__law_minus T) (hr.mono (by decide)) (by rfl) T.m__law_minus T.k__law_minus T.b__law_minus (takes_of rfl rfl rfl rfl) (dc_cons (de_v (pv 1)) (dc_cons (de_v (pv 6)) dc_nil))) (de_op opd_add (DE.dv (de_v (pv 8))) (DE.dv de_int)) (by rfl))
    (dss_cons (ds_if (db_t (DE.dv (de_cl (fn__law_less T) (hr.mono (by decide)) (by rfl) T.m__law_less T.k__law_less T.b__law_less (takes_of rfl rfl rfl rfl) (dc_cons (de_v (pv 1)) (dc_cons (de_v (pv 7)) dc_nil)))) (fun _ => rfl))
    (dss_one (ds_ret (de_tup (dc_cons (de_cl (fn__law_minus T) (hr.mono (by decide)) (by rfl) T.m__law_minus T.k__law_minus T.b__law_minus (takes_of rfl rfl rfl rfl) (dc_cons (de_tup (dc_cons (de_v (pv 3)) (dc_cons de_int dc_nil))) (dc_cons (de_cl (fn__law_times T) (hr.mono (by decide)) (by rfl) T.m__law_times T.k__law_times T.b__law_times (takes_of rfl rfl rfl rfl) (dc_cons (de_v (pv 1)) (dc_cons (de_op opd_sub (DE.dv (de_v (pv 5))) (DE.dv (de_v (pv 4)))) dc_nil))) dc_nil))) (dc_cons (de_v (pv 8)) (dc_cons (de_cl (fn__law_plus T) (hr.mono (by decide)) (by rfl) T.m__law_plus T.k__law_plus T.b__law_plus (takes_of rfl rfl rfl rfl) (dc_cons (de_v (pv 9)) (dc_cons (de_cl (fn__law_times T) (hr.mono (by decide)) (by rfl) T.m__law_times T.k__law_times T.b__law_times (takes_of rfl rfl rfl rfl) (dc_cons (de_v (pv 1)) (dc_cons (de_v (pv 5)) dc_nil))) dc_nil))) dc_nil))))))
    dss_nil)
    (dss_one (ds_par (i := 1) (j := 9) rfl sc__law_at.nd rfl rfl (by decide) rfl rfl (de_cl (fn__law_minus T) (hr.mono (by decide)) (by rfl) T.m__law_minus T.k__law_minus T.b__law_minus (takes_of rfl rfl rfl rfl) (dc_cons (de_v (pv 1)) (dc_cons (de_v (pv 7)) dc_nil))) (de_cl (fn__law_plus T) (hr.mono (by decide)) (by rfl) T.m__law_plus T.k__law_plus T.b__law_plus (takes_of rfl rfl rfl rfl) (dc_cons (de_v (pv 9)) (dc_cons (de_cl (fn__law_times T) (hr.mono (by decide)) (by rfl) T.m__law_times T.k__law_times T.b__law_times (takes_of rfl rfl rfl rfl) (dc_cons (de_v (pv 7)) (dc_cons (de_v (pv 5)) dc_nil))) dc_nil))) (by rfl)))))))
    (dss_one (ds_ret de_non)))))))
theorem sc_siphon_again : FnScope ["siphon"] ["siphon"] (defScope s_siphon_again) := ⟨rfl, rfl, rfl, by decide +kernel, rfl, by decide +kernel, by decide +kernel⟩
theorem fn_siphon_again (T : Tx K mg) : FnD P w K mg base 5 T.f_siphon_again T.fd_siphon_again ["siphon"] F_siphon_again := fnD_of (N := ["siphon"]) (k := 4) (g := g_siphon_again) T.F_siphon_again sc_siphon_again fun cdv A outer s H E hr => (show DSs _ _ _ g_siphon_again from
    (dss_cons (ds_expr (de_cl (fn__check T) (hr.mono (by decide)) (by rfl) T.m__check T.k__check T.b__check (takes_of rfl rfl rfl rfl) (dc_cons (de_v (pv 0)) dc_nil)))
    (dss_one (ds_ret (de_cl (fn__again T) (hr.mono (by decide)) (by rfl) T.m__again T.k__again T.b__again (takes_of rfl rfl rfl rfl) (dc_cons (de_v (pv 0)) dc_nil))))))
theorem sc__rounds : FnScope ["siphon", "time", "again", "many"] ["siphon", "time"] (defScope s__rounds) := ⟨rfl, rfl, rfl, by decide +kernel, rfl, by decide +kernel, by decide +kernel⟩
theorem fn__rounds (T : Tx K mg) : FnD P w K mg base 5 T.f__rounds T.fd__rounds ["siphon", "time"] F__rounds := fnD_of (N := ["siphon", "time", "again", "many"]) (k := 4) (g := g__rounds) T.F__rounds sc__rounds fun cdv A outer s H E hr => (show DSs _ _ _ g__rounds from
    (dss_cons (ds_set (i := 2) sc__rounds.nd rfl (by first | exact .inl rfl | exact .inr rfl) (de_cl (fn__again T) (hr.mono (by decide)) (by rfl) T.m__again T.k__again T.b__again (takes_of rfl rfl rfl rfl) (dc_cons (de_v (pv 0)) dc_nil)))
    (dss_cons (ds_set (i := 3) sc__rounds.nd rfl (by first | exact .inl rfl | exact .inr rfl) (de_op opd_fdiv (DE.dv (de_op opd_mul (DE.dv (de_ix (DE.dv (de_v (pv 1))) (DE.dv de_int) (fun _ _ => rfl))) (DE.dv (de_ix (DE.dv (de_v (pv 2))) (DE.dv de_int) (fun _ _ => rfl))))) (DE.dv (de_op opd_mul (DE.dv (de_ix (DE.dv (de_v (pv 1))) (DE.dv de_int) (fun _ _ => rfl))) (DE.dv (de_ix (DE.dv (de_v (pv 2))) (DE.dv de_int) (fun _ _ => rfl)))))))
    (dss_one (ds_ret (de_tup (dc_cons (de_v (pv 3)) (dc_cons (de_cl (fn_minus T) (hr.mono (by decide)) (by rfl) T.m_minus T.k_minus T.b_minus (takes_of rfl rfl rfl rfl) (dc_cons (de_v (pv 1)) (dc_cons (de_cl (fn_times T) (hr.mono (by decide)) (by rfl) T.m_times T.k_times T.b_times (takes_of rfl rfl rfl rfl) (dc_cons (de_v (pv 2)) (dc_cons (de_v (pv 3)) dc_nil))) dc_nil))) dc_nil))))))))
theorem sc_siphon_time : FnScope ["siphon", "many"] ["siphon", "many"] (defScope s_siphon_time) := ⟨rfl, rfl, rfl, by decide +kernel, rfl, by decide +kernel, by decide +kernel⟩
theorem fn_siphon_time (T : Tx K mg) : FnD P w K mg base 5 T.f_siphon_time T.fd_siphon_time ["siphon", "many"] F_siphon_time := fnD_of (N := ["siphon", "many"]) (k := 4) (g := g_siphon_time) T.F_siphon_time sc_siphon_time fun cdv A outer s H E hr => (show DSs _ _ _ g_siphon_time from
    (dss_cons (ds_expr (de_cl (fn__check T) (hr.mono (by decide)) (by rfl) T.m__check T.k__check T.b__check (takes_of rfl rfl rfl rfl) (dc_cons (de_v (pv 0)) dc_nil)))
    (dss_cons (ds_if (db_not (db_t (DE.dv (de_cl (fn_is_whole T) (hr.mono (by decide)) (by rfl) T.m_is_whole T.k_is_whole T.b_is_whole (takes_of rfl rfl rfl rfl) (dc_cons (de_v (pv 1)) (dc_cons de_int (dc_cons (de_mc T.c_MOST_MANY (by rfl)) dc_nil))))) (fun _ => rfl)))
    (dss_one (ds_raise rfl (takes_of rfl rfl rfl rfl) PySem.F.excBase_ValueError T.x_BadMany T.g_BadMany T.k_BadMany (raises_own T.s_BadMany T.t_BadMany) (by rfl)))
    dss_nil)
    (dss_one (ds_ret (de_cl (fn_plus T) (hr.mono (by decide)) (by rfl) T.m_plus T.k_plus T.b_plus (takes_of rfl rfl rfl rfl) (dc_cons (de_cl (fn_times T) (hr.mono (by decide)) (by rfl) T.m_times T.k_times T.b_times (takes_of rfl rfl rfl rfl) (dc_cons (de_cl (fn__again T) (hr.mono (by decide)) (by rfl) T.m__again T.k__again T.b__again (takes_of rfl rfl rfl rfl) (dc_cons (de_v (pv 0)) dc_nil)) (dc_cons (de_op opd_sub (DE.dv (de_v (pv 1))) (DE.dv de_int)) dc_nil))) (dc_cons (de_cl (fn__rise T) (hr.mono (by decide)) (by rfl) T.m__rise T.k__rise T.b__rise (takes_of rfl rfl rfl rfl) (dc_cons (de_v (pv 0)) dc_nil)) dc_nil))))))))
theorem sc_rates_again : FnScope ["low", "high", "time", "found", "coming", "out"] ["low", "high", "time"] (defScope s_rates_again) := ⟨rfl, rfl, rfl, by decide +kernel, rfl, by decide +kernel, by decide +kernel⟩
theorem fn_rates_again (T : Tx K mg) : FnD P w K mg base 5 T.f_rates_again T.fd_rates_again ["low", "high", "time"] F_rates_again := fnD_of (N := ["low", "high", "time", "found", "coming", "out"]) (k := 4) (g := g_rates_again) T.F_rates_again sc_rates_again fun cdv A outer s H E hr => (show DSs _ _ _ g_rates_again from
    (dss_cons (ds_expr (de_cl (fn__check T) (hr.mono (by decide)) (by rfl) T.m__check T.k__check T.b__check (takes_of rfl rfl rfl rfl) (dc_cons (de_tup (dc_cons (de_v (pv 0)) (dc_cons (de_v (pv 1)) (dc_cons de_int (dc_cons (de_mc T.c_MOST_RATE (by rfl)) dc_nil))))) dc_nil)))
    (dss_cons (ds_if (db_w (dw_or (db_not (db_t (DE.dv (de_cl (fn_is_quotient T) (hr.mono (by decide)) (by rfl) T.m_is_quotient T.k_is_quotient T.b_is_quotient (takes_of rfl rfl rfl rfl) (dc_cons (de_v (pv 2)) dc_nil))) (fun _ => rfl))) (dw_or1 (db_t (DE.dv (de_cl (fn_is_less T) (hr.mono (by decide)) (by rfl) T.m_is_less T.k_is_less T.b_is_less (takes_of rfl rfl rfl rfl) (dc_cons (de_tup (dc_cons (de_mc T.c_MOST_TIME (by rfl)) (dc_cons de_int dc_nil))) (dc_cons (de_v (pv 2)) dc_nil)))) (fun _ => rfl)))))
    (dss_one (ds_raise rfl (takes_of rfl rfl rfl rfl) PySem.F.excBase_ValueError T.x_BadTime T.g_BadTime T.k_BadTime (raises_own T.s_BadTime T.t_BadTime) (by rfl)))
    dss_nil)
    (dss_cons (ds_setL (i := 3) sc_rates_again.nd rfl (by first | exact .inl rfl | exact .inr rfl) (df_lst dc_nil))
    (dss_cons (ds_for (passes_of rfl) rfl (di_r2 (by rfl) T.z_range de_int (de_mc T.c_MOST_RATE (by rfl))) (dg_name (i := 4) sc_rates_again.nd rfl (by first | exact .inl rfl | exact .inr rfl))
    (dss_one (ds_for (passes_of rfl) rfl (di_r2 (by rfl) T.z_range (de_op opd_add (DE.dv (de_v (pv 4))) (DE.dv de_int)) (de_op opd_add (DE.dv (de_mc T.c_MOST_RATE (by rfl))) (DE.dv de_int))) (dg_name (i := 5) sc_rates_again.nd rfl (by first | exact .inl rfl | exact .inr rfl))
    (dss_one (ds_if (db_c (opd_eq (Deep.of hr)) (DE.dv (de_cl (fn__again T) (hr.mono (by decide)) (by rfl) T.m__again T.k__again T.b__again (takes_of rfl rfl rfl rfl) (dc_cons (de_tup (dc_cons (de_v (pv 0)) (dc_cons (de_v (pv 1)) (dc_cons (de_v (pv 4)) (dc_cons (de_v (pv 5)) dc_nil))))) dc_nil))) (DE.dv (de_v (pv 2))) (nomark _))
    (dss_one (ds_app (pv 3) (de_tup (dc_cons (de_v (pv 4)) (dc_cons (de_v (pv 5)) dc_nil)))))
    dss_nil)))))
    (dss_one (ds_ret (de_callTy cd_tuple (by rfl) T.z_tuple PyProof.Rows.boot_tuple (da_cons (dv_v (pv 3)) da_nil)))))))))
theorem sc_both_run : FnScope ["siphon", "other", "one", "two", "ratio"] ["siphon", "other"] (defScope s_both_run) := ⟨rfl, rfl, rfl, by decide +kernel, rfl, by decide +kernel, by decide +kernel⟩
theorem fn_both_run (T : Tx K mg) : FnD P w K mg base 5 T.f_both_run T.fd_both_run ["siphon", "other"] F_both_run := fnD_of (N := ["siphon", "other", "one", "two", "ratio"]) (k := 4) (g := g_both_run) T.F_both_run sc_both_run fun cdv A outer s H E hr => (show DSs _ _ _ g_both_run from
    (dss_cons (ds_expr (de_cl (fn__check T) (hr.mono (by decide)) (by rfl) T.m__check T.k__check T.b__check (takes_of rfl rfl rfl rfl) (dc_cons (de_v (pv 0)) dc_nil)))
    (dss_cons (ds_expr (de_cl (fn__check T) (hr.mono (by decide)) (by rfl) T.m__check T.k__check T.b__check (takes_of rfl rfl rfl rfl) (dc_cons (de_v (pv 1)) dc_nil)))
    (dss_cons (ds_par (i := 2) (j := 3) rfl sc_both_run.nd rfl rfl (by decide) rfl rfl (de_cl (fn__again T) (hr.mono (by decide)) (by rfl) T.m__again T.k__again T.b__again (takes_of rfl rfl rfl rfl) (dc_cons (de_v (pv 0)) dc_nil)) (de_cl (fn__again T) (hr.mono (by decide)) (by rfl) T.m__again T.k__again T.b__again (takes_of rfl rfl rfl rfl) (dc_cons (de_v (pv 1)) dc_nil)) (by rfl))
    (dss_cons (ds_set (i := 4) sc_both_run.nd rfl (by first | exact .inl rfl | exact .inr rfl) (de_cl (fn_quotient T) (hr.mono (by decide)) (by rfl) T.m_quotient T.k_quotient T.b_quotient (takes_of rfl rfl rfl rfl) (dc_cons (de_op opd_mul (DE.dv (de_ix (DE.dv (de_v (pv 2))) (DE.dv de_int) (fun _ _ => rfl))) (DE.dv (de_ix (DE.dv (de_v (pv 3))) (DE.dv de_int) (fun _ _ => rfl)))) (dc_cons (de_op opd_mul (DE.dv (de_ix (DE.dv (de_v (pv 2))) (DE.dv de_int) (fun _ _ => rfl))) (DE.dv (de_ix (DE.dv (de_v (pv 3))) (DE.dv de_int) (fun _ _ => rfl)))) dc_nil))))
    (dss_one (ds_ret (de_cl (fn_times T) (hr.mono (by decide)) (by rfl) T.m_times T.k_times T.b_times (takes_of rfl rfl rfl rfl) (dc_cons (de_v (pv 2)) (dc_cons (de_ix (DE.dv (de_v (pv 4))) (DE.dv de_int) (fun _ _ => rfl)) dc_nil))))))))))
theorem sc_siphon_level : FnScope ["siphon", "time", "rest", "rise"] ["siphon", "time"] (defScope s_siphon_level) := ⟨rfl, rfl, rfl, by decide +kernel, rfl, by decide +kernel, by decide +kernel⟩
theorem fn_siphon_level (T : Tx K mg) : FnD P w K mg base 6 T.f_siphon_level T.fd_siphon_level ["siphon", "time"] F_siphon_level := fnD_of (N := ["siphon", "time", "rest", "rise"]) (k := 5) (g := g_siphon_level) T.F_siphon_level sc_siphon_level fun cdv A outer s H E hr => (show DSs _ _ _ g_siphon_level from
    (dss_cons (ds_expr (de_cl (fn__check_time T) (hr.mono (by decide)) (by rfl) T.m__check_time T.k__check_time T.b__check_time (takes_of rfl rfl rfl rfl) (dc_cons (de_v (pv 0)) (dc_cons (de_v (pv 1)) dc_nil))))
    (dss_cons (ds_set (i := 2) sc_siphon_level.nd rfl (by first | exact .inl rfl | exact .inr rfl) (de_ix (DE.dv (de_cl (fn__rounds T) (hr.mono (by decide)) (by rfl) T.m__rounds T.k__rounds T.b__rounds (takes_of rfl rfl rfl rfl) (dc_cons (de_v (pv 0)) (dc_cons (de_v (pv 1)) dc_nil)))) (DE.dv de_int) (fun _ _ => rfl)))
    (dss_cons (ds_set (i := 3) sc_siphon_level.nd rfl (by first | exact .inl rfl | exact .inr rfl) (de_cl (fn__rise T) (hr.mono (by decide)) (by rfl) T.m__rise T.k__rise T.b__rise (takes_of rfl rfl rfl rfl) (dc_cons (de_v (pv 0)) dc_nil)))
    (dss_cons (ds_if (db_not (db_t (DE.dv (de_cl (fn_is_less T) (hr.mono (by decide)) (by rfl) T.m_is_less T.k_is_less T.b_is_less (takes_of rfl rfl rfl rfl) (dc_cons (de_v (pv 3)) (dc_cons (de_v (pv 2)) dc_nil)))) (fun _ => rfl)))
    (dss_one (ds_ret (de_cl (fn_plus T) (hr.mono (by decide)) (by rfl) T.m_plus T.k_plus T.b_plus (takes_of rfl rfl rfl rfl) (dc_cons (de_tup (dc_cons (de_ix (DE.dv (de_v (pv 0))) (DE.dv de_int) (fun _ _ => rfl)) (dc_cons de_int dc_nil))) (dc_cons (de_cl (fn_times T) (hr.mono (by decide)) (by rfl) T.m_times T.k_times T.b_times (takes_of rfl rfl rfl rfl) (dc_cons (de_v (pv 2)) (dc_cons (de_ix (DE.dv (de_v (pv 0))) (DE.dv de_int) (fun _ _ => rfl)) dc_nil))) dc_nil)))))
    dss_nil)
    (dss_one (ds_ret (de_cl (fn_minus T) (hr.mono (by decide)) (by rfl) T.m_minus T.k_minus T.b_minus (takes_of rfl rfl rfl rfl) (dc_cons (de_tup (dc_cons (de_ix (DE.dv (de_v (pv 0))) (DE.dv de_int) (fun _ _ => rfl)) (dc_cons de_int dc_nil))) (dc_cons (de_cl (fn_times T) (hr.mono (by decide)) (by rfl) T.m_times T.k_times T.b_times (takes_of rfl rfl rfl rfl) (dc_cons (de_cl (fn_minus T) (hr.mono (by decide)) (by rfl) T.m_minus T.k_minus T.b_minus (takes_of rfl rfl rfl rfl) (dc_cons (de_v (pv 2)) (dc_cons (de_v (pv 3)) dc_nil))) (dc_cons (de_op opd_sub (DE.dv (de_ix (DE.dv (de_v (pv 0))) (DE.dv de_int) (fun _ _ => rfl))) (DE.dv (de_ix (DE.dv (de_v (pv 0))) (DE.dv de_int) (fun _ _ => rfl)))) dc_nil))) dc_nil))))))))))
theorem sc_siphon_runs : FnScope ["siphon", "time", "many", "rest", "rise", "running", "out"] ["siphon", "time"] (defScope s_siphon_runs) := ⟨rfl, rfl, rfl, by decide +kernel, rfl, by decide +kernel, by decide +kernel⟩
theorem fn_siphon_runs (T : Tx K mg) : FnD P w K mg base 6 T.f_siphon_runs T.fd_siphon_runs ["siphon", "time"] F_siphon_runs := fnD_of (N := ["siphon", "time", "many", "rest", "rise", "running", "out"]) (k := 5) (g := g_siphon_runs) T.F_siphon_runs sc_siphon_runs fun cdv A outer s H E hr => (show DSs _ _ _ g_siphon_runs from
    (dss_cons (ds_expr (de_cl (fn__check_time T) (hr.mono (by decide)) (by rfl) T.m__check_time T.k__check_time T.b__check_time (takes_of rfl rfl rfl rfl) (dc_cons (de_v (pv 0)) (dc_cons (de_v (pv 1)) dc_nil))))
    (dss_cons (ds_asg (de_cl (fn__rounds T) (hr.mono (by decide)) (by rfl) T.m__rounds T.k__rounds T.b__rounds (takes_of rfl rfl rfl rfl) (dc_cons (de_v (pv 0)) (dc_cons (de_v (pv 1)) dc_nil))) (dg_tup (n := 2) rfl (dgs_cons (dg_name (i := 2) sc_siphon_runs.nd rfl (by first | exact .inl rfl | exact .inr rfl)) (dgs_cons (dg_name (i := 3) sc_siphon_runs.nd rfl (by first | exact .inl rfl | exact .inr rfl)) dgs_nil))))
    (dss_cons (ds_set (i := 4) sc_siphon_runs.nd rfl (by first | exact .inl rfl | exact .inr rfl) (de_cl (fn__rise T) (hr.mono (by decide)) (by rfl) T.m__rise T.k__rise T.b__rise (takes_of rfl rfl rfl rfl) (dc_cons (de_v (pv 0)) dc_nil)))
    (dss_cons (ds_set (i := 5) sc_siphon_runs.nd rfl (by first | exact .inl rfl | exact .inr rfl) (de_if (db_t (DE.dv (de_cl (fn_is_less T) (hr.mono (by decide)) (by rfl) T.m_is_less T.k_is_less T.b_is_less (takes_of rfl rfl rfl rfl) (dc_cons (de_v (pv 3)) (dc_cons (de_v (pv 4)) dc_nil)))) (fun _ => rfl)) (de_mc T.c_NOTHING (by rfl)) (de_cl (fn_minus T) (hr.mono (by decide)) (by rfl) T.m_minus T.k_minus T.b_minus (takes_of rfl rfl rfl rfl) (dc_cons (de_v (pv 3)) (dc_cons (de_v (pv 4)) dc_nil)))))
    (dss_cons (ds_set (i := 6) sc_siphon_runs.nd rfl (by first | exact .inl rfl | exact .inr rfl) (de_cl (fn_times T) (hr.mono (by decide)) (by rfl) T.m_times T.k_times T.b_times (takes_of rfl rfl rfl rfl) (dc_cons (de_cl (fn_plus T) (hr.mono (by decide)) (by rfl) T.m_plus T.k_plus T.b_plus (takes_of rfl rfl rfl rfl) (dc_cons (de_cl (fn_times T) (hr.mono (by decide)) (by rfl) T.m_times T.k_times T.b_times (takes_of rfl rfl rfl rfl) (dc_cons (de_cl (fn__fall T) (hr.mono (by decide)) (by rfl) T.m__fall T.k__fall T.b__fall (takes_of rfl rfl rfl rfl) (dc_cons (de_v (pv 0)) dc_nil)) (dc_cons (de_v (pv 2)) dc_nil))) (dc_cons (de_v (pv 5)) dc_nil))) (dc_cons (de_ix (DE.dv (de_v (pv 0))) (DE.dv de_int) (fun _ _ => rfl)) dc_nil))))
    (dss_one (ds_ret (de_tup (dc_cons (de_op opd_add (DE.dv (de_v (pv 2))) (DE.dv (de_if (db_t (DE.dv (de_cl (fn_is_less T) (hr.mono (by decide)) (by rfl) T.m_is_less T.k_is_less T.b_is_less (takes_of rfl rfl rfl rfl) (dc_cons (de_v (pv 3)) (dc_cons (de_v (pv 4)) dc_nil)))) (fun _ => rfl)) de_int de_int))) (dc_cons (de_v (pv 6)) dc_nil)))))))))))
theorem sc__law_word : FnScope ["way", "one", "two", "three"] ["way", "one", "two", "three"] (defScope s__law_word) := ⟨rfl, rfl, rfl, by decide +kernel, rfl, by decide +kernel, by decide +kernel⟩
theorem fn__law_word (T : Tx K mg) : FnD P w K mg base 7 T.f__law_word T.fd__law_word ["way", "one", "two", "three"] F__law_word := fnD_of (N := ["way", "one", "two", "three"]) (k := 6) (g := g__law_word) T.F__law_word sc__law_word fun cdv A outer s H E hr => (show DSs _ _ _ g__law_word from
    (dss_cons (ds_try (cs := excs) rfl rfl (takes_of rfl rfl rfl rfl) T.ap (fun W2 pn xe tk2 po2 => (dss_one (ds_if (db_c (opd_eq (Deep.of hr)) (DE.dv (de_v (pv 0))) (DE.dv de_int) (nomark _))
    (dss_one (ds_expr (de_cl (fn_siphon_again T) (hr.mono (by decide)) (by rfl) T.m_siphon_again T.k_siphon_again T.b_siphon_again tk2 (dc_cons (de_v (pv 1)) dc_nil))))
    (dss_one (ds_if (db_c (opd_eq (Deep.of hr)) (DE.dv (de_v (pv 0))) (DE.dv de_int) (nomark _))
    (dss_one (ds_expr (de_cl (fn_siphon_level T) (hr.mono (by decide)) (by rfl) T.m_siphon_level T.k_siphon_level T.b_siphon_level tk2 (dc_cons (de_v (pv 1)) (dc_cons (de_v (pv 2)) dc_nil)))))
    (dss_one (ds_if (db_c (opd_eq (Deep.of hr)) (DE.dv (de_v (pv 0))) (DE.dv de_int) (nomark _))
    (dss_one (ds_expr (de_cl (fn_siphon_runs T) (hr.mono (by decide)) (by rfl) T.m_siphon_runs T.k_siphon_runs T.b_siphon_runs tk2 (dc_cons (de_v (pv 1)) (dc_cons (de_v (pv 2)) dc_nil)))))
    (dss_one (ds_if (db_c (opd_eq (Deep.of hr)) (DE.dv (de_v (pv 0))) (DE.dv de_int) (nomark _))
    (dss_one (ds_expr (de_cl (fn_siphon_time T) (hr.mono (by decide)) (by rfl) T.m_siphon_time T.k_siphon_time T.b_siphon_time tk2 (dc_cons (de_v (pv 1)) (dc_cons (de_v (pv 2)) dc_nil)))))
    (dss_one (ds_if (db_c (opd_eq (Deep.of hr)) (DE.dv (de_v (pv 0))) (DE.dv de_int) (nomark _))
    (dss_one (ds_expr (de_cl (fn_both_run T) (hr.mono (by decide)) (by rfl) T.m_both_run T.k_both_run T.b_both_run tk2 (dc_cons (de_v (pv 1)) (dc_cons (de_v (pv 2)) dc_nil)))))
    (dss_one (ds_expr (de_cl (fn_rates_again T) (hr.mono (by decide)) (by rfl) T.m_rates_again T.k_rates_again T.b_rates_again tk2 (dc_cons (de_v (pv 1)) (dc_cons (de_v (pv 2)) (dc_cons (de_v (pv 3)) dc_nil)))))))))))))))))
    (.cons (by rfl) T.g_BadSiphon (fun a oe cls d pn => (dss_one (ds_ret de_str))) (.cons (by rfl) T.g_BadTime (fun a oe cls d pn => (dss_one (ds_ret de_str))) (.cons (by rfl) T.g_BadMany (fun a oe cls d pn => (dss_one (ds_ret de_str))) .nil))) (by intro p hp; simp only [List.mem_cons, List.not_mem_nil, or_false] at hp; rcases hp with rfl | rfl | rfl <;> decide +kernel))
    (dss_one (ds_ret de_str))))
theorem sc_law : FnScope ["script", "draws", "turn", "siphon", "other", "low", "high", "coming", "running", "rise", "fall", "again", "n", "time", "level", "begun", "out", "rounds", "far", "many", "told", "own", "both", "steps", "wrongs", "wrong", "wide", "due", "way"] ["script"] (defScope s_law) := ⟨rfl, rfl, rfl, by decide +kernel, rfl, by decide +kernel, by decide +kernel⟩
theorem fn_law (T : Tx K mg) : FnOk P w K mg base (L2.CX P w) 8 T.f_law T.fd_law ["script"] (spLaw K F_law) := fnLaw_of (N := ["script", "draws", "turn", "siphon", "other", "low", "high", "coming", "running", "rise", "fall", "again", "n", "time", "level", "begun", "out", "rounds", "far", "many", "told", "own", "both", "steps", "wrongs", "wrong", "wide", "due", "way"]) (k := 7) (g := g_law) T.F_law sc_law rfl fun cdv A outer s H E hr => (show DSs _ _ _ g_law from
    (dss_cons (ds_set (i := 1) sc_law.nd rfl (by first | exact .inl rfl | exact .inr rfl) (de_dr (fn__law_draws T) (hr.mono (by decide)) (by rfl) T.m__law_draws T.k__law_draws T.b__law_draws (takes_of rfl rfl rfl rfl) (pv 0)))
    (dss_cons (ds_for (passes_of rfl) rfl (di_r1 (by rfl) T.z_range de_int) (dg_name (i := 2) sc_law.nd rfl (by first | exact .inl rfl | exact .inr rfl))
    (dss_cons (ds_asg (de_tup (dc_cons (de_cl (fn__law_siphon T) (hr.mono (by decide)) (by rfl) T.m__law_siphon T.k__law_siphon T.b__law_siphon (takes_of rfl rfl rfl rfl) (dc_cons (de_v (pv 1)) (dc_cons (de_op opd_mul (DE.dv de_int) (DE.dv (de_v (pv 2)))) dc_nil))) (dc_cons (de_cl (fn__law_siphon T) (hr.mono (by decide)) (by rfl) T.m__law_siphon T.k__law_siphon T.b__law_siphon (takes_of rfl rfl rfl rfl) (dc_cons (de_v (pv 1)) (dc_cons (de_op opd_add (DE.dv (de_op opd_mul (DE.dv de_int) (DE.dv (de_v (pv 2))))) (DE.dv de_int)) dc_nil))) dc_nil))) (dg_tup (n := 2) rfl (dgs_cons (dg_name (i := 3) sc_law.nd rfl (by first | exact .inl rfl | exact .inr rfl)) (dgs_cons (dg_name (i := 4) sc_law.nd rfl (by first | exact .inl rfl | exact .inr rfl)) dgs_nil))))
    (dss_cons (ds_asg (de_v (pv 3)) (dg_tup (n := 4) rfl (dgs_cons (dg_name (i := 5) sc_law.nd rfl (by first | exact .inl rfl | exact .inr rfl)) (dgs_cons (dg_name (i := 6) sc_law.nd rfl (by first | exact .inl rfl | exact .inr rfl)) (dgs_cons (dg_name (i := 7) sc_law.nd rfl (by first | exact .inl rfl | exact .inr rfl)) (dgs_cons (dg_name (i := 8) sc_law.nd rfl (by first | exact .inl rfl | exact .inr rfl)) dgs_nil))))))
    (dss_cons (ds_asg (de_cl (fn__law_rounds T) (hr.mono (by decide)) (by rfl) T.m__law_rounds T.k__law_rounds T.b__law_rounds (takes_of rfl rfl rfl rfl) (dc_cons (de_v (pv 3)) dc_nil)) (dg_tup (n := 2) rfl (dgs_cons (dg_name (i := 9) sc_law.nd rfl (by first | exact .inl rfl | exact .inr rfl)) (dgs_cons (dg_name (i := 10) sc_law.nd rfl (by first | exact .inl rfl | exact .inr rfl)) dgs_nil))))
    (dss_cons (ds_set (i := 11) sc_law.nd rfl (by first | exact .inl rfl | exact .inr rfl) (de_cl (fn__law_plus T) (hr.mono (by decide)) (by rfl) T.m__law_plus T.k__law_plus T.b__law_plus (takes_of rfl rfl rfl rfl) (dc_cons (de_v (pv 9)) (dc_cons (de_v (pv 10)) dc_nil))))
    (dss_cons (ds_if (db_c (opd_ne (Deep.of hr)) (DE.dv (de_cl (fn_siphon_again T) (hr.mono (by decide)) (by rfl) T.m_siphon_again T.k_siphon_again T.b_siphon_again (takes_of rfl rfl rfl rfl) (dc_cons (de_v (pv 3)) dc_nil))) (DE.dv (de_v (pv 11))) (nomark _))
    (dss_one (ds_ret de_bl))
    dss_nil)
    (dss_cons (ds_for (passes_of rfl) rfl (di_r1 (by rfl) T.z_range de_int) (dg_name (i := 12) sc_law.nd rfl (by first | exact .inl rfl | exact .inr rfl))
    (dss_cons (ds_set (i := 13) sc_law.nd rfl (by first | exact .inl rfl | exact .inr rfl) (de_ix (DE.dv (DF.de (df_lst (dc_cons (de_tup (dc_cons de_int (dc_cons de_int dc_nil))) (dc_cons (de_v (pv 9)) (dc_cons (de_v (pv 11)) (dc_cons (de_cl (fn__law_low T) (hr.mono (by decide)) (by rfl) T.m__law_low T.k__law_low T.b__law_low (takes_of rfl rfl rfl rfl) (dc_cons (de_op opd_add (DE.dv de_int) (DE.dv (de_op opd_mod (DE.dv (de_callTy cd_int (by rfl) T.z_int PyProof.Rows.boot_int (da_cons (DE.dv (de_ix (DE.dv (de_v (pv 1))) (DE.dv (de_op opd_add (DE.dv de_int) (DE.dv (de_v (pv 2))))) (fun _ _ => rfl))) da_nil))) (DE.dv de_int)))) (dc_cons (de_op opd_add (DE.dv de_int) (DE.dv (de_op opd_mod (DE.dv (de_callTy cd_int (by rfl) T.z_int PyProof.Rows.boot_int (da_cons (DE.dv (de_ix (DE.dv (de_v (pv 1))) (DE.dv (de_op opd_add (DE.dv de_int) (DE.dv (de_v (pv 2))))) (fun _ _ => rfl))) da_nil))) (DE.dv de_int)))) dc_nil))) (dc_cons (de_cl (fn__law_plus T) (hr.mono (by decide)) (by rfl) T.m__law_plus T.k__law_plus T.b__law_plus (takes_of rfl rfl rfl rfl) (dc_cons (de_v (pv 11)) (dc_cons (de_v (pv 9)) dc_nil))) (dc_cons (de_cl (fn__law_low T) (hr.mono (by decide)) (by rfl) T.m__law_low T.k__law_low T.b__law_low (takes_of rfl rfl rfl rfl) (dc_cons (de_op opd_add (DE.dv de_int) (DE.dv (de_op opd_mod (DE.dv (de_callTy cd_int (by rfl) T.z_int PyProof.Rows.boot_int (da_cons (DE.dv (de_ix (DE.dv (de_v (pv 1))) (DE.dv de_int) (fun _ _ => rfl))) da_nil))) (DE.dv de_int)))) (dc_cons de_int dc_nil))) dc_nil))))))))) (DE.dv (de_v (pv 12))) (fun _ _ => rfl)))
    (dss_cons (ds_asg (de_cl (fn__law_at T) (hr.mono (by decide)) (by rfl) T.m__law_at T.k__law_at T.b__law_at (takes_of rfl rfl rfl rfl) (dc_cons (de_v (pv 3)) (dc_cons (de_v (pv 13)) dc_nil))) (dg_tup (n := 3) rfl (dgs_cons (dg_name (i := 14) sc_law.nd rfl (by first | exact .inl rfl | exact .inr rfl)) (dgs_cons (dg_name (i := 15) sc_law.nd rfl (by first | exact .inl rfl | exact .inr rfl)) (dgs_cons (dg_name (i := 16) sc_law.nd rfl (by first | exact .inl rfl | exact .inr rfl)) dgs_nil)))))
    (dss_cons (ds_if (db_w (dw_or (db_c (opd_ne (Deep.of hr)) (DE.dv (de_cl (fn_siphon_level T) (hr.mono (by decide)) (by rfl) T.m_siphon_level T.k_siphon_level T.b_siphon_level (takes_of rfl rfl rfl rfl) (dc_cons (de_v (pv 3)) (dc_cons (de_v (pv 13)) dc_nil)))) (DE.dv (de_v (pv 14))) (nomark _)) (dw_or (db_c (opd_ne (Deep.of hr)) (DE.dv (de_cl (fn_siphon_runs T) (hr.mono (by decide)) (by rfl) T.m_siphon_runs T.k_siphon_runs T.b_siphon_runs (takes_of rfl rfl rfl rfl) (dc_cons (de_v (pv 3)) (dc_cons (de_v (pv 13)) dc_nil)))) (DE.dv (de_tup (dc_cons (de_v (pv 15)) (dc_cons (de_v (pv 16)) dc_nil)))) (nomark _)) (dw_or1 (db_t (DE.dv (de_isa isa_bool (by rfl) T.z_isinstance (by rfl) T.z_bool PyProof.Rows.boot_bool (DE.dv (de_ix (DE.dv (de_cl (fn_siphon_runs T) (hr.mono (by decide)) (by rfl) T.m_siphon_runs T.k_siphon_runs T.b_siphon_runs (takes_of rfl rfl rfl rfl) (dc_cons (de_v (pv 3)) (dc_cons (de_v (pv 13)) dc_nil)))) (DE.dv de_int) (fun _ _ => rfl))))) (fun _ => rfl))))))
    (dss_one (ds_ret de_bl))
    dss_nil)
    (dss_cons (ds_if (db_c (opd_ne (Deep.of hr)) (DE.dv (de_cl (fn__law_plus T) (hr.mono (by decide)) (by rfl) T.m__law_plus T.k__law_plus T.b__law_plus (takes_of rfl rfl rfl rfl) (dc_cons (de_cl (fn__law_minus T) (hr.mono (by decide)) (by rfl) T.m__law_minus T.k__law_minus T.b__law_minus (takes_of rfl rfl rfl rfl) (dc_cons (de_v (pv 14)) (dc_cons (de_tup (dc_cons (de_v (pv 5)) (dc_cons de_int dc_nil))) dc_nil))) (dc_cons (de_v (pv 16)) dc_nil)))) (DE.dv (de_cl (fn__law_times T) (hr.mono (by decide)) (by rfl) T.m__law_times T.k__law_times T.b__law_times (takes_of rfl rfl rfl rfl) (dc_cons (de_v (pv 13)) (dc_cons (de_v (pv 7)) dc_nil)))) (nomark _))
    (dss_one (ds_ret de_bl))
    dss_nil)
    (dss_cons (ds_set (i := 17) sc_law.nd rfl (by first | exact .inl rfl | exact .inr rfl) (de_op opd_add (DE.dv (de_op opd_mul (DE.dv (de_callTy cd_int (by rfl) T.z_int PyProof.Rows.boot_int (da_cons (DE.dv (de_ix (DE.dv (de_v (pv 1))) (DE.dv (de_op opd_add (DE.dv de_int) (DE.dv (de_v (pv 12))))) (fun _ _ => rfl))) da_nil))) (DE.dv de_int))) (DE.dv de_int)))
    (dss_cons (ds_set (i := 18) sc_law.nd rfl (by first | exact .inl rfl | exact .inr rfl) (de_cl (fn__law_plus T) (hr.mono (by decide)) (by rfl) T.m__law_plus T.k__law_plus T.b__law_plus (takes_of rfl rfl rfl rfl) (dc_cons (de_v (pv 13)) (dc_cons (de_cl (fn__law_times T) (hr.mono (by decide)) (by rfl) T.m__law_times T.k__law_times T.b__law_times (takes_of rfl rfl rfl rfl) (dc_cons (de_v (pv 11)) (dc_cons (de_v (pv 17)) dc_nil))) dc_nil))))
    (dss_one (ds_if (db_w (dw_or (db_c (opd_ne (Deep.of hr)) (DE.dv (de_cl (fn_siphon_level T) (hr.mono (by decide)) (by rfl) T.m_siphon_level T.k_siphon_level T.b_siphon_level (takes_of rfl rfl rfl rfl) (dc_cons (de_v (pv 3)) (dc_cons (de_v (pv 18)) dc_nil)))) (DE.dv (de_v (pv 14))) (nomark _)) (dw_or1 (db_c (opd_ne (Deep.of hr)) (DE.dv (de_cl (fn_siphon_runs T) (hr.mono (by decide)) (by rfl) T.m_siphon_runs T.k_siphon_runs T.b_siphon_runs (takes_of rfl rfl rfl rfl) (dc_cons (de_v (pv 3)) (dc_cons (de_v (pv 18)) dc_nil)))) (DE.dv (de_tup (dc_cons (de_op opd_add (DE.dv (de_v (pv 15))) (DE.dv (de_v (pv 17)))) (dc_cons (de_cl (fn__law_plus T) (hr.mono (by decide)) (by rfl) T.m__law_plus T.k__law_plus T.b__law_plus (takes_of rfl rfl rfl rfl) (dc_cons (de_v (pv 16)) (dc_cons (de_cl (fn__law_times T) (hr.mono (by decide)) (by rfl) T.m__law_times T.k__law_times T.b__law_times (takes_of rfl rfl rfl rfl) (dc_cons (de_cl (fn__law_times T) (hr.mono (by decide)) (by rfl) T.m__law_times T.k__law_times T.b__law_times (takes_of rfl rfl rfl rfl) (dc_cons (de_v (pv 10)) (dc_cons (de_v (pv 8)) dc_nil))) (dc_cons (de_v (pv 17)) dc_nil))) dc_nil))) dc_nil)))) (nomark _)))))
    (dss_one (ds_ret de_bl))
    dss_nil)))))))))
    (dss_cons (ds_for (passes_of rfl) rfl (di_seq (DF.de (df_lst (dc_cons de_int (dc_cons de_int (dc_cons de_int (dc_cons (de_op opd_add (DE.dv de_int) (DE.dv (de_callTy cd_int (by rfl) T.z_int PyProof.Rows.boot_int (da_cons (DE.dv (de_ix (DE.dv (de_v (pv 1))) (DE.dv de_int) (fun _ _ => rfl))) da_nil)))) (dc_cons (de_op opd_pow (DE.dv de_int) (DE.dv de_int)) dc_nil)))))))) (dg_name (i := 19) sc_law.nd rfl (by first | exact .inl rfl | exact .inr rfl))
    (dss_cons (ds_set (i := 20) sc_law.nd rfl (by first | exact .inl rfl | exact .inr rfl) (de_cl (fn_siphon_time T) (hr.mono (by decide)) (by rfl) T.m_siphon_time T.k_siphon_time T.b_siphon_time (takes_of rfl rfl rfl rfl) (dc_cons (de_v (pv 3)) (dc_cons (de_v (pv 19)) dc_nil))))
    (dss_one (ds_if (db_w (dw_or (db_c (opd_ne (Deep.of hr)) (DE.dv (de_v (pv 20))) (DE.dv (de_cl (fn__law_plus T) (hr.mono (by decide)) (by rfl) T.m__law_plus T.k__law_plus T.b__law_plus (takes_of rfl rfl rfl rfl) (dc_cons (de_v (pv 9)) (dc_cons (de_cl (fn__law_times T) (hr.mono (by decide)) (by rfl) T.m__law_times T.k__law_times T.b__law_times (takes_of rfl rfl rfl rfl) (dc_cons (de_v (pv 11)) (dc_cons (de_op opd_sub (DE.dv (de_v (pv 19))) (DE.dv de_int)) dc_nil))) dc_nil)))) (nomark _)) (dw_or (db_c (opd_ne (Deep.of hr)) (DE.dv (de_ix (DE.dv (de_cl (fn_siphon_runs T) (hr.mono (by decide)) (by rfl) T.m_siphon_runs T.k_siphon_runs T.b_siphon_runs (takes_of rfl rfl rfl rfl) (dc_cons (de_v (pv 3)) (dc_cons (de_v (pv 20)) dc_nil)))) (DE.dv de_int) (fun _ _ => rfl))) (DE.dv (de_v (pv 19))) (nomark _)) (dw_or1 (db_c (opd_ne (Deep.of hr)) (DE.dv (de_cl (fn_siphon_level T) (hr.mono (by decide)) (by rfl) T.m_siphon_level T.k_siphon_level T.b_siphon_level (takes_of rfl rfl rfl rfl) (dc_cons (de_v (pv 3)) (dc_cons (de_v (pv 20)) dc_nil)))) (DE.dv (de_tup (dc_cons (de_v (pv 6)) (dc_cons de_int dc_nil)))) (nomark _))))))
    (dss_one (ds_ret de_bl))
    dss_nil))))
    (dss_cons (ds_par3 (i := 21) (j := 22) (l := 23) rfl sc_law.nd rfl rfl rfl (by decide) (by decide) (by decide) rfl rfl rfl (de_cl (fn__law_plus T) (hr.mono (by decide)) (by rfl) T.m__law_plus T.k__law_plus T.b__law_plus (takes_of rfl rfl rfl rfl) (dc_cons (de_ix (DE.dv (de_cl (fn__law_rounds T) (hr.mono (by decide)) (by rfl) T.m__law_rounds T.k__law_rounds T.b__law_rounds (takes_of rfl rfl rfl rfl) (dc_cons (de_v (pv 4)) dc_nil))) (DE.dv de_int) (fun _ _ => rfl)) (dc_cons (de_ix (DE.dv (de_cl (fn__law_rounds T) (hr.mono (by decide)) (by rfl) T.m__law_rounds T.k__law_rounds T.b__law_rounds (takes_of rfl rfl rfl rfl) (dc_cons (de_v (pv 4)) dc_nil))) (DE.dv de_int) (fun _ _ => rfl)) dc_nil))) (de_v (pv 11)) de_int (by rfl))
    (dss_cons (ds_while fuel (passes_of rfl) (db_c (opd_ne (Deep.of hr)) (DE.dv (de_op opd_mul (DE.dv (de_op opd_mul (DE.dv (de_op opd_fdiv (DE.dv (de_op opd_mul (DE.dv (de_ix (DE.dv (de_v (pv 22))) (DE.dv de_int) (fun _ _ => rfl))) (DE.dv (de_ix (DE.dv (de_v (pv 21))) (DE.dv de_int) (fun _ _ => rfl))))) (DE.dv (de_op opd_mul (DE.dv (de_ix (DE.dv (de_v (pv 22))) (DE.dv de_int) (fun _ _ => rfl))) (DE.dv (de_ix (DE.dv (de_v (pv 21))) (DE.dv de_int) (fun _ _ => rfl))))))) (DE.dv (de_ix (DE.dv (de_v (pv 21))) (DE.dv de_int) (fun _ _ => rfl))))) (DE.dv (de_ix (DE.dv (de_v (pv 22))) (DE.dv de_int) (fun _ _ => rfl))))) (DE.dv (de_op opd_mul (DE.dv (de_ix (DE.dv (de_v (pv 22))) (DE.dv de_int) (fun _ _ => rfl))) (DE.dv (de_ix (DE.dv (de_v (pv 21))) (DE.dv de_int) (fun _ _ => rfl))))) (nomark _))
    (dss_one (ds_par (i := 22) (j := 23) rfl sc_law.nd rfl rfl (by decide) rfl rfl (de_cl (fn__law_plus T) (hr.mono (by decide)) (by rfl) T.m__law_plus T.k__law_plus T.b__law_plus (takes_of rfl rfl rfl rfl) (dc_cons (de_v (pv 22)) (dc_cons (de_v (pv 11)) dc_nil))) (de_op opd_add (DE.dv (de_v (pv 23))) (DE.dv de_int)) (by rfl))))
    (dss_cons (ds_if (db_w (dw_or (db_c (opd_ne (Deep.of hr)) (DE.dv (de_cl (fn_both_run T) (hr.mono (by decide)) (by rfl) T.m_both_run T.k_both_run T.b_both_run (takes_of rfl rfl rfl rfl) (dc_cons (de_v (pv 3)) (dc_cons (de_v (pv 4)) dc_nil)))) (DE.dv (de_v (pv 22))) (nomark _)) (dw_or1 (db_c (opd_ne (Deep.of hr)) (DE.dv (de_cl (fn_both_run T) (hr.mono (by decide)) (by rfl) T.m_both_run T.k_both_run T.b_both_run (takes_of rfl rfl rfl rfl) (dc_cons (de_v (pv 4)) (dc_cons (de_v (pv 3)) dc_nil)))) (DE.dv (de_v (pv 22))) (nomark _)))))
    (dss_one (ds_ret de_bl))
    dss_nil)
    (dss_cons (ds_set (i := 24) sc_law.nd rfl (by first | exact .inl rfl | exact .inr rfl) (DF.de (df_lst (dc_cons de_non (dc_cons (de_tup dc_nil) (dc_cons (DF.de (df_callTy cf_list (by rfl) T.z_list PyProof.Rows.boot_list (da_cons (DE.dv (de_v (pv 3))) da_nil))) (dc_cons (de_sl (DE.dv (de_v (pv 3))) do_n (do_s de_int)) (dc_cons (de_op opd_add (DE.dv (de_v (pv 3))) (DE.dv (de_tup (dc_cons de_int dc_nil)))) (dc_cons (de_tup (dc_cons (de_v (pv 6)) (dc_cons (de_v (pv 5)) (dc_cons (de_v (pv 7)) (dc_cons (de_v (pv 8)) dc_nil))))) (dc_cons (de_tup (dc_cons (de_v (pv 5)) (dc_cons (de_v (pv 5)) (dc_cons de_int (dc_cons de_int dc_nil))))) dc_nil))))))))))
    (dss_cons (ds_for (passes_of rfl) rfl (di_seq (de_op opd_add (DE.dv (de_v (pv 24))) (DE.dv (DF.de (df_lst (dc_cons (de_tup (dc_cons (de_v (pv 5)) (dc_cons (de_v (pv 6)) (dc_cons (de_v (pv 8)) (dc_cons (de_v (pv 7)) dc_nil))))) (dc_cons (de_tup (dc_cons (de_v (pv 5)) (dc_cons (de_v (pv 6)) (dc_cons de_int (dc_cons de_int dc_nil))))) (dc_cons (de_tup (dc_cons (de_v (pv 5)) (dc_cons (de_v (pv 6)) (dc_cons de_int (dc_cons de_int dc_nil))))) (dc_cons (de_tup (dc_cons (de_un und_neg de_int) (dc_cons (de_v (pv 6)) (dc_cons de_int (dc_cons de_int dc_nil))))) (dc_cons (de_tup (dc_cons de_int (dc_cons de_int (dc_cons de_int (dc_cons de_int dc_nil))))) (dc_cons (de_tup (dc_cons de_bl (dc_cons (de_v (pv 6)) (dc_cons de_int (dc_cons de_int dc_nil))))) dc_nil))))))))))) (dg_name (i := 25) sc_law.nd rfl (by first | exact .inl rfl | exact .inr rfl))
    (dss_one (ds_if (db_c (opd_ne (Deep.of hr)) (DE.dv (de_op opd_add (DE.dv (DF.de (df_lc (own := [("way", 28)]) (vs := [28]) rfl sc_law.nd (di_r1 (by rfl) T.z_range de_int) (blkOk_by (by kernel_rfl)) (by decide) (fun _ _ _ _ _ => (dg_name (i := 28) sc_law.nd rfl (by first | exact .inl rfl | exact .inr rfl))) (fun _ _ _ _ _ => dt_nil) (fun _ _ _ _ _ => (de_cl (fn__law_word T) (hr.mono (by decide)) (by rfl) T.m__law_word T.k__law_word T.b__law_word takesW0 (dc_cons (de_v (pv 28)) (dc_cons (de_v (pv 25)) (dc_cons de_non (dc_cons de_non dc_nil))))))))) (DE.dv (DF.de (df_lst (dc_cons (de_cl (fn__law_word T) (hr.mono (by decide)) (by rfl) T.m__law_word T.k__law_word T.b__law_word (takes_of rfl rfl rfl rfl) (dc_cons de_int (dc_cons (de_v (pv 3)) (dc_cons (de_v (pv 25)) (dc_cons de_non dc_nil))))) dc_nil)))))) (DE.dv (DF.de (df_repL (df_lst (dc_cons de_str dc_nil)) de_int))) (nomark _))
    (dss_one (ds_ret de_bl))
    dss_nil)))
    (dss_cons (ds_for (passes_of rfl) rfl (di_seq (DF.de (df_lst (dc_cons de_non (dc_cons de_int (dc_cons (de_tup (dc_cons (de_un und_neg de_int) (dc_cons de_int dc_nil))) (dc_cons (de_tup (dc_cons de_int (dc_cons de_int dc_nil))) (dc_cons (de_tup (dc_cons (de_op opd_add (DE.dv (de_op opd_pow (DE.dv de_int) (DE.dv de_int))) (DE.dv de_int)) (dc_cons de_int dc_nil))) (dc_cons (de_tup (dc_cons de_bl (dc_cons de_int dc_nil))) dc_nil))))))))) (dg_name (i := 25) sc_law.nd rfl (by first | exact .inl rfl | exact .inr rfl))
    (dss_one (ds_if (db_c (opd_ne (Deep.of hr)) (DE.dv (de_op opd_add (DE.dv (DF.de (df_lc (own := [("way", 28)]) (vs := [28]) rfl sc_law.nd (di_seq (de_tup (dc_cons de_int (dc_cons de_int dc_nil)))) (blkOk_by (by kernel_rfl)) (by decide) (fun _ _ _ _ _ => (dg_name (i := 28) sc_law.nd rfl (by first | exact .inl rfl | exact .inr rfl))) (fun _ _ _ _ _ => dt_nil) (fun _ _ _ _ _ => (de_cl (fn__law_word T) (hr.mono (by decide)) (by rfl) T.m__law_word T.k__law_word T.b__law_word takesW0 (dc_cons (de_v (pv 28)) (dc_cons (de_v (pv 3)) (dc_cons (de_v (pv 25)) (dc_cons de_non dc_nil))))))))) (DE.dv (DF.de (df_lst (dc_cons (de_cl (fn__law_word T) (hr.mono (by decide)) (by rfl) T.m__law_word T.k__law_word T.b__law_word (takes_of rfl rfl rfl rfl) (dc_cons de_int (dc_cons (de_v (pv 5)) (dc_cons (de_v (pv 6)) (dc_cons (de_v (pv 25)) dc_nil))))) dc_nil)))))) (DE.dv (DF.de (df_repL (df_lst (dc_cons de_str dc_nil)) de_int))) (nomark _))
    (dss_one (ds_ret de_bl))
    dss_nil)))
    (dss_cons (ds_if (db_c (opd_ne (Deep.of hr)) (DE.dv (DF.de (df_lc (own := [("wrong", 25)]) (vs := [25]) rfl sc_law.nd (di_seq (DF.de (df_lst (dc_cons de_non (dc_cons de_int (dc_cons (de_op opd_add (DE.dv (de_op opd_pow (DE.dv de_int) (DE.dv de_int))) (DE.dv de_int)) (dc_cons de_bl dc_nil))))))) (blkOk_by (by kernel_rfl)) (by decide) (fun _ _ _ _ _ => (dg_name (i := 25) sc_law.nd rfl (by first | exact .inl rfl | exact .inr rfl))) (fun _ _ _ _ _ => dt_nil) (fun _ _ _ _ _ => (de_cl (fn__law_word T) (hr.mono (by decide)) (by rfl) T.m__law_word T.k__law_word T.b__law_word takesW0 (dc_cons de_int (dc_cons (de_v (pv 3)) (dc_cons (de_v (pv 25)) (dc_cons de_non dc_nil))))))))) (DE.dv (DF.de (df_repL (df_lst (dc_cons de_str dc_nil)) de_int))) (nomark _))
    (dss_one (ds_ret de_bl))
    dss_nil)
    (dss_one (ds_if (db_c (opd_ne (Deep.of hr)) (DE.dv (DF.de (df_lst (dc_cons (de_cl (fn__law_word T) (hr.mono (by decide)) (by rfl) T.m__law_word T.k__law_word T.b__law_word (takes_of rfl rfl rfl rfl) (dc_cons de_int (dc_cons (de_v (pv 6)) (dc_cons (de_v (pv 5)) (dc_cons de_non dc_nil))))) (dc_cons (de_cl (fn__law_word T) (hr.mono (by decide)) (by rfl) T.m__law_word T.k__law_word T.b__law_word (takes_of rfl rfl rfl rfl) (dc_cons de_int (dc_cons de_non (dc_cons (de_v (pv 6)) (dc_cons de_non dc_nil))))) (dc_cons (de_cl (fn__law_word T) (hr.mono (by decide)) (by rfl) T.m__law_word T.k__law_word T.b__law_word (takes_of rfl rfl rfl rfl) (dc_cons de_int (dc_cons (de_v (pv 5)) (dc_cons de_int (dc_cons de_non dc_nil))))) dc_nil)))))) (DE.dv (DF.de (df_repL (df_lst (dc_cons de_str dc_nil)) de_int))) (nomark _))
    (dss_one (ds_ret de_bl))
    dss_nil)))))))))))))))))
    (dss_cons (ds_asg (de_tup (dc_cons (de_op opd_add (DE.dv de_int) (DE.dv (de_op opd_mod (DE.dv (de_callTy cd_int (by rfl) T.z_int PyProof.Rows.boot_int (da_cons (DE.dv (de_ix (DE.dv (de_v (pv 1))) (DE.dv de_int) (fun _ _ => rfl))) da_nil))) (DE.dv de_int)))) (dc_cons (de_cl (fn__law_low T) (hr.mono (by decide)) (by rfl) T.m__law_low T.k__law_low T.b__law_low (takes_of rfl rfl rfl rfl) (dc_cons (de_op opd_add (DE.dv de_int) (DE.dv (de_op opd_mod (DE.dv (de_callTy cd_int (by rfl) T.z_int PyProof.Rows.boot_int (da_cons (DE.dv (de_ix (DE.dv (de_v (pv 1))) (DE.dv de_int) (fun _ _ => rfl))) da_nil))) (DE.dv de_int)))) (dc_cons (de_op opd_add (DE.dv de_int) (DE.dv (de_op opd_mod (DE.dv (de_callTy cd_int (by rfl) T.z_int PyProof.Rows.boot_int (da_cons (DE.dv (de_ix (DE.dv (de_v (pv 1))) (DE.dv de_int) (fun _ _ => rfl))) da_nil))) (DE.dv de_int)))) dc_nil))) dc_nil))) (dg_tup (n := 2) rfl (dgs_cons (dg_name (i := 26) sc_law.nd rfl (by first | exact .inl rfl | exact .inr rfl)) (dgs_cons (dg_name (i := 13) sc_law.nd rfl (by first | exact .inl rfl | exact .inr rfl)) dgs_nil))))
    (dss_cons (ds_set (i := 27) sc_law.nd rfl (by first | exact .inl rfl | exact .inr rfl) (DF.de (df_lst dc_nil)))
    (dss_cons (ds_for (passes_of rfl) rfl (di_r2 (by rfl) T.z_range de_int de_int) (dg_name (i := 7) sc_law.nd rfl (by first | exact .inl rfl | exact .inr rfl))
    (dss_one (ds_set (i := 27) sc_law.nd rfl (by first | exact .inl rfl | exact .inr rfl) (de_op opd_add (DE.dv (de_v (pv 27))) (DE.dv (DF.de (df_lc (own := [("out", 16)]) (vs := [16]) rfl sc_law.nd (di_r2 (by rfl) T.z_range (de_op opd_add (DE.dv (de_v (pv 7))) (DE.dv de_int)) de_int) (blkOk_by (by kernel_rfl)) (by decide) (fun _ _ _ _ _ => (dg_name (i := 16) sc_law.nd rfl (by first | exact .inl rfl | exact .inr rfl))) (fun _ _ _ _ _ => (dt_one (db_c (opd_eq (Deep.of hr)) (DE.dv (de_op opd_mul (DE.dv (de_op opd_mul (DE.dv (de_v (pv 26))) (DE.dv (de_v (pv 16))))) (DE.dv (de_ix (DE.dv (de_v (pv 13))) (DE.dv de_int) (fun _ _ => rfl))))) (DE.dv (de_op opd_mul (DE.dv (de_op opd_mul (DE.dv (de_v (pv 7))) (DE.dv (de_op opd_sub (DE.dv (de_v (pv 16))) (DE.dv (de_v (pv 7))))))) (DE.dv (de_ix (DE.dv (de_v (pv 13))) (DE.dv de_int) (fun _ _ => rfl))))) (nomark _)))) (fun _ _ _ _ _ => (de_tup (dc_cons (de_v (pv 7)) (dc_cons (de_v (pv 16)) dc_nil)))))))))))
    (dss_cons (ds_if (db_c (opd_ne (Deep.of hr)) (DE.dv (de_cl (fn_rates_again T) (hr.mono (by decide)) (by rfl) T.m_rates_again T.k_rates_again T.b_rates_again (takes_of rfl rfl rfl rfl) (dc_cons de_int (dc_cons (de_op opd_add (DE.dv de_int) (DE.dv (de_v (pv 26)))) (dc_cons (de_v (pv 13)) dc_nil))))) (DE.dv (de_callTy cd_tuple (by rfl) T.z_tuple PyProof.Rows.boot_tuple (da_cons (DE.dv (de_v (pv 27))) da_nil))) (nomark _))
    (dss_one (ds_ret de_bl))
    dss_nil)
    (dss_cons (ds_set (i := 3) sc_law.nd rfl (by first | exact .inl rfl | exact .inr rfl) (de_tup (dc_cons de_int (dc_cons de_int (dc_cons de_int (dc_cons de_int dc_nil))))))
    (dss_cons (ds_if (db_w (dw_or (db_c (opd_ne (Deep.of hr)) (DE.dv (de_cl (fn_siphon_again T) (hr.mono (by decide)) (by rfl) T.m_siphon_again T.k_siphon_again T.b_siphon_again (takes_of rfl rfl rfl rfl) (dc_cons (de_v (pv 3)) dc_nil))) (DE.dv (de_tup (dc_cons de_int (dc_cons de_int dc_nil)))) (nomark _)) (dw_or1 (db_c (opd_ne (Deep.of hr)) (DE.dv (de_cl (fn_siphon_level T) (hr.mono (by decide)) (by rfl) T.m_siphon_level T.k_siphon_level T.b_siphon_level (takes_of rfl rfl rfl rfl) (dc_cons (de_v (pv 3)) (dc_cons (de_tup (dc_cons de_int (dc_cons de_int dc_nil))) dc_nil)))) (DE.dv (de_tup (dc_cons de_int (dc_cons de_int dc_nil)))) (nomark _)))))
    (dss_one (ds_ret de_bl))
    dss_nil)
    (dss_one (ds_ret (de_and (de_cmp (opd_eq (Deep.of hr)) (DE.dv (de_cl (fn_siphon_runs T) (hr.mono (by decide)) (by rfl) T.m_siphon_runs T.k_siphon_runs T.b_siphon_runs (takes_of rfl rfl rfl rfl) (dc_cons (de_v (pv 3)) (dc_cons (de_tup (dc_cons de_int (dc_cons de_int dc_nil))) dc_nil)))) (DE.dv (de_tup (dc_cons de_int (dc_cons (de_tup (dc_cons de_int (dc_cons de_int dc_nil))) dc_nil)))) (nomark _)) (de_and (de_cmp (opd_eq (Deep.of hr)) (DE.dv (de_cl (fn_both_run T) (hr.mono (by decide)) (by rfl) T.m_both_run T.k_both_run T.b_both_run (takes_of rfl rfl rfl rfl) (dc_cons (de_v (pv 3)) (dc_cons (de_tup (dc_cons de_int (dc_cons de_int (dc_cons de_int (dc_cons de_int dc_nil))))) dc_nil)))) (DE.dv (de_tup (dc_cons de_int (dc_cons de_int dc_nil)))) (nomark _)) (de_one (de_cmp (opd_eq (Deep.of hr)) (DE.dv (de_cl (fn_siphon_time T) (hr.mono (by decide)) (by rfl) T.m_siphon_time T.k_siphon_time T.b_siphon_time (takes_of rfl rfl rfl rfl) (dc_cons (de_v (pv 3)) (dc_cons (de_op opd_pow (DE.dv de_int) (DE.dv de_int)) dc_nil)))) (DE.dv (de_tup (dc_cons (de_op opd_sub (DE.dv (de_op opd_mul (DE.dv de_int) (DE.dv (de_op opd_pow (DE.dv de_int) (DE.dv de_int))))) (DE.dv de_int)) (dc_cons de_int dc_nil)))) (nomark _))))))))))))))))
end
end K95
namespace K95
open PySem PySem.Spec PyProof.Rows L2 DL
theorem all_mk {l : PySem.W.OpenLaw} {w : World} {K : PySem.W.Frag} {h : Heap} {mg : Str → Option Value} {fa : Addr} (X : K.In h) (G : h.Ns mainGlobals mg) (hfa : mg "law" = some (.ref fa))
    {f_is_whole : Addr} {od_is_whole an_is_whole : Option Addr} {sl_is_whole : Array (Option Value)} {oc_is_whole kV_is_whole dc_is_whole pm_is_whole cd_is_whole ct_is_whole : Value}
    {f_divisor : Addr} {od_divisor an_divisor : Option Addr} {sl_divisor : Array (Option Value)} {oc_divisor kV_divisor dc_divisor pm_divisor cd_divisor ct_divisor : Value}
    {f_is_less : Addr} {od_is_less an_is_less : Option Addr} {sl_is_less : Array (Option Value)} {oc_is_less kV_is_less dc_is_less pm_is_less cd_is_less ct_is_less : Value}
    {f_is_integer : Addr} {od_is_integer an_is_integer : Option Addr} {sl_is_integer : Array (Option Value)} {oc_is_integer kV_is_integer dc_is_integer pm_is_integer cd_is_integer ct_is_integer : Value}
    {f__law_draws : Addr} {od__law_draws an__law_draws : Option Addr} {sl__law_draws : Array (Option Value)} {oc__law_draws kV__law_draws dc__law_draws pm__law_draws cd__law_draws ct__law_draws : Value}
    {f__law_low : Addr} {od__law_low an__law_low : Option Addr} {sl__law_low : Array (Option Value)} {oc__law_low kV__law_low dc__law_low pm__law_low cd__law_low ct__law_low : Value}
    {f__law_less : Addr} {od__law_less an__law_less : Option Addr} {sl__law_less : Array (Option Value)} {oc__law_less kV__law_less dc__law_less pm__law_less cd__law_less ct__law_less : Value}
    {f__law_siphon : Addr} {od__law_siphon an__law_siphon : Option Addr} {sl__law_siphon : Array (Option Value)} {oc__law_siphon kV__law_siphon dc__law_siphon pm__law_siphon cd__law_siphon ct__law_siphon : Value}
    {f_quotient : Addr} {od_quotient an_quotient : Option Addr} {sl_quotient : Array (Option Value)} {oc_quotient kV_quotient dc_quotient pm_quotient cd_quotient ct_quotient : Value}
    {f_is_quotient : Addr} {od_is_quotient an_is_quotient : Option Addr} {sl_is_quotient : Array (Option Value)} {oc_is_quotient kV_is_quotient dc_is_quotient pm_is_quotient cd_is_quotient ct_is_quotient : Value}
    {f__check : Addr} {od__check an__check : Option Addr} {sl__check : Array (Option Value)} {oc__check kV__check dc__check pm__check cd__check ct__check : Value}
    {f__law_plus : Addr} {od__law_plus an__law_plus : Option Addr} {sl__law_plus : Array (Option Value)} {oc__law_plus kV__law_plus dc__law_plus pm__law_plus cd__law_plus ct__law_plus : Value}
    {f__law_times : Addr} {od__law_times an__law_times : Option Addr} {sl__law_times : Array (Option Value)} {oc__law_times kV__law_times dc__law_times pm__law_times cd__law_times ct__law_times : Value}
    {f__law_rounds : Addr} {od__law_rounds an__law_rounds : Option Addr} {sl__law_rounds : Array (Option Value)} {oc__law_rounds kV__law_rounds dc__law_rounds pm__law_rounds cd__law_rounds ct__law_rounds : Value}
    {f_plus : Addr} {od_plus an_plus : Option Addr} {sl_plus : Array (Option Value)} {oc_plus kV_plus dc_plus pm_plus cd_plus ct_plus : Value}
    {f_times : Addr} {od_times an_times : Option Addr} {sl_times : Array (Option Value)} {oc_times kV_times dc_times pm_times cd_times ct_times : Value}
    {f__rise : Addr} {od__rise an__rise : Option Addr} {sl__rise : Array (Option Value)} {oc__rise kV__rise dc__rise pm__rise cd__rise ct__rise : Value}
    {f__fall : Addr} {od__fall an__fall : Option Addr} {sl__fall : Array (Option Value)} {oc__fall kV__fall dc__fall pm__fall cd__fall ct__fall : Value}
    {f__check_time : Addr} {od__check_time an__check_time : Option Addr} {sl__check_time : Array (Option Value)} {oc__check_time kV__check_time dc__check_time pm__check_time cd__check_time ct__check_time : Value}
    {f__law_minus : Addr} {od__law_minus an__law_minus : Option Addr} {sl__law_minus : Array (Option Value)} {oc__law_minus kV__law_minus dc__law_minus pm__law_minus cd__law_minus ct__law_minus : Value}
    {f_minus : Addr} {od_minus an_minus : Option Addr} {sl_minus : Array (Option Value)} {oc_minus kV_minus dc_minus pm_minus cd_minus ct_minus : Value}
    {f__again : Addr} {od__again an__again : Option Addr} {sl__again : Array (Option Value)} {oc__again kV__again dc__again pm__again cd__again ct__again : Value}
    {f__law_at : Addr} {od__law_at an__law_at : Option Addr} {sl__law_at : Array (Option Value)} {oc__law_at kV__law_at dc__law_at pm__law_at cd__law_at ct__law_at : Value}
    {f_siphon_again : Addr} {od_siphon_again an_siphon_again : Option Addr} {sl_siphon_again : Array (Option Value)} {oc_siphon_again kV_siphon_again dc_siphon_again pm_siphon_again cd_siphon_again ct_siphon_again : Value}
    {f__rounds : Addr} {od__rounds an__rounds : Option Addr} {sl__rounds : Array (Option Value)} {oc__rounds kV__rounds dc__rounds pm__rounds cd__rounds ct__rounds : Value}
    {f_siphon_time : Addr} {od_siphon_time an_siphon_time : Option Addr} {sl_siphon_time : Array (Option Value)} {oc_siphon_time kV_siphon_time dc_siphon_time pm_siphon_time cd_siphon_time ct_siphon_time : Value}
    {f_rates_again : Addr} {od_rates_again an_rates_again : Option Addr} {sl_rates_again : Array (Option Value)} {oc_rates_again kV_rates_again dc_rates_again pm_rates_again cd_rates_again ct_rates_again : Value}
    {f_both_run : Addr} {od_both_run an_both_run : Option Addr} {sl_both_run : Array (Option Value)} {oc_both_run kV_both_run dc_both_run pm_both_run cd_both_run ct_both_run : Value}
    {f_siphon_level : Addr} {od_siphon_level an_siphon_level : Option Addr} {sl_siphon_level : Array (Option Value)} {oc_siphon_level kV_siphon_level dc_siphon_level pm_siphon_level cd_siphon_level ct_siphon_level : Value}
    {f_siphon_runs : Addr} {od_siphon_runs an_siphon_runs : Option Addr} {sl_siphon_runs : Array (Option Value)} {oc_siphon_runs kV_siphon_runs dc_siphon_runs pm_siphon_runs cd_siphon_runs ct_siphon_runs : Value}
    {f__law_word : Addr} {od__law_word an__law_word : Option Addr} {sl__law_word : Array (Option Value)} {oc__law_word kV__law_word dc__law_word pm__law_word cd__law_word ct__law_word : Value}
    {f_law : Addr} {od_law an_law : Option Addr} {sl_law : Array (Option Value)} {oc_law kV_law dc_law pm_law cd_law ct_law : Value}
    {t_MOST_HIGH : Tok}
    {t_MOST_MANY : Tok}
    {t_MOST_RATE : Tok}
    {t_MOST_TIME : Tok}
    {r_NOTHING : Addr} {od_NOTHING : Option Addr} {n_NOTHING : Nat} {sl_NOTHING : Array (Option Value)} {t_NOTHING0 : Tok} {t_NOTHING1 : Tok}
    {C_BadMany : Addr}
    {C_BadSiphon : Addr}
    {C_BadTime : Addr}
    (a_is_whole : PySem.W.nsIn K mainGlobals "is_whole" = some (some (.ref f_is_whole)))
    (l_is_whole : K.lookup f_is_whole = some ⟨oc_is_whole, od_is_whole, .func (PySem.W.fnOf "is_whole" "is_whole" (defArgs s_is_whole) (defBody s_is_whole) (defScope s_is_whole) .none kV_is_whole dc_is_whole pm_is_whole an_is_whole cd_is_whole ct_is_whole), sl_is_whole⟩)
    (c_is_whole : PySem.W.codeIn K cd_is_whole "is_whole" = true)
    (k_is_whole : PySem.W.keepIn K (.ref f_is_whole) = true)
    (a_divisor : PySem.W.nsIn K mainGlobals "divisor" = some (some (.ref f_divisor)))
    (l_divisor : K.lookup f_divisor = some ⟨oc_divisor, od_divisor, .func (PySem.W.fnOf "divisor" "divisor" (defArgs s_divisor) (defBody s_divisor) (defScope s_divisor) .none kV_divisor dc_divisor pm_divisor an_divisor cd_divisor ct_divisor), sl_divisor⟩)
    (c_divisor : PySem.W.codeIn K cd_divisor "divisor" = true)
    (k_divisor : PySem.W.keepIn K (.ref f_divisor) = true)
    (a_is_less : PySem.W.nsIn K mainGlobals "is_less" = some (some (.ref f_is_less)))
    (l_is_less : K.lookup f_is_less = some ⟨oc_is_less, od_is_less, .func (PySem.W.fnOf "is_less" "is_less" (defArgs s_is_less) (defBody s_is_less) (defScope s_is_less) .none kV_is_less dc_is_less pm_is_less an_is_less cd_is_less ct_is_less), sl_is_less⟩)
    (c_is_less : PySem.W.codeIn K cd_is_less "is_less" = true)
    (k_is_less : PySem.W.keepIn K (.ref f_is_less) = true)
    (a_is_integer : PySem.W.nsIn K mainGlobals "is_integer" = some (some (.ref f_is_integer)))
    (l_is_integer : K.lookup f_is_integer = some ⟨oc_is_integer, od_is_integer, .func (PySem.W.fnOf "is_integer" "is_integer" (defArgs s_is_integer) (defBody s_is_integer) (defScope s_is_integer) .none kV_is_integer dc_is_integer pm_is_integer an_is_integer cd_is_integer ct_is_integer), sl_is_integer⟩)
    (c_is_integer : PySem.W.codeIn K cd_is_integer "is_integer" = true)
    (k_is_integer : PySem.W.keepIn K (.ref f_is_integer) = true)
    (a__law_draws : PySem.W.nsIn K mainGlobals "_law_draws" = some (some (.ref f__law_draws)))
    (l__law_draws : K.lookup f__law_draws = some ⟨oc__law_draws, od__law_draws, .func (PySem.W.fnOf "_law_draws" "_law_draws" (defArgs s__law_draws) (defBody s__law_draws) (defScope s__law_draws) .none kV__law_draws dc__law_draws pm__law_draws an__law_draws cd__law_draws ct__law_draws), sl__law_draws⟩)
    (c__law_draws : PySem.W.codeIn K cd__law_draws "_law_draws" = true)
    (k__law_draws : PySem.W.keepIn K (.ref f__law_draws) = true)
    (a__law_low : PySem.W.nsIn K mainGlobals "_law_low" = some (some (.ref f__law_low)))
    (l__law_low : K.lookup f__law_low = some ⟨oc__law_low, od__law_low, .func (PySem.W.fnOf "_law_low" "_law_low" (defArgs s__law_low) (defBody s__law_low) (defScope s__law_low) .none kV__law_low dc__law_low pm__law_low an__law_low cd__law_low ct__law_low), sl__law_low⟩)
    (c__law_low : PySem.W.codeIn K cd__law_low "_law_low" = true)
    (k__law_low : PySem.W.keepIn K (.ref f__law_low) = true)
    (a__law_less : PySem.W.nsIn K mainGlobals "_law_less" = some (some (.ref f__law_less)))
    (l__law_less : K.lookup f__law_less = some ⟨oc__law_less, od__law_less, .func (PySem.W.fnOf "_law_less" "_law_less" (defArgs s__law_less) (defBody s__law_less) (defScope s__law_less) .none kV__law_less dc__law_less pm__law_less an__law_less cd__law_less ct__law_less), sl__law_less⟩)
    (c__law_less : PySem.W.codeIn K cd__law_less "_law_less" = true)
    (k__law_less : PySem.W.keepIn K (.ref f__law_less) = true)
    (a__law_siphon : PySem.W.nsIn K mainGlobals "_law_siphon" = some (some (.ref f__law_siphon)))
    (l__law_siphon : K.lookup f__law_siphon = some ⟨oc__law_siphon, od__law_siphon, .func (PySem.W.fnOf "_law_siphon" "_law_siphon" (defArgs s__law_siphon) (defBody s__law_siphon) (defScope s__law_siphon) .none kV__law_siphon dc__law_siphon pm__law_siphon an__law_siphon cd__law_siphon ct__law_siphon), sl__law_siphon⟩)
    (c__law_siphon : PySem.W.codeIn K cd__law_siphon "_law_siphon" = true)
    (k__law_siphon : PySem.W.keepIn K (.ref f__law_siphon) = true)
    (a_quotient : PySem.W.nsIn K mainGlobals "quotient" = some (some (.ref f_quotient)))
    (l_quotient : K.lookup f_quotient = some ⟨oc_quotient, od_quotient, .func (PySem.W.fnOf "quotient" "quotient" (defArgs s_quotient) (defBody s_quotient) (defScope s_quotient) .none kV_quotient dc_quotient pm_quotient an_quotient cd_quotient ct_quotient), sl_quotient⟩)
    (c_quotient : PySem.W.codeIn K cd_quotient "quotient" = true)
    (k_quotient : PySem.W.keepIn K (.ref f_quotient) = true)
    (a_is_quotient : PySem.W.nsIn K mainGlobals "is_quotient" = some (some (.ref f_is_quotient)))
    (l_is_quotient : K.lookup f_is_quotient = some ⟨oc_is_quotient, od_is_quotient, .func (PySem.W.fnOf "is_quotient" "is_quotient" (defArgs s_is_quotient) (defBody s_is_quotient) (defScope s_is_quotient) .none kV_is_quotient dc_is_quotient pm_is_quotient an_is_quotient cd_is_quotient ct_is_quotient), sl_is_quotient⟩)
    (c_is_quotient : PySem.W.codeIn K cd_is_quotient "is_quotient" = true)
    (k_is_quotient : PySem.W.keepIn K (.ref f_is_quotient) = true)
    (a__check : PySem.W.nsIn K mainGlobals "_check" = some (some (.ref f__check)))
    (l__check : K.lookup f__check = some ⟨oc__check, od__check, .func (PySem.W.fnOf "_check" "_check" (defArgs s__check) (defBody s__check) (defScope s__check) .none kV__check dc__check pm__check an__check cd__check ct__check), sl__check⟩)
    (c__check : PySem.W.codeIn K cd__check "_check" = true)
    (k__check : PySem.W.keepIn K (.ref f__check) = true)
    (a__law_plus : PySem.W.nsIn K mainGlobals "_law_plus" = some (some (.ref f__law_plus)))
    (l__law_plus : K.lookup f__law_plus = some ⟨oc__law_plus, od__law_plus, .func (PySem.W.fnOf "_law_plus" "_law_plus" (defArgs s__law_plus) (defBody s__law_plus) (defScope s__law_plus) .none kV__law_plus dc__law_plus pm__law_plus an__law_plus cd__law_plus ct__law_plus), sl__law_plus⟩)
    (c__law_plus : PySem.W.codeIn K cd__law_plus "_law_plus" = true)
    (k__law_plus : PySem.W.keepIn K (.ref f__law_plus) = true)
    (a__law_times : PySem.W.nsIn K mainGlobals "_law_times" = some (some (.ref f__law_times)))
    (l__law_times : K.lookup f__law_times = some ⟨oc__law_times, od__law_times, .func (PySem.W.fnOf "_law_times" "_law_times" (defArgs s__law_times) (defBody s__law_times) (defScope s__law_times) .none kV__law_times dc__law_times pm__law_times an__law_times cd__law_times ct__law_times), sl__law_times⟩)
    (c__law_times : PySem.W.codeIn K cd__law_times "_law_times" = true)
    (k__law_times : PySem.W.keepIn K (.ref f__law_times) = true)
    (a__law_rounds : PySem.W.nsIn K mainGlobals "_law_rounds" = some (some (.ref f__law_rounds)))
    (l__law_rounds : K.lookup f__law_rounds = some ⟨oc__law_rounds, od__law_rounds, .func (PySem.W.fnOf "_law_rounds" "_law_rounds" (defArgs s__law_rounds) (defBody s__law_rounds) (defScope s__law_rounds) .none kV__law_rounds dc__law_rounds pm__law_rounds an__law_rounds cd__law_rounds ct__law_rounds), sl__law_rounds⟩)
    (c__law_rounds : PySem.W.codeIn K cd__law_rounds "_law_rounds" = true)
    (k__law_rounds : PySem.W.keepIn K (.ref f__law_rounds) = true)
    (a_plus : PySem.W.nsIn K mainGlobals "plus" = some (some (.ref f_plus)))
    (l_plus : K.lookup f_plus = some ⟨oc_plus, od_plus, .func (PySem.W.fnOf "plus" "plus" (defArgs s_plus) (defBody s_plus) (defScope s_plus) .none kV_plus dc_plus pm_plus an_plus cd_plus ct_plus), sl_plus⟩)
    (c_plus : PySem.W.codeIn K cd_plus "plus" = true)
    (k_plus : PySem.W.keepIn K (.ref f_plus) = true)
    (a_times : PySem.W.nsIn K mainGlobals "times" = some (some (.ref f_times)))
    (l_times : K.lookup f_times = some ⟨oc_times, od_times, .func (PySem.W.fnOf "times" "times" (defArgs s_times) (defBody s_times) (defScope s_times) .none kV_times dc_times pm_times an_times cd_times ct_times), sl_times⟩)
    (c_times : PySem.W.codeIn K cd_times "times" = true)
    (k_times : PySem.W.keepIn K (.ref f_times) = true)
    (a__rise : PySem.W.nsIn K mainGlobals "_rise" = some (some (.ref f__rise)))
    (l__rise : K.lookup f__rise = some ⟨oc__rise, od__rise, .func (PySem.W.fnOf "_rise" "_rise" (defArgs s__rise) (defBody s__rise) (defScope s__rise) .none kV__rise dc__rise pm__rise an__rise cd__rise ct__rise), sl__rise⟩)
    (c__rise : PySem.W.codeIn K cd__rise "_rise" = true)
    (k__rise : PySem.W.keepIn K (.ref f__rise) = true)
    (a__fall : PySem.W.nsIn K mainGlobals "_fall" = some (some (.ref f__fall)))
    (l__fall : K.lookup f__fall = some ⟨oc__fall, od__fall, .func (PySem.W.fnOf "_fall" "_fall" (defArgs s__fall) (defBody s__fall) (defScope s__fall) .none kV__fall dc__fall pm__fall an__fall cd__fall ct__fall), sl__fall⟩)
    (c__fall : PySem.W.codeIn K cd__fall "_fall" = true)
    (k__fall : PySem.W.keepIn K (.ref f__fall) = true)
    (a__check_time : PySem.W.nsIn K mainGlobals "_check_time" = some (some (.ref f__check_time)))
    (l__check_time : K.lookup f__check_time = some ⟨oc__check_time, od__check_time, .func (PySem.W.fnOf "_check_time" "_check_time" (defArgs s__check_time) (defBody s__check_time) (defScope s__check_time) .none kV__check_time dc__check_time pm__check_time an__check_time cd__check_time ct__check_time), sl__check_time⟩)
    (c__check_time : PySem.W.codeIn K cd__check_time "_check_time" = true)
    (k__check_time : PySem.W.keepIn K (.ref f__check_time) = true)
    (a__law_minus : PySem.W.nsIn K mainGlobals "_law_minus" = some (some (.ref f__law_minus)))
    (l__law_minus : K.lookup f__law_minus = some ⟨oc__law_minus, od__law_minus, .func (PySem.W.fnOf "_law_minus" "_law_minus" (defArgs s__law_minus) (defBody s__law_minus) (defScope s__law_minus) .none kV__law_minus dc__law_minus pm__law_minus an__law_minus cd__law_minus ct__law_minus), sl__law_minus⟩)
    (c__law_minus : PySem.W.codeIn K cd__law_minus "_law_minus" = true)
    (k__law_minus : PySem.W.keepIn K (.ref f__law_minus) = true)
    (a_minus : PySem.W.nsIn K mainGlobals "minus" = some (some (.ref f_minus)))
    (l_minus : K.lookup f_minus = some ⟨oc_minus, od_minus, .func (PySem.W.fnOf "minus" "minus" (defArgs s_minus) (defBody s_minus) (defScope s_minus) .none kV_minus dc_minus pm_minus an_minus cd_minus ct_minus), sl_minus⟩)
    (c_minus : PySem.W.codeIn K cd_minus "minus" = true)
    (k_minus : PySem.W.keepIn K (.ref f_minus) = true)
    (a__again : PySem.W.nsIn K mainGlobals "_again" = some (some (.ref f__again)))
    (l__again : K.lookup f__again = some ⟨oc__again, od__again, .func (PySem.W.fnOf "_again" "_again" (defArgs s__again) (defBody s__again) (defScope s__again) .none kV__again dc__again pm__again an__again cd__again ct__again), sl__again⟩)
    (c__again : PySem.W.codeIn K cd__again "_again" = true)
    (k__again : PySem.W.keepIn K (.ref f__again) = true)
    (a__law_at : PySem.W.nsIn K mainGlobals "_law_at" = some (some (.ref f__law_at)))
    (l__law_at : K.lookup f__law_at = some ⟨oc__law_at, od__law_at, .func (PySem.W.fnOf "_law_at" "_law_at" (defArgs s__law_at) (defBody s__law_at) (defScope s__law_at) .none kV__law_at dc__law_at pm__law_at an__law_at cd__law_at ct__law_at), sl__law_at⟩)
    (c__law_at : PySem.W.codeIn K cd__law_at "_law_at" = true)
    (k__law_at : PySem.W.keepIn K (.ref f__law_at) = true)
    (a_siphon_again : PySem.W.nsIn K mainGlobals "siphon_again" = some (some (.ref f_siphon_again)))
    (l_siphon_again : K.lookup f_siphon_again = some ⟨oc_siphon_again, od_siphon_again, .func (PySem.W.fnOf "siphon_again" "siphon_again" (defArgs s_siphon_again) (defBody s_siphon_again) (defScope s_siphon_again) .none kV_siphon_again dc_siphon_again pm_siphon_again an_siphon_again cd_siphon_again ct_siphon_again), sl_siphon_again⟩)
    (c_siphon_again : PySem.W.codeIn K cd_siphon_again "siphon_again" = true)
    (k_siphon_again : PySem.W.keepIn K (.ref f_siphon_again) = true)
    (a__rounds : PySem.W.nsIn K mainGlobals "_rounds" = some (some (.ref f__rounds)))
    (l__rounds : K.lookup f__rounds = some ⟨oc__rounds, od__rounds, .func (PySem.W.fnOf "_rounds" "_rounds" (defArgs s__rounds) (defBody s__rounds) (defScope s__rounds) .none kV__rounds dc__rounds pm__rounds an__rounds cd__rounds ct__rounds), sl__rounds⟩)
    (c__rounds : PySem.W.codeIn K cd__rounds "_rounds" = true)
    (k__rounds : PySem.W.keepIn K (.ref f__rounds) = true)
    (a_siphon_time : PySem.W.nsIn K mainGlobals "siphon_time" = some (some (.ref f_siphon_time)))
    (l_siphon_time : K.lookup f_siphon_time = some ⟨oc_siphon_time, od_siphon_time, .func (PySem.W.fnOf "siphon_time" "siphon_time" (defArgs s_siphon_time) (defBody s_siphon_time) (defScope s_siphon_time) .none kV_siphon_time dc_siphon_time pm_siphon_time an_siphon_time cd_siphon_time ct_siphon_time), sl_siphon_time⟩)
    (c_siphon_time : PySem.W.codeIn K cd_siphon_time "siphon_time" = true)
    (k_siphon_time : PySem.W.keepIn K (.ref f_siphon_time) = true)
    (a_rates_again : PySem.W.nsIn K mainGlobals "rates_again" = some (some (.ref f_rates_again)))
    (l_rates_again : K.lookup f_rates_again = some ⟨oc_rates_again, od_rates_again, .func (PySem.W.fnOf "rates_again" "rates_again" (defArgs s_rates_again) (defBody s_rates_again) (defScope s_rates_again) .none kV_rates_again dc_rates_again pm_rates_again an_rates_again cd_rates_again ct_rates_again), sl_rates_again⟩)
    (c_rates_again : PySem.W.codeIn K cd_rates_again "rates_again" = true)
    (k_rates_again : PySem.W.keepIn K (.ref f_rates_again) = true)
    (a_both_run : PySem.W.nsIn K mainGlobals "both_run" = some (some (.ref f_both_run)))
    (l_both_run : K.lookup f_both_run = some ⟨oc_both_run, od_both_run, .func (PySem.W.fnOf "both_run" "both_run" (defArgs s_both_run) (defBody s_both_run) (defScope s_both_run) .none kV_both_run dc_both_run pm_both_run an_both_run cd_both_run ct_both_run), sl_both_run⟩)
    (c_both_run : PySem.W.codeIn K cd_both_run "both_run" = true)
    (k_both_run : PySem.W.keepIn K (.ref f_both_run) = true)
    (a_siphon_level : PySem.W.nsIn K mainGlobals "siphon_level" = some (some (.ref f_siphon_level)))
    (l_siphon_level : K.lookup f_siphon_level = some ⟨oc_siphon_level, od_siphon_level, .func (PySem.W.fnOf "siphon_level" "siphon_level" (defArgs s_siphon_level) (defBody s_siphon_level) (defScope s_siphon_level) .none kV_siphon_level dc_siphon_level pm_siphon_level an_siphon_level cd_siphon_level ct_siphon_level), sl_siphon_level⟩)
    (c_siphon_level : PySem.W.codeIn K cd_siphon_level "siphon_level" = true)
    (k_siphon_level : PySem.W.keepIn K (.ref f_siphon_level) = true)
    (a_siphon_runs : PySem.W.nsIn K mainGlobals "siphon_runs" = some (some (.ref f_siphon_runs)))
    (l_siphon_runs : K.lookup f_siphon_runs = some ⟨oc_siphon_runs, od_siphon_runs, .func (PySem.W.fnOf "siphon_runs" "siphon_runs" (defArgs s_siphon_runs) (defBody s_siphon_runs) (defScope s_siphon_runs) .none kV_siphon_runs dc_siphon_runs pm_siphon_runs an_siphon_runs cd_siphon_runs ct_siphon_runs), sl_siphon_runs⟩)
    (c_siphon_runs : PySem.W.codeIn K cd_siphon_runs "siphon_runs" = true)
    (k_siphon_runs : PySem.W.keepIn K (.ref f_siphon_runs) = true)
    (a__law_word : PySem.W.nsIn K mainGlobals "_law_word" = some (some (.ref f__law_word)))
    (l__law_word : K.lookup f__law_word = some ⟨oc__law_word, od__law_word, .func (PySem.W.fnOf "_law_word" "_law_word" (defArgs s__law_word) (defBody s__law_word) (defScope s__law_word) .none kV__law_word dc__law_word pm__law_word an__law_word cd__law_word ct__law_word), sl__law_word⟩)
    (c__law_word : PySem.W.codeIn K cd__law_word "_law_word" = true)
    (k__law_word : PySem.W.keepIn K (.ref f__law_word) = true)
    (a_law : PySem.W.nsIn K mainGlobals "law" = some (some (.ref f_law)))
    (l_law : K.lookup f_law = some ⟨oc_law, od_law, .func (PySem.W.fnOf "law" "law" (defArgs s_law) (defBody s_law) (defScope s_law) .none kV_law dc_law pm_law an_law cd_law ct_law), sl_law⟩)
    (c_law : PySem.W.codeIn K cd_law "law" = true)
    (k_law : PySem.W.keepIn K (.ref f_law) = true)
    (z_abs : PySem.W.nsIn K mainGlobals "abs" = some none)
    (z_bool : PySem.W.nsIn K mainGlobals "bool" = some none)
    (z_int : PySem.W.nsIn K mainGlobals "int" = some none)
    (z_isinstance : PySem.W.nsIn K mainGlobals "isinstance" = some none)
    (z_len : PySem.W.nsIn K mainGlobals "len" = some none)
    (z_list : PySem.W.nsIn K mainGlobals "list" = some none)
    (z_range : PySem.W.nsIn K mainGlobals "range" = some none)
    (z_tuple : PySem.W.nsIn K mainGlobals "tuple" = some none)
    (v_MOST_HIGH : PySem.W.nsIn K mainGlobals "MOST_HIGH" = some (some (.int 1000 t_MOST_HIGH)))
    (v_MOST_MANY : PySem.W.nsIn K mainGlobals "MOST_MANY" = some (some (.int 1000000000000 t_MOST_MANY)))
    (v_MOST_RATE : PySem.W.nsIn K mainGlobals "MOST_RATE" = some (some (.int 100 t_MOST_RATE)))
    (v_MOST_TIME : PySem.W.nsIn K mainGlobals "MOST_TIME" = some (some (.int 1000000000000 t_MOST_TIME)))
    (v_NOTHING : PySem.W.nsIn K mainGlobals "NOTHING" = some (some (.ref r_NOTHING)))
    (l_NOTHING : K.lookup r_NOTHING = some ⟨.type "tuple", od_NOTHING, .seq #[.int 0 t_NOTHING0, .int 1 t_NOTHING1] n_NOTHING, sl_NOTHING⟩)
    (g_BadMany : PySem.W.nsIn K mainGlobals "BadMany" = some (some (.ref C_BadMany)))
    (x_BadMany : PySem.W.excIn K C_BadMany [.type "ValueError", .type "Exception", .type "BaseException", .type "object"] "ValueError.__new__" = true)
    (kk_BadMany : PySem.W.keepIn K (.ref C_BadMany) = true)
    (s_BadMany : PySem.W.subIn K (.ref C_BadMany) (.type "BaseException") = some true)
    (t_BadMany : PySem.W.typeIn K (.ref C_BadMany) = some (.type "type"))
    (i_BadMany : PySem.W.isClsIn K C_BadMany = true)
    (g_BadSiphon : PySem.W.nsIn K mainGlobals "BadSiphon" = some (some (.ref C_BadSiphon)))
    (x_BadSiphon : PySem.W.excIn K C_BadSiphon [.type "ValueError", .type "Exception", .type "BaseException", .type "object"] "ValueError.__new__" = true)
    (kk_BadSiphon : PySem.W.keepIn K (.ref C_BadSiphon) = true)
    (s_BadSiphon : PySem.W.subIn K (.ref C_BadSiphon) (.type "BaseException") = some true)
    (t_BadSiphon : PySem.W.typeIn K (.ref C_BadSiphon) = some (.type "type"))
    (i_BadSiphon : PySem.W.isClsIn K C_BadSiphon = true)
    (g_BadTime : PySem.W.nsIn K mainGlobals "BadTime" = some (some (.ref C_BadTime)))
    (x_BadTime : PySem.W.excIn K C_BadTime [.type "ValueError", .type "Exception", .type "BaseException", .type "object"] "ValueError.__new__" = true)
    (kk_BadTime : PySem.W.keepIn K (.ref C_BadTime) = true)
    (s_BadTime : PySem.W.subIn K (.ref C_BadTime) (.type "BaseException") = some true)
    (t_BadTime : PySem.W.typeIn K (.ref C_BadTime) = some (.type "type"))
    (i_BadTime : PySem.W.isClsIn K C_BadTime = true)
    (p_BadMany_BadMany : PySem.W.subIn K (.ref C_BadMany) (.ref C_BadMany) = some true)
    (p_BadMany_BadSiphon : PySem.W.subIn K (.ref C_BadMany) (.ref C_BadSiphon) = some false)
    (p_BadMany_BadTime : PySem.W.subIn K (.ref C_BadMany) (.ref C_BadTime) = some false)
    (p_BadSiphon_BadMany : PySem.W.subIn K (.ref C_BadSiphon) (.ref C_BadMany) = some false)
    (p_BadSiphon_BadSiphon : PySem.W.subIn K (.ref C_BadSiphon) (.ref C_BadSiphon) = some true)
    (p_BadSiphon_BadTime : PySem.W.subIn K (.ref C_BadSiphon) (.ref C_BadTime) = some false)
    (p_BadTime_BadMany : PySem.W.subIn K (.ref C_BadTime) (.ref C_BadMany) = some false)
    (p_BadTime_BadSiphon : PySem.W.subIn K (.ref C_BadTime) (.ref C_BadSiphon) = some false)
    (p_BadTime_BadTime : PySem.W.subIn K (.ref C_BadTime) (.ref C_BadTime) = some true) :
    ∃ fd : FuncData, (∀ (s : Shared) (v : Value), BindsTo s fd ⟨[v], []⟩ [("script", v)]) ∧ ∀ base : Heap, K.In base → base.Ns mainGlobals mg → FnOk l.prog w K mg base (L2.CX l.prog w) 8 fa fd ["script"] (spLaw K F_law) := by
  have e : f_law = fa := by
    have e := (PySem.W.mg_of X G a_law).symm.trans hfa
    cases e
    rfl
  subst e
  have ap : Apart K mg excs := fun c hc c2 hc2 D D2 h h2 => by
      unfold excs at hc hc2
      simp only [List.mem_cons, List.not_mem_nil, or_false] at hc hc2
      rcases hc with rfl | rfl | rfl <;> rcases hc2 with rfl | rfl | rfl
      · exact apart_go (PySem.W.mg_of X G g_BadMany) (PySem.W.mg_of X G g_BadMany) h h2 ((exm_by s_BadMany i_BadMany t_BadMany p_BadMany_BadMany).trans (congrArg some (by decide +kernel)))
      · exact apart_go (PySem.W.mg_of X G g_BadMany) (PySem.W.mg_of X G g_BadSiphon) h h2 ((exm_by s_BadSiphon i_BadSiphon t_BadSiphon p_BadMany_BadSiphon).trans (congrArg some (by decide +kernel)))
      · exact apart_go (PySem.W.mg_of X G g_BadMany) (PySem.W.mg_of X G g_BadTime) h h2 ((exm_by s_BadTime i_BadTime t_BadTime p_BadMany_BadTime).trans (congrArg some (by decide +kernel)))
      · exact apart_go (PySem.W.mg_of X G g_BadSiphon) (PySem.W.mg_of X G g_BadMany) h h2 ((exm_by s_BadMany i_BadMany t_BadMany p_BadSiphon_BadMany).trans (congrArg some (by decide +kernel)))
      · exact apart_go (PySem.W.mg_of X G g_BadSiphon) (PySem.W.mg_of X G g_BadSiphon) h h2 ((exm_by s_BadSiphon i_BadSiphon t_BadSiphon p_BadSiphon_BadSiphon).trans (congrArg some (by decide +kernel)))
      · exact apart_go (PySem.W.mg_of X G g_BadSiphon) (PySem.W.mg_of X G g_BadTime) h h2 ((exm_by s_BadTime i_BadTime t_BadTime p_BadSiphon_BadTime).trans (congrArg some (by decide +kernel)))
      · exact apart_go (PySem.W.mg_of X G g_BadTime) (PySem.W.mg_of X G g_BadMany) h h2 ((exm_by s_BadMany i_BadMany t_BadMany p_BadTime_BadMany).trans (congrArg some (by decide +kernel)))
      · exact apart_go (PySem.W.mg_of X G g_BadTime) (PySem.W.mg_of X G g_BadSiphon) h h2 ((exm_by s_BadSiphon i_BadSiphon t_BadSiphon p_BadTime_BadSiphon).trans (congrArg some (by decide +kernel)))
      · exact apart_go (PySem.W.mg_of X G g_BadTime) (PySem.W.mg_of X G g_BadTime) h h2 ((exm_by s_BadTime i_BadTime t_BadTime p_BadTime_BadTime).trans (congrArg some (by decide +kernel)))
  let T : Tx K mg := { f_is_whole := f_is_whole, fd_is_whole := _, F_is_whole := fun_mk (st := s_is_whole) l_is_whole c_is_whole k_is_whole, b_is_whole := (fun_mk (st := s_is_whole) l_is_whole c_is_whole k_is_whole).binds (ps := ["value", "least", "most"]) (fun _ _ _ _ _ _ us hl => match us, hl with | [_, _, _], _ => rfl), m_is_whole := PySem.W.mg_of X G a_is_whole, k_is_whole := k_is_whole, f_divisor := f_divisor, fd_divisor := _, F_divisor := fun_mk (st := s_divisor) l_divisor c_divisor k_divisor, b_divisor := (fun_mk (st := s_divisor) l_divisor c_divisor k_divisor).binds (ps := ["one", "other"]) (fun _ _ _ _ _ _ us hl => match us, hl with | [_, _], _ => rfl), m_divisor := PySem.W.mg_of X G a_divisor, k_divisor := k_divisor, f_is_less := f_is_less, fd_is_less := _, F_is_less := fun_mk (st := s_is_less) l_is_less c_is_less k_is_less, b_is_less := (fun_mk (st := s_is_less) l_is_less c_is_less k_is_less).binds (ps := ["one", "other"]) (fun _ _ _ _ _ _ us hl => match us, hl with | [_, _], _ => rfl), m_is_less := PySem.W.mg_of X G a_is_less, k_is_less := k_is_less, f_is_integer := f_is_integer, fd_is_integer := _, F_is_integer := fun_mk (st := s_is_integer) l_is_integer c_is_integer k_is_integer, b_is_integer := (fun_mk (st := s_is_integer) l_is_integer c_is_integer k_is_integer).binds (ps := ["value"]) (fun _ _ _ _ _ _ us hl => match us, hl with | [_], _ => rfl), m_is_integer := PySem.W.mg_of X G a_is_integer, k_is_integer := k_is_integer, f__law_draws := f__law_draws, fd__law_draws := _, F__law_draws := fun_mk (st := s__law_draws) l__law_draws c__law_draws k__law_draws, b__law_draws := (fun_mk (st := s__law_draws) l__law_draws c__law_draws k__law_draws).binds (ps := ["script", "many"]) (fun _ _ _ _ _ _ us hl => match us, hl with | [_, _], _ => rfl), m__law_draws := PySem.W.mg_of X G a__law_draws, k__law_draws := k__law_draws, f__law_low := f__law_low, fd__law_low := _, F__law_low := fun_mk (st := s__law_low) l__law_low c__law_low k__law_low, b__law_low := (fun_mk (st := s__law_low) l__law_low c__law_low k__law_low).binds (ps := ["up", "down"]) (fun _ _ _ _ _ _ us hl => match us, hl with | [_, _], _ => rfl), m__law_low := PySem.W.mg_of X G a__law_low, k__law_low := k__law_low, f__law_less := f__law_less, fd__law_less := _, F__law_less := fun_mk (st := s__law_less) l__law_less c__law_less k__law_less, b__law_less := (fun_mk (st := s__law_less) l__law_less c__law_less k__law_less).binds (ps := ["one", "other"]) (fun _ _ _ _ _ _ us hl => match us, hl with | [_, _], _ => rfl), m__law_less := PySem.W.mg_of X G a__law_less, k__law_less := k__law_less, f__law_siphon := f__law_siphon, fd__law_siphon := _, F__law_siphon := fun_mk (st := s__law_siphon) l__law_siphon c__law_siphon k__law_siphon, b__law_siphon := (fun_mk (st := s__law_siphon) l__law_siphon c__law_siphon k__law_siphon).binds (ps := ["draws", "at"]) (fun _ _ _ _ _ _ us hl => match us, hl with | [_, _], _ => rfl), m__law_siphon := PySem.W.mg_of X G a__law_siphon, k__law_siphon := k__law_siphon, f_quotient := f_quotient, fd_quotient := _, F_quotient := fun_mk (st := s_quotient) l_quotient c_quotient k_quotient, b_quotient := (fun_mk (st := s_quotient) l_quotient c_quotient k_quotient).binds (ps := ["up", "down"]) (fun _ _ _ _ _ _ us hl => match us, hl with | [_, _], _ => rfl), m_quotient := PySem.W.mg_of X G a_quotient, k_quotient := k_quotient, f_is_quotient := f_is_quotient, fd_is_quotient := _, F_is_quotient := fun_mk (st := s_is_quotient) l_is_quotient c_is_quotient k_is_quotient, b_is_quotient := (fun_mk (st := s_is_quotient) l_is_quotient c_is_quotient k_is_quotient).binds (ps := ["value"]) (fun _ _ _ _ _ _ us hl => match us, hl with | [_], _ => rfl), m_is_quotient := PySem.W.mg_of X G a_is_quotient, k_is_quotient := k_is_quotient, f__check := f__check, fd__check := _, F__check := fun_mk (st := s__check) l__check c__check k__check, b__check := (fun_mk (st := s__check) l__check c__check k__check).binds (ps := ["siphon"]) (fun _ _ _ _ _ _ us hl => match us, hl with | [_], _ => rfl), m__check := PySem.W.mg_of X G a__check, k__check := k__check, f__law_plus := f__law_plus, fd__law_plus := _, F__law_plus := fun_mk (st := s__law_plus) l__law_plus c__law_plus k__law_plus, b__law_plus := (fun_mk (st := s__law_plus) l__law_plus c__law_plus k__law_plus).binds (ps := ["one", "other"]) (fun _ _ _ _ _ _ us hl => match us, hl with | [_, _], _ => rfl), m__law_plus := PySem.W.mg_of X G a__law_plus, k__law_plus := k__law_plus, f__law_times := f__law_times, fd__law_times := _, F__law_times := fun_mk (st := s__law_times) l__law_times c__law_times k__law_times, b__law_times := (fun_mk (st := s__law_times) l__law_times c__law_times k__law_times).binds (ps := ["one", "number"]) (fun _ _ _ _ _ _ us hl => match us, hl with | [_, _], _ => rfl), m__law_times := PySem.W.mg_of X G a__law_times, k__law_times := k__law_times, f__law_rounds := f__law_rounds, fd__law_rounds := _, F__law_rounds := fun_mk (st := s__law_rounds) l__law_rounds c__law_rounds k__law_rounds, b__law_rounds := (fun_mk (st := s__law_rounds) l__law_rounds c__law_rounds k__law_rounds).binds (ps := ["siphon"]) (fun _ _ _ _ _ _ us hl => match us, hl with | [_], _ => rfl), m__law_rounds := PySem.W.mg_of X G a__law_rounds, k__law_rounds := k__law_rounds, f_plus := f_plus, fd_plus := _, F_plus := fun_mk (st := s_plus) l_plus c_plus k_plus, b_plus := (fun_mk (st := s_plus) l_plus c_plus k_plus).binds (ps := ["one", "other"]) (fun _ _ _ _ _ _ us hl => match us, hl with | [_, _], _ => rfl), m_plus := PySem.W.mg_of X G a_plus, k_plus := k_plus, f_times := f_times, fd_times := _, F_times := fun_mk (st := s_times) l_times c_times k_times, b_times := (fun_mk (st := s_times) l_times c_times k_times).binds (ps := ["one", "number"]) (fun _ _ _ _ _ _ us hl => match us, hl with | [_, _], _ => rfl), m_times := PySem.W.mg_of X G a_times, k_times := k_times, f__rise := f__rise, fd__rise := _, F__rise := fun_mk (st := s__rise) l__rise c__rise k__rise, b__rise := (fun_mk (st := s__rise) l__rise c__rise k__rise).binds (ps := ["siphon"]) (fun _ _ _ _ _ _ us hl => match us, hl with | [_], _ => rfl), m__rise := PySem.W.mg_of X G a__rise, k__rise := k__rise, f__fall := f__fall, fd__fall := _, F__fall := fun_mk (st := s__fall) l__fall c__fall k__fall, b__fall := (fun_mk (st := s__fall) l__fall c__fall k__fall).binds (ps := ["siphon"]) (fun _ _ _ _ _ _ us hl => match us, hl with | [_], _ => rfl), m__fall := PySem.W.mg_of X G a__fall, k__fall := k__fall, f__check_time := f__check_time, fd__check_time := _, F__check_time := fun_mk (st := s__check_time) l__check_time c__check_time k__check_time, b__check_time := (fun_mk (st := s__check_time) l__check_time c__check_time k__check_time).binds (ps := ["siphon", "time"]) (fun _ _ _ _ _ _ us hl => match us, hl with | [_, _], _ => rfl), m__check_time := PySem.W.mg_of X G a__check_time, k__check_time := k__check_time, f__law_minus := f__law_minus, fd__law_minus := _, F__law_minus := fun_mk (st := s__law_minus) l__law_minus c__law_minus k__law_minus, b__law_minus := (fun_mk (st := s__law_minus) l__law_minus c__law_minus k__law_minus).binds (ps := ["one", "other"]) (fun _ _ _ _ _ _ us hl => match us, hl with | [_, _], _ => rfl), m__law_minus := PySem.W.mg_of X G a__law_minus, k__law_minus := k__law_minus, f_minus := f_minus, fd_minus := _, F_minus := fun_mk (st := s_minus) l_minus c_minus k_minus, b_minus := (fun_mk (st := s_minus) l_minus c_minus k_minus).binds (ps := ["one", "other"]) (fun _ _ _ _ _ _ us hl => match us, hl with | [_, _], _ => rfl), m_minus := PySem.W.mg_of X G a_minus, k_minus := k_minus, f__again := f__again, fd__again := _, F__again := fun_mk (st := s__again) l__again c__again k__again, b__again := (fun_mk (st := s__again) l__again c__again k__again).binds (ps := ["siphon"]) (fun _ _ _ _ _ _ us hl => match us, hl with | [_], _ => rfl), m__again := PySem.W.mg_of X G a__again, k__again := k__again, f__law_at := f__law_at, fd__law_at := _, F__law_at := fun_mk (st := s__law_at) l__law_at c__law_at k__law_at, b__law_at := (fun_mk (st := s__law_at) l__law_at c__law_at k__law_at).binds (ps := ["siphon", "time"]) (fun _ _ _ _ _ _ us hl => match us, hl with | [_, _], _ => rfl), m__law_at := PySem.W.mg_of X G a__law_at, k__law_at := k__law_at, f_siphon_again := f_siphon_again, fd_siphon_again := _, F_siphon_again := fun_mk (st := s_siphon_again) l_siphon_again c_siphon_again k_siphon_again, b_siphon_again := (fun_mk (st := s_siphon_again) l_siphon_again c_siphon_again k_siphon_again).binds (ps := ["siphon"]) (fun _ _ _ _ _ _ us hl => match us, hl with | [_], _ => rfl), m_siphon_again := PySem.W.mg_of X G a_siphon_again, k_siphon_again := k_siphon_again, f__rounds := f__rounds, fd__rounds := _, F__rounds := fun_mk (st := s__rounds) l__rounds c__rounds k__rounds, b__rounds := (fun_mk (st := s__rounds) l__rounds c__rounds k__rounds).binds (ps := ["siphon", "time"]) (fun _ _ _ _ _ _ us hl => match us, hl with | [_, _], _ => rfl), m__rounds := PySem.W.mg_of X G a__rounds, k__rounds := k__rounds, f_siphon_time := f_siphon_time, fd_siphon_time := _, F_siphon_time := fun_mk (st := s_siphon_time) l_siphon_time c_siphon_time k_siphon_time, b_siphon_time := (fun_mk (st := s_siphon_time) l_siphon_time c_siphon_time k_siphon_time).binds (ps := ["siphon", "many"]) (fun _ _ _ _ _ _ us hl => match us, hl with | [_, _], _ => rfl), m_siphon_time := PySem.W.mg_of X G a_siphon_time, k_siphon_time := k_siphon_time, f_rates_again := f_rates_again, fd_rates_again := _, F_rates_again := fun_mk (st := s_rates_again) l_rates_again c_rates_again k_rates_again, b_rates_again := (fun_mk (st := s_rates_again) l_rates_again c_rates_again k_rates_again).binds (ps := ["low", "high", "time"]) (fun _ _ _ _ _ _ us hl => match us, hl with | [_, _, _], _ => rfl), m_rates_again := PySem.W.mg_of X G a_rates_again, k_rates_again := k_rates_again, f_both_run := f_both_run, fd_both_run := _, F_both_run := fun_mk (st := s_both_run) l_both_run c_both_run k_both_run, b_both_run := (fun_mk (st := s_both_run) l_both_run c_both_run k_both_run).binds (ps := ["siphon", "other"]) (fun _ _ _ _ _ _ us hl => match us, hl with | [_, _], _ => rfl), m_both_run := PySem.W.mg_of X G a_both_run, k_both_run := k_both_run, f_siphon_level := f_siphon_level, fd_siphon_level := _, F_siphon_level := fun_mk (st := s_siphon_level) l_siphon_level c_siphon_level k_siphon_level, b_siphon_level := (fun_mk (st := s_siphon_level) l_siphon_level c_siphon_level k_siphon_level).binds (ps := ["siphon", "time"]) (fun _ _ _ _ _ _ us hl => match us, hl with | [_, _], _ => rfl), m_siphon_level := PySem.W.mg_of X G a_siphon_level, k_siphon_level := k_siphon_level, f_siphon_runs := f_siphon_runs, fd_siphon_runs := _, F_siphon_runs := fun_mk (st := s_siphon_runs) l_siphon_runs c_siphon_runs k_siphon_runs, b_siphon_runs := (fun_mk (st := s_siphon_runs) l_siphon_runs c_siphon_runs k_siphon_runs).binds (ps := ["siphon", "time"]) (fun _ _ _ _ _ _ us hl => match us, hl with | [_, _], _ => rfl), m_siphon_runs := PySem.W.mg_of X G a_siphon_runs, k_siphon_runs := k_siphon_runs, f__law_word := f__law_word, fd__law_word := _, F__law_word := fun_mk (st := s__law_word) l__law_word c__law_word k__law_word, b__law_word := (fun_mk (st := s__law_word) l__law_word c__law_word k__law_word).binds (ps := ["way", "one", "two", "three"]) (fun _ _ _ _ _ _ us hl => match us, hl with | [_, _, _, _], _ => rfl), m__law_word := PySem.W.mg_of X G a__law_word, k__law_word := k__law_word, f_law := f_law, fd_law := _, F_law := fun_mk (st := s_law) l_law c_law k_law, b_law := (fun_mk (st := s_law) l_law c_law k_law).binds (ps := ["script"]) (fun _ _ _ _ _ _ us hl => match us, hl with | [_], _ => rfl), m_law := PySem.W.mg_of X G a_law, k_law := k_law, z_abs := PySem.W.mg_none_of X G z_abs, z_bool := PySem.W.mg_none_of X G z_bool, z_int := PySem.W.mg_none_of X G z_int, z_isinstance := PySem.W.mg_none_of X G z_isinstance, z_len := PySem.W.mg_none_of X G z_len, z_list := PySem.W.mg_none_of X G z_list, z_range := PySem.W.mg_none_of X G z_range, z_tuple := PySem.W.mg_none_of X G z_tuple, c_MOST_HIGH := mc_int (PySem.W.mg_of X G v_MOST_HIGH), c_MOST_MANY := mc_int (PySem.W.mg_of X G v_MOST_MANY), c_MOST_RATE := mc_int (PySem.W.mg_of X G v_MOST_RATE), c_MOST_TIME := mc_int (PySem.W.mg_of X G v_MOST_TIME), c_NOTHING := mc_tup (PySem.W.mg_of X G v_NOTHING) l_NOTHING (.int (.int .nil)) (by show 2 ≤ sizeLine; decide), C_BadMany := C_BadMany, g_BadMany := PySem.W.mg_of X G g_BadMany, x_BadMany := x_BadMany, k_BadMany := kk_BadMany, s_BadMany := s_BadMany, t_BadMany := t_BadMany, C_BadSiphon := C_BadSiphon, g_BadSiphon := PySem.W.mg_of X G g_BadSiphon, x_BadSiphon := x_BadSiphon, k_BadSiphon := kk_BadSiphon, s_BadSiphon := s_BadSiphon, t_BadSiphon := t_BadSiphon, C_BadTime := C_BadTime, g_BadTime := PySem.W.mg_of X G g_BadTime, x_BadTime := x_BadTime, k_BadTime := kk_BadTime, s_BadTime := s_BadTime, t_BadTime := t_BadTime, ap := ap }
  exact ⟨PySem.W.fnOf "law" "law" (defArgs s_law) (defBody s_law) (defScope s_law) .none kV_law dc_law pm_law an_law cd_law ct_law, fun s v => .of_eq rfl, fun base _ _ => fn_law T⟩
end K95
open PySem PySem.W PyProof.Rows
set_option maxHeartbeats 0 in
theorem PySem.Challenge.cw_sandwright_k95_whole_siphons_holds : PySem.Challenge.rw_sandwright_k95_whole_siphons.Holds := by
  w_on; o_law; k_head; (case hw => w_witness2)
  k_fill
  refine DL.walk_law (l := PySem.Challenge.rw_sandwright_k95_whole_siphons) (k := 8) (F := K95.F_law) rfl rfl ⟨rfl, by decide, by decide⟩ (fun w h Y => PySem.W.kIn_of Y) K95.holds ?F
  case F =>
    intro w mg fa h KX G hmg
    refine' K95.all_mk KX G hmg ?a_is_whole ?l_is_whole ?c_is_whole ?k_is_whole ?a_divisor ?l_divisor ?c_divisor ?k_divisor ?a_is_less ?l_is_less ?c_is_less ?k_is_less ?a_is_integer ?l_is_integer ?c_is_integer ?k_is_integer ?a__law_draws ?l__law_draws ?c__law_draws ?k__law_draws ?a__law_low ?l__law_low ?c__law_low ?k__law_low ?a__law_less ?l__law_less ?c__law_less ?k__law_less ?a__law_siphon ?l__law_siphon ?c__law_siphon ?k__law_siphon ?a_quotient ?l_quotient ?c_quotient ?k_quotient ?a_is_quotient ?l_is_quotient ?c_is_quotient ?k_is_quotient ?a__check ?l__check ?c__check ?k__check ?a__law_plus ?l__law_plus ?c__law_plus ?k__law_plus ?a__law_times ?l__law_times ?c__law_times ?k__law_times ?a__law_rounds ?l__law_rounds ?c__law_rounds ?k__law_rounds ?a_plus ?l_plus ?c_plus ?k_plus ?a_times ?l_times ?c_times ?k_times ?a__rise ?l__rise ?c__rise ?k__rise ?a__fall ?l__fall ?c__fall ?k__fall ?a__check_time ?l__check_time ?c__check_time ?k__check_time ?a__law_minus ?l__law_minus ?c__law_minus ?k__law_minus ?a_minus ?l_minus ?c_minus ?k_minus ?a__again ?l__again ?c__again ?k__again ?a__law_at ?l__law_at ?c__law_at ?k__law_at ?a_siphon_again ?l_siphon_again ?c_siphon_again ?k_siphon_again ?a__rounds ?l__rounds ?c__rounds ?k__rounds ?a_siphon_time ?l_siphon_time ?c_siphon_time ?k_siphon_time ?a_rates_again ?l_rates_again ?c_rates_again ?k_rates_again ?a_both_run ?l_both_run ?c_both_run ?k_both_run ?a_siphon_level ?l_siphon_level ?c_siphon_level ?k_siphon_level ?a_siphon_runs ?l_siphon_runs ?c_siphon_runs ?k_siphon_runs ?a__law_word ?l__law_word ?c__law_word ?k__law_word ?a_law ?l_law ?c_law ?k_law ?z_abs ?z_bool ?z_int ?z_isinstance ?z_len ?z_list ?z_range ?z_tuple ?v_MOST_HIGH ?v_MOST_MANY ?v_MOST_RATE ?v_MOST_TIME ?v_NOTHING ?l_NOTHING ?g_BadMany ?x_BadMany ?kk_BadMany ?s_BadMany ?t_BadMany ?i_BadMany ?g_BadSiphon ?x_BadSiphon ?kk_BadSiphon ?s_BadSiphon ?t_BadSiphon ?i_BadSiphon ?g_BadTime ?x_BadTime ?kk_BadTime ?s_BadTime ?t_BadTime ?i_BadTime ?p_BadMany_BadMany ?p_BadMany_BadSiphon ?p_BadMany_BadTime ?p_BadSiphon_BadMany ?p_BadSiphon_BadSiphon ?p_BadSiphon_BadTime ?p_BadTime_BadMany ?p_BadTime_BadSiphon ?p_BadTime_BadTime
    (case a_is_whole => k_is)
    (case l_is_whole => k_is)
    (case c_is_whole => k_is)
    (case k_is_whole => k_is)
    (case a_divisor => k_is)
    (case l_divisor => k_is)
    (case c_divisor => k_is)
    (case k_divisor => k_is)
    (case a_is_less => k_is)
    (case l_is_less => k_is)
    (case c_is_less => k_is)
    (case k_is_less => k_is)
    (case a_is_integer => k_is)
    (case l_is_integer => k_is)
    (case c_is_integer => k_is)
    (case k_is_integer => k_is)
    (case a__law_draws => k_is)
    (case l__law_draws => k_is)
    (case c__law_draws => k_is)
    (case k__law_draws => k_is)
    (case a__law_low => k_is)
    (case l__law_low => k_is)
    (case c__law_low => k_is)
    (case k__law_low => k_is)
    (case a__law_less => k_is)
    (case l__law_less => k_is)
    (case c__law_less => k_is)
    (case k__law_less => k_is)
    (case a__law_siphon => k_is)
    (case l__law_siphon => k_is)
    (case c__law_siphon => k_is)
    (case k__law_siphon => k_is)
    (case a_quotient => k_is)
    (case l_quotient => k_is)
    (case c_quotient => k_is)
    (case k_quotient => k_is)
    (case a_is_quotient => k_is)
    (case l_is_quotient => k_is)
    (case c_is_quotient => k_is)
    (case k_is_quotient => k_is)
    (case a__check => k_is)
    (case l__check => k_is)
    (case c__check => k_is)
    (case k__check => k_is)
    (case a__law_plus => k_is)
    (case l__law_plus => k_is)
    (case c__law_plus => k_is)
    (case k__law_plus => k_is)
    (case a__law_times => k_is)
    (case l__law_times => k_is)
    (case c__law_times => k_is)
    (case k__law_times => k_is)
    (case a__law_rounds => k_is)
    (case l__law_rounds => k_is)
    (case c__law_rounds => k_is)
    (case k__law_rounds => k_is)
    (case a_plus => k_is)
    (case l_plus => k_is)
    (case c_plus => k_is)
    (case k_plus => k_is)
    (case a_times => k_is)
    (case l_times => k_is)
    (case c_times => k_is)
    (case k_times => k_is)
    (case a__rise => k_is)
    (case l__rise => k_is)
    (case c__rise => k_is)
    (case k__rise => k_is)
    (case a__fall => k_is)
    (case l__fall => k_is)
    (case c__fall => k_is)
    (case k__fall => k_is)
    (case a__check_time => k_is)
    (case l__check_time => k_is)
    (case c__check_time => k_is)
    (case k__check_time => k_is)
    (case a__law_minus => k_is)
    (case l__law_minus => k_is)
    (case c__law_minus => k_is)
    (case k__law_minus => k_is)
    (case a_minus => k_is)
    (case l_minus => k_is)
    (case c_minus => k_is)
    (case k_minus => k_is)
    (case a__again => k_is)
    (case l__again => k_is)
    (case c__again => k_is)
    (case k__again => k_is)
    (case a__law_at => k_is)
    (case l__law_at => k_is)
    (case c__law_at => k_is)
    (case k__law_at => k_is)
    (case a_siphon_again => k_is)
    (case l_siphon_again => k_is)
    (case c_siphon_again => k_is)
    (case k_siphon_again => k_is)
    (case a__rounds => k_is)
    (case l__rounds => k_is)
    (case c__rounds => k_is)
    (case k__rounds => k_is)
    (case a_siphon_time => k_is)
    (case l_siphon_time => k_is)
    (case c_siphon_time => k_is)
    (case k_siphon_time => k_is)
    (case a_rates_again => k_is)
    (case l_rates_again => k_is)
    (case c_rates_again => k_is)
    (case k_rates_again => k_is)
    (case a_both_run => k_is)
    (case l_both_run => k_is)
    (case c_both_run => k_is)
    (case k_both_run => k_is)
    (case a_siphon_level => k_is)
    (case l_siphon_level => k_is)
    (case c_siphon_level => k_is)
    (case k_siphon_level => k_is)
    (case a_siphon_runs => k_is)
    (case l_siphon_runs => k_is)
    (case c_siphon_runs => k_is)
    (case k_siphon_runs => k_is)
    (case a__law_word => k_is)
    (case l__law_word => k_is)
    (case c__law_word => k_is)
    (case k__law_word => k_is)
    (case a_law => k_is)
    (case l_law => k_is)
    (case c_law => k_is)
    (case k_law => k_is)
    (case z_abs => k_is)
    (case z_bool => k_is)
    (case z_int => k_is)
    (case z_isinstance => k_is)
    (case z_len => k_is)
    (case z_list => k_is)
    (case z_range => k_is)
    (case z_tuple => k_is)
    (case v_MOST_HIGH => k_is)
    (case v_MOST_MANY => k_is)
    (case v_MOST_RATE => k_is)
    (case v_MOST_TIME => k_is)
    (case v_NOTHING => k_is)
    (case l_NOTHING => k_is)
    (case g_BadMany => k_is)
    (case x_BadMany => k_exc)
    (case kk_BadMany => k_is)
    (case s_BadMany => k_is)
    (case t_BadMany => k_is)
    (case i_BadMany => k_is)
    (case g_BadSiphon => k_is)
    (case x_BadSiphon => k_exc)
    (case kk_BadSiphon => k_is)
    (case s_BadSiphon => k_is)
    (case t_BadSiphon => k_is)
    (case i_BadSiphon => k_is)
    (case g_BadTime => k_is)
    (case x_BadTime => k_exc)
    (case kk_BadTime => k_is)
    (case s_BadTime => k_is)
    (case t_BadTime => k_is)
    (case i_BadTime => k_is)
    (case p_BadMany_BadMany => (first | rfl | k_is))
    (case p_BadMany_BadSiphon => (first | rfl | k_is))
    (case p_BadMany_BadTime => (first | rfl | k_is))
    (case p_BadSiphon_BadMany => (first | rfl | k_is))
    (case p_BadSiphon_BadSiphon => (first | rfl | k_is))
    (case p_BadSiphon_BadTime => (first | rfl | k_is))
    (case p_BadTime_BadMany => (first | rfl | k_is))
    (case p_BadTime_BadSiphon => (first | rfl | k_is))
    (case p_BadTime_BadTime => (first | rfl | k_is))
