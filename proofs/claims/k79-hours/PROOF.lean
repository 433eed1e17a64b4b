import PyProof.Rows.All
import Wide.All
import OpenK.AllK
import Wide.FinOn
import HandS.ForMost
import HandS.Exc
import HandS.TryOnly
import HandS.TryMany
import HandS.ExcOwn
import HandS.WordsExc
import HandS.Flow
import HandS.IsInst
import HandS.SortRule
import HandS.SortInts
import HandS.TupAny
import HandS.TupMul
import HandS.Deep
import HandS.TupLe
import HandS.Conv
import KE.DataEq
import KE.DataCmp
import KE.DataAny
import KE.DataFind
import KE.DataIsa
import KE.DataMinMax
import KE.SortData
import HandS.Style
import HandS.Zip
import KE.GoesMore
import KE.GoesEnum
import PySem.Challenge.RW_sandwright_k79_whole_hours
set_option Elab.async false
set_option linter.all false
set_option maxRecDepth 100000
set_option autoImplicit false
set_option maxHeartbeats 4000000
/-! The data layer: an expression of the text has a reading f : En → R PyData, a statement a reading g : En → Fl. -/
namespace DL
open PySem PySem.Spec L2

abbrev PD := PyData

/-! ### results -/
inductive R (α : Type) where
  | ok (a : α)
  | ex (c : Str) (pl : List (Str × PD))
  | bad
namespace R
variable {α β γ : Type}
def bind (r : R α) (f : α → R β) : R β := match r with
  | .ok a => f a
  | .ex c pl => .ex c pl
  | .bad => .bad
@[simp] theorem ok_bind (a : α) (f : α → R β) : (R.ok a).bind f = f a := rfl
@[simp] theorem ex_bind (c pl) (f : α → R β) : (R.ex c pl).bind f = .ex c pl := rfl
@[simp] theorem bad_bind (f : α → R β) : R.bad.bind f = .bad := rfl
theorem bind_assoc (r : R α) (f : α → R β) (g : β → R γ) : (r.bind f).bind g = r.bind fun a => (f a).bind g := by cases r <;> rfl
/-- nothing raised -/
def nx (r : R α) : R α := match r with
  | .ok a => .ok a
  | _ => .bad
@[simp] theorem ok_nx (a : α) : (R.ok a).nx = .ok a := rfl
@[simp] theorem bad_nx : (R.bad : R α).nx = .bad := rfl
@[simp] theorem ex_nx (c pl) : (R.ex c pl : R α).nx = .bad := rfl
end R

/-- a slot: nothing known; a datum; a list, a dict of the frame's own that it may change -/
inductive Sl where
  | un
  | va (d : PD)
  | ol (ds : List PD)
  | od (kvs : List (Key × PD))
  | ot (kvs : List (List Key × PD))
  | sc (ns : List Int)
def Sl.own : Sl → Bool
  | .ol _ => true
  | .od _ => true
  | .ot _ => true
  | _ => false
abbrev En := List Sl

inductive Fl where
  | nx (ρ : En)
  | rt (d : PD)
  | bk (ρ : En)
  | ct (ρ : En)
  | ex (c : Str) (pl : List (Str × PD)) (ρ : En)
  | bad

/-! ### what stands for what -/
mutual
inductive Dq (K : PySem.W.Frag) (H : Hp) : V → PD → Prop
  | non : Dq K H .non .none
  | bl (b : Bool) : Dq K H (.bl b) (.bool b)
  | int (i : Int) : Dq K H (.int i) (.int i)
  | str (x : Str) : Dq K H (.str x) (.str x)
  | lst {a : Addr} {xs : List V} {ds : List PD} : Rd H a (.lst xs) → DqAll K H xs ds → Dq K H (.ref a) (.list ds)
  | tup {a : Addr} {xs : List V} {ds : List PD} : SqT K H a xs → DqAll K H xs ds → Dq K H (.ref a) (.tuple ds)
inductive DqAll (K : PySem.W.Frag) (H : Hp) : List V → List PD → Prop
  | nil : DqAll K H [] []
  | cons {v : V} {vs : List V} {d : PD} {ds : List PD} : Dq K H v d → DqAll K H vs ds → DqAll K H (v :: vs) (d :: ds)
end
mutual
theorem dqdp {K : PySem.W.Frag} {H : Hp} : ∀ (d : PD) (v : V), Dq K H v d → L2.Dp K H v d
  | _, _, .non => .non
  | _, _, .bl b => .bl b
  | _, _, .int i => .int i
  | _, _, .str x => .str x
  | _, _, .lst h1 h2 => .lst (.inl h1) (dqdpAll _ _ h2)
  | _, _, .tup h1 h2 => .tup h1 (dqdpAll _ _ h2)
theorem dqdpAll {K : PySem.W.Frag} {H : Hp} : ∀ (ds : List PD) (vs : List V), DqAll K H vs ds → L2.DpAll K H vs ds
  | _, _, .nil => .nil
  | _, _, .cons h1 h2 => .cons (dqdp _ _ h1) (dqdpAll _ _ h2)
end
theorem Dq.dp {K : PySem.W.Frag} {H : Hp} {v : V} {d : PD} (h : Dq K H v d) : L2.Dp K H v d := dqdp _ _ h
theorem rd_mono {H H' : Hp} {a : Addr} {u : HO} (e : Same H H') (h : Rd H a u) : Rd H' a u := by
  rcases h with h | ⟨o, h⟩
  · exact .inl (e _ _ h)
  · exact .inr ⟨o, e _ _ h⟩

/-! ### heaps without some addresses -/
open Classical in
noncomputable def wo (H : Hp) (O : Addr → Prop) : Hp := fun a => if O a then none else H a
section
variable {K : PySem.W.Frag} {H H' H1 H2 : Hp} {O O' : Addr → Prop} {a p : Addr} {o : HO}
theorem wo_some (n : ¬ O a) (h : H a = some o) : wo H O a = some o := by unfold wo; rw [if_neg n]; exact h
theorem wo_inv (h : wo H O a = some o) : ¬ O a ∧ H a = some o := by
  unfold wo at h
  by_cases n : O a
  · rw [if_pos n] at h; cases h
  · rw [if_neg n] at h; exact ⟨n, h⟩
theorem wo_none (h : H a = none) : wo H O a = none := by
  unfold wo
  by_cases n : O a
  · rw [if_pos n]
  · rw [if_neg n]; exact h
theorem wo_in (h : O a) : wo H O a = none := by unfold wo; rw [if_pos h]
theorem same_wo (e : Same H H') : Same (wo H O) (wo H' O) := fun b u h => let ⟨n, q⟩ := wo_inv h; wo_some n (e b u q)
theorem wo_sub (e : ∀ p, O p → O' p) : Same (wo H O') (wo H O) := fun b u h => let ⟨n, q⟩ := wo_inv h; wo_some (fun z => n (e b z)) q
theorem wo_self : Same (wo H O) H := fun b u h => (wo_inv h).2
theorem wo_upd (h : O p) : wo (upd H p o) O = wo H O := by
  funext b
  unfold wo
  by_cases n : O b
  · rw [if_pos n, if_pos n]
  · rw [if_neg n, if_neg n, upd_ne (fun z => n (by rw [z]; exact h))]
theorem _root_.L2.Same.updNew (h : H p = none) : Same H (upd H p o) := fun b u e => by rw [upd_ne (ne_of_none e h)]; exact e
theorem _root_.L2.Same.seqT (e : Same H H') {xs : List V} (h : SqT K H a xs) : SqT K H' a xs := by
  rcases h with (h | ⟨o, h⟩) | h
  · exact .inl (.inl (e _ _ h))
  · exact .inl (.inr ⟨o, e _ _ h⟩)
  · exact .inr h
mutual
theorem dmono (e : Same H H') : ∀ (d : PD) (v : V), Dq K H v d → Dq K H' v d
  | _, _, .non => .non
  | _, _, .bl b => .bl b
  | _, _, .int i => .int i
  | _, _, .str x => .str x
  | _, _, .lst h1 h2 => .lst (rd_mono e h1) (dmonoAll e _ _ h2)
  | _, _, .tup h1 h2 => .tup (Same.seqT e h1) (dmonoAll e _ _ h2)
theorem dmonoAll (e : Same H H') : ∀ (ds : List PD) (vs : List V), DqAll K H vs ds → DqAll K H' vs ds
  | _, _, .nil => .nil
  | _, _, .cons h1 h2 => .cons (dmono e _ _ h1) (dmonoAll e _ _ h2)
end
theorem Dq.mono {v : V} {d : PD} (h : Dq K H v d) (e : Same H H') : Dq K H' v d := dmono e _ _ h
theorem DqAll.mono {vs : List V} {ds : List PD} (h : DqAll K H vs ds) (e : Same H H') : DqAll K H' vs ds := dmonoAll e _ _ h
end
section
variable {K : PySem.W.Frag} {H : Hp}
theorem DqAll.length : ∀ {vs : List V} {ds : List PyData}, DqAll K H vs ds → vs.length = ds.length
  | _, _, .nil => rfl
  | _, _, .cons _ h => congrArg (· + 1) (DqAll.length h)
theorem DqAll.get : ∀ {vs : List V} {ds : List PyData} {i : Nat} {d : PyData}, DqAll K H vs ds → ds[i]? = some d → ∃ v, vs[i]? = some v ∧ Dq K H v d
  | _, _, _, _, .nil, e => by simp at e
  | _, _, 0, _, .cons r _, e => by simp at e; subst e; exact ⟨_, rfl, r⟩
  | _, _, i + 1, d, .cons _ t, e => by
    obtain ⟨u, h1, h2⟩ := DqAll.get (i := i) (d := d) t (by simpa using e)
    exact ⟨u, by simpa using h1, h2⟩
theorem DqAll.getV : ∀ {vs : List V} {ds : List PyData} {i : Nat} {v : V}, DqAll K H vs ds → vs[i]? = some v → ∃ d, ds[i]? = some d ∧ Dq K H v d
  | _, _, _, _, .nil, e => by simp at e
  | _, _, 0, _, .cons r _, e => by simp at e; subst e; exact ⟨_, rfl, r⟩
  | _, _, i + 1, d, .cons _ t, e => by
    obtain ⟨u, h1, h2⟩ := DqAll.getV (i := i) (v := d) t (by simpa using e)
    exact ⟨u, by simpa using h1, h2⟩
theorem DqAll.append : ∀ {vs ws : List V} {ds es : List PyData}, DqAll K H vs ds → DqAll K H ws es → DqAll K H (vs ++ ws) (ds ++ es)
  | _, _, _, _, .nil, h => h
  | _, _, _, _, .cons a b, h => .cons a (DqAll.append b h)
theorem DqAll.set {x : V} {d : PyData} (r : Dq K H x d) : ∀ {vs : List V} {ds : List PyData} (i : Nat), DqAll K H vs ds → DqAll K H (vs.set i x) (ds.set i d)
  | _, _, _, .nil => .nil
  | _, _, 0, .cons _ t => .cons r t
  | _, _, i + 1, .cons q t => .cons q (DqAll.set r i t)
theorem DqAll.take : ∀ {vs : List V} {ds : List PyData} (n : Nat), DqAll K H vs ds → DqAll K H (vs.take n) (ds.take n)
  | _, _, 0, _ => .nil
  | _, _, _ + 1, .nil => .nil
  | _, _, n + 1, .cons r t => .cons r (DqAll.take n t)
theorem DqAll.drop : ∀ {vs : List V} {ds : List PyData} (n : Nat), DqAll K H vs ds → DqAll K H (vs.drop n) (ds.drop n)
  | _, _, 0, r => r
  | _, _, _ + 1, .nil => .nil
  | _, _, n + 1, .cons _ t => DqAll.drop n t
theorem DqAll.one {v : V} {d : PyData} (h : Dq K H v d) : DqAll K H [v] [d] := .cons h .nil
end
/-- a dict's entries stand for data -/
def KvR {κ : Type} (K : PySem.W.Frag) (H : Hp) : List (κ × V) → List (κ × PD) → Prop := Paired fun (p : κ × V) (q : κ × PD) => p.1 = q.1 ∧ Dq K H p.2 q.2
theorem KvR.mono {κ : Type} {K : PySem.W.Frag} {H H' : Hp} {a : List (κ × V)} {b : List (κ × PD)} (h : KvR K H a b) (e : Same H H') : KvR K H' a b :=
  Paired.mapP h fun _ _ z => ⟨z.1, z.2.mono e⟩

/-- what a slot holds -/
def SlR (K : PySem.W.Frag) (O0 O : Addr → Prop) (H : Hp) : Sl → Option (Option V) → Prop
  | .un, _ => True
  | .va d, o => ∃ v, o = some (some v) ∧ Dq K (wo H O) v d
  | .ol ds, o => ∃ p vs, o = some (some (.ref p)) ∧ O p ∧ ¬ O0 p ∧ H p = some (.lst vs) ∧ DqAll K (wo H O) vs ds
  | .od kvs, o => ∃ p ks, o = some (some (.ref p)) ∧ O p ∧ ¬ O0 p ∧ H p = some (.dK ks) ∧ KvR K (wo H O) ks kvs
  | .ot kvs, o => ∃ p ks, o = some (some (.ref p)) ∧ O p ∧ ¬ O0 p ∧ H p = some (.dT ks) ∧ KvR K (wo H O) ks kvs
  | .sc ns, o => ∃ a, o = some (some (.ref a)) ∧ SqL K (wo H O) a (ns.map V.int)

structure Rel (K : PySem.W.Frag) (H0 : Hp) (O0 O : Addr → Prop) (H : Hp) (ρ : En) (σ : L2.St) : Prop where
  fr : Same H0 H
  sub : ∀ p, O0 p → O p
  nw : ∀ p, O p → O0 p ∨ H0 p = none
  al : ∀ p, O p → H p ≠ none
  len : ρ.length = σ.length
  sl : ∀ (i : Nat) (s : Sl), ρ[i]? = some s → SlR K O0 O H s σ[i]?
  dj : ∀ (i j : Nat) (s s' : Sl) (p : Addr), i ≠ j → ρ[i]? = some s → ρ[j]? = some s' → Sl.own s = true → Sl.own s' = true → σ[i]? = some (some (.ref p)) → σ[j]? ≠ some (some (.ref p))

section
variable {K : PySem.W.Frag} {H0 H H' H1 : Hp} {O0 O : Addr → Prop} {ρ : En} {σ : L2.St} {i : Nat} {a p : Addr} {o : HO} {d : PD} {v : V}
/-- the heap grows -/
theorem SlR.grow {s : Sl} {x : Option (Option V)} (h : SlR K O0 O H s x) (e : Same H H') : SlR K O0 O H' s x := by
  cases s with
  | un => trivial
  | va d => obtain ⟨v, q, r⟩ := h; exact ⟨v, q, r.mono (same_wo e)⟩
  | ol ds => obtain ⟨p, vs, q, m, n, r, z⟩ := h; exact ⟨p, vs, q, m, n, e _ _ r, z.mono (same_wo e)⟩
  | od ks => obtain ⟨p, vs, q, m, n, r, z⟩ := h; exact ⟨p, vs, q, m, n, e _ _ r, z.mono (same_wo e)⟩
  | ot ks => obtain ⟨p, vs, q, m, n, r, z⟩ := h; exact ⟨p, vs, q, m, n, e _ _ r, z.mono (same_wo e)⟩
  | sc ns => obtain ⟨p, q, r⟩ := h; exact ⟨p, q, (same_wo e).seq r⟩
theorem Rel.grow (h : Rel K H0 O0 O H ρ σ) (e : Same H H') : Rel K H0 O0 O H' ρ σ :=
  ⟨h.fr.trans e, h.sub, h.nw, fun p q z => by
    cases hp : H p with
    | none => exact h.al p q hp
    | some u => exact absurd ((e p u hp).symm.trans z) (fun y => nomatch y), h.len, fun i s q => (h.sl i s q).grow e, h.dj⟩
/-- the frozen part at the entry stays frozen -/
theorem Rel.frz (h : Rel K H0 O0 O H ρ σ) : Same (wo H0 O0) (wo H O) := fun b u q => by
  obtain ⟨n, e⟩ := wo_inv q
  refine wo_some (fun z => ?_) (h.fr b u e)
  rcases h.nw b z with z | z
  · exact n z
  · rw [e] at z; cases z
/-- the entry moved up to here: our own things left out -/
noncomputable def baseOf (H : Hp) (O0 O : Addr → Prop) : Hp := wo H fun p => O p ∧ ¬ O0 p
theorem Rel.rebase (h : Rel K H0 O0 O H ρ σ) : Rel K (baseOf H O0 O) O0 O H ρ σ :=
  ⟨wo_self, h.sub, fun p q => by
    by_cases z : O0 p
    · exact .inl z
    · exact .inr (wo_in ⟨q, z⟩), h.al, h.len, h.sl, h.dj⟩
theorem Rel.same_base (h : Rel K H0 O0 O H ρ σ) : Same H0 (baseOf H O0 O) := fun b u e => wo_some (fun ⟨z, n⟩ => by
  rcases h.nw b z with q | q
  · exact n q
  · rw [e] at q; cases q) (h.fr b u e)
theorem Rel.back (e : Same H0 H1) {ρ' : En} {σ' : L2.St} {O' : Addr → Prop} (h : Rel K H1 O0 O' H' ρ' σ') : Rel K H0 O0 O' H' ρ' σ' :=
  ⟨e.trans h.fr, h.sub, fun p q => by
    rcases h.nw p q with z | z
    · exact .inl z
    · exact .inr (e.free z), h.al, h.len, h.sl, h.dj⟩
theorem wo_base (hs : ∀ p, O0 p → O p) : wo (baseOf H O0 O) O0 = wo H O := by
  funext b
  unfold baseOf wo
  by_cases z : O0 b
  · rw [if_pos z, if_pos (hs b z)]
  · rw [if_neg z]
    by_cases y : O b
    · rw [if_pos ⟨y, z⟩, if_pos y]
    · rw [if_neg (fun q => y q.1), if_neg y]
/-- what stood frozen at a rebased entry stands frozen later -/
theorem Rel.keep {ρ' : En} {σ' : L2.St} {O' : Addr → Prop} (h : Rel K H0 O0 O H ρ σ) (h' : Rel K (baseOf H O0 O) O0 O' H' ρ' σ') : Same (wo H O) (wo H' O') := by
  have := h'.frz
  rwa [wo_base h.sub] at this
end

/-! ### exceptions -/
/-- the exception of class c (by the module's name) with the fields pl -/
def IsEx (K : PySem.W.Frag) (mg : Str → Option Value) (c : Str) (pl : List (Str × PD)) (cls : Value) (dx : Option Addr) (G : Hp) : Prop :=
  ∃ C, mg c = some (.ref C) ∧ cls = .ref C ∧ (pl = [] ∨ ∃ p fs, dx = some p ∧ G p = some (.xd fs) ∧ KvR K G fs pl)

/-- what a result asks: P of the value and the heap, W of an exception -/
def OutP {α : Type} (X : Cx) (W : WX) (O : Addr → Prop) (σ : L2.St) (H : Hp) (r : R α) (P : α → Hp → Prop) : Prop :=
  match r with
  | .ok a => ∀ H', Same H H' → P a H'
  | .ex c pl => ∀ cls dx H', Same H H' → IsEx X.K X.mg c pl cls dx (wo H' O) → W cls dx σ H'
  | .bad => False
section
variable {α β : Type} {X : Cx} {W : WX} {O : Addr → Prop} {σ : L2.St} {H H' : Hp} {r : R α} {P P' : α → Hp → Prop}
theorem OutP.imp (h : OutP X W O σ H r P) (f : ∀ a H', Same H H' → P a H' → P' a H') : OutP X W O σ H r P' := by
  cases r with
  | ok a => exact fun H' e => f a H' e (h H' e)
  | ex c pl => exact h
  | bad => exact h
theorem OutP.bind {g : α → R β} {Q : β → Hp → Prop} (h : OutP X W O σ H (r.bind g) Q) : OutP X W O σ H r (fun a H1 => OutP X W O σ H1 (g a) Q) := by
  cases r with
  | ok a =>
    intro H1 e
    have h' : OutP X W O σ H (g a) Q := h
    show OutP X W O σ H1 (g a) Q
    generalize g a = z at h'
    cases z with
    | ok b => exact fun H' e' => h' H' (e.trans e')
    | ex c pl => exact fun cls dx H' e' => h' cls dx H' (e.trans e')
    | bad => exact h'
  | ex c pl => exact h
  | bad => exact h
theorem OutP.ok {a : α} (h : OutP X W O σ H (.ok a) P) (e : Same H H') : P a H' := h H' e
end

/-! ### expressions -/
/-- the value stands for data that no one of the frame's own things lies in -/
structure DE (X : Cx) (W : WX) (e : Expr) (f : En → R PD) : Prop where
  ex : ∃ t, PE X e t ∧ ∀ H0 O0 O ρ σ H Q, Rel X.K H0 O0 O H ρ σ → OutP X W O σ H (f ρ) (fun d H' => ∀ v, Dq X.K (wo H' O) v d → Q v H') → t σ H Q
/-- .. or is itself such a list -/
def Dt (K : PySem.W.Frag) (O : Addr → Prop) (H : Hp) (v : V) (d : PD) : Prop :=
  Dq K (wo H O) v d ∨ ∃ p vs ds, v = .ref p ∧ H p = some (.lst vs) ∧ DqAll K (wo H O) vs ds ∧ d = .list ds
structure DV (X : Cx) (W : WX) (e : Expr) (f : En → R PD) : Prop where
  ex : ∃ t, PE X e t ∧ ∀ H0 O0 O ρ σ H Q, Rel X.K H0 O0 O H ρ σ → OutP X W O σ H (f ρ) (fun d H' => ∀ v, Dt X.K O H' v d → Q v H') → t σ H Q
theorem DE.dv {X : Cx} {W : WX} {e : Expr} {f : En → R PD} (h : DE X W e f) : DV X W e f :=
  let ⟨t, p, q⟩ := h.ex
  ⟨t, p, fun H0 O0 O ρ σ H Q r o => q H0 O0 O ρ σ H Q r (o.imp fun d H' _ z v hv => z v (.inl hv))⟩
theorem Dt.mono {K : PySem.W.Frag} {O : Addr → Prop} {H H' : Hp} {v : V} {d : PD} (h : Dt K O H v d) (e : Same H H') : Dt K O H' v d := by
  rcases h with h | ⟨p, vs, ds, r, q, z, y⟩
  · exact .inl (h.mono (same_wo e))
  · exact .inr ⟨p, vs, ds, r, e _ _ q, z.mono (same_wo e), y⟩
theorem Dt.dp {K : PySem.W.Frag} {O : Addr → Prop} {H : Hp} {v : V} {d : PD} (h : Dt K O H v d) : Dq K H v d := by
  rcases h with h | ⟨p, vs, ds, rfl, q, z, rfl⟩
  · exact h.mono wo_self
  · exact .lst (.inl (q)) (z.mono wo_self)
/-- a list or tuple, its items clean -/
theorem Dt.list {K : PySem.W.Frag} {O : Addr → Prop} {H : Hp} {v : V} {ds : List PD} (h : Dt K O H v (.list ds)) : ∃ a vs, v = .ref a ∧ Rd H a (.lst vs) ∧ DqAll K (wo H O) vs ds := by
  rcases h with h | ⟨p, vs, ds', rfl, q, z, e⟩
  · cases h with
    | lst h1 h2 => exact ⟨_, _, rfl, rd_mono wo_self h1, h2⟩
  · cases e; exact ⟨p, vs, rfl, .inl q, z⟩
theorem Dt.tuple {K : PySem.W.Frag} {O : Addr → Prop} {H : Hp} {v : V} {ds : List PD} (h : Dt K O H v (.tuple ds)) : ∃ a vs, v = .ref a ∧ SqT K (wo H O) a vs ∧ DqAll K (wo H O) vs ds := by
  rcases h with h | ⟨p, vs, ds', rfl, q, z, e⟩
  · cases h with
    | tup h1 h2 => exact ⟨_, _, rfl, h1, h2⟩
  · cases e
theorem Dq.sc_int {K : PySem.W.Frag} {H : Hp} {v : V} {i : Int} (h : Dq K H v (.int i)) : v = .int i := by cases h; rfl
theorem Dq.sc_bl {K : PySem.W.Frag} {H : Hp} {v : V} {b : Bool} (h : Dq K H v (.bool b)) : v = .bl b := by cases h; rfl
theorem Dq.sc_str {K : PySem.W.Frag} {H : Hp} {v : V} {z : Str} (h : Dq K H v (.str z)) : v = .str z := by cases h; rfl
theorem Dq.sc_non {K : PySem.W.Frag} {H : Hp} {v : V} (h : Dq K H v .none) : v = .non := by cases h; rfl
theorem Dt.sc_int {K : PySem.W.Frag} {O : Addr → Prop} {H : Hp} {v : V} {i : Int} (h : Dt K O H v (.int i)) : v = .int i := h.dp.sc_int
theorem Dt.sc_bl {K : PySem.W.Frag} {O : Addr → Prop} {H : Hp} {v : V} {i : Bool} (h : Dt K O H v (.bool i)) : v = .bl i := h.dp.sc_bl
theorem Dt.sc_str {K : PySem.W.Frag} {O : Addr → Prop} {H : Hp} {v : V} {i : Str} (h : Dt K O H v (.str i)) : v = .str i := h.dp.sc_str
theorem Dt.sc_non {K : PySem.W.Frag} {O : Addr → Prop} {H : Hp} {v : V} (h : Dt K O H v .none) : v = .non := h.dp.sc_non

section
variable {X : Cx} {W : WX} {a b e : Expr} {f g : En → R PD} {pos : Pos}
def cV (i : Nat) : En → R PD := fun ρ => match ρ[i]? with
  | some (.va d) => .ok d
  | _ => .bad
/-- .. whatever kind of list it is -/
def cW (i : Nat) : En → R PD := fun ρ => match ρ[i]? with
  | some (.va d) => .ok d
  | some (.ol ds) => .ok (.list ds)
  | _ => .bad
def cK (d : PD) : En → R PD := fun _ => .ok d
theorem de_v {i : Nat} (h : PE X e (tVar i)) : DE X W e (cV i) := by
  refine ⟨_, h, fun H0 O0 O ρ σ H Q r o => ?_⟩
  unfold cV at o
  cases hs : ρ[i]? with
  | none => rw [hs] at o; exact o.elim
  | some s =>
    rw [hs] at o
    have q := r.sl i s hs
    cases s with
    | va d => obtain ⟨v, e1, e2⟩ := q; exact ⟨v, e1, o H (Same.refl H) v e2⟩
    | un => exact o.elim
    | ol _ => exact o.elim
    | od _ => exact o.elim
    | ot _ => exact o.elim
    | sc _ => exact o.elim
theorem dv_v {i : Nat} (h : PE X e (tVar i)) : DV X W e (cW i) := by
  refine ⟨_, h, fun H0 O0 O ρ σ H Q r o => ?_⟩
  unfold cW at o
  cases hs : ρ[i]? with
  | none => rw [hs] at o; exact o.elim
  | some s =>
    rw [hs] at o
    have q := r.sl i s hs
    cases s with
    | va d => obtain ⟨v, e1, e2⟩ := q; exact ⟨v, e1, o H (Same.refl H) v (.inl e2)⟩
    | un => exact o.elim
    | ol ds => obtain ⟨p, vs, e1, _, _, e2, e3⟩ := q; exact ⟨_, e1, o H (Same.refl H) _ (.inr ⟨p, vs, ds, rfl, e2, e3, rfl⟩)⟩
    | od _ => exact o.elim
    | ot _ => exact o.elim
    | sc _ => exact o.elim
/-- a constant -/
theorem de_k {v : V} {d : PD} (h : PE X e (tC v)) (hd : ∀ K H, Dq K H v d) : DE X W e (cK d) :=
  ⟨_, h, fun H0 O0 O ρ σ H Q r o => o H (Same.refl H) v (hd _ _)⟩
theorem de_int {i : Int} {j} : DE X W (.Constant (.int i) j pos) (cK (.int i)) := de_k pe_int fun _ _ => .int i
theorem de_bl {i : Bool} {j} : DE X W (.Constant (.bool i) j pos) (cK (.bool i)) := de_k pe_bl fun _ _ => .bl i
theorem de_non {j} : DE X W (.Constant .none j pos) (cK .none) := de_k pe_non fun _ _ => .non
theorem de_str {x : Str} {j} : DE X W (.Constant (.str x) j pos) (cK (.str x)) := de_k pe_str fun _ _ => .str x

/-- an operation on two values -/
def OpD (X : Cx) (op : Value → Value → Sem Value) (F : PD → PD → R PD) : Prop :=
  ∃ r, OpR X op r ∧ ∀ W O σ H x y d e Q, (∀ p, H p = none → ¬ O p) → Dt X.K O H x d → Dt X.K O H y e → OutP X W O σ H (F d e) (fun d H' => ∀ v, Dq X.K (wo H' O) v d → Q v H') → r x y H Q
def c2 (F : PD → PD → R PD) (f g : En → R PD) : En → R PD := fun ρ => (f ρ).bind fun x => (g ρ).bind fun y => F x y
theorem de_op {op : Operator} {F : PD → PD → R PD} (ho : OpD X (binaryOp op) F) (ha : DV X W a f) (hb : DV X W b g) : DE X W (.BinOp a op b pos) (c2 F f g) := by
  obtain ⟨r, h1, h2⟩ := ho
  obtain ⟨ta, pa, qa⟩ := ha.ex
  obtain ⟨tb, pb, qb⟩ := hb.ex
  refine ⟨_, pe_op h1 pa pb, fun H0 O0 O ρ σ H Q rl o => ?_⟩
  refine qa H0 O0 O ρ σ H _ rl (o.bind.imp fun d H1 e1 o1 x hx => ?_)
  refine qb H0 O0 O ρ σ H1 _ (rl.grow e1) (o1.bind.imp fun d' H2 e2 o2 y hy => ?_)
  exact h2 W O σ H2 x y d d' Q (fun p n z => ((rl.grow e1).grow e2).al p z n) (hx.mono e2) hy o2
theorem de_cmp {op : CmpOp} {F : PD → PD → R PD} (ho : OpD X (compareOp op) F) (ha : DV X W a f) (hb : DV X W b g) (hm : behindInMarks op b = false) : DE X W (.Compare a [op] [b] pos) (c2 F f g) := by
  obtain ⟨r, h1, h2⟩ := ho
  obtain ⟨ta, pa, qa⟩ := ha.ex
  obtain ⟨tb, pb, qb⟩ := hb.ex
  refine ⟨_, pe_cmpR h1 pa pb hm, fun H0 O0 O ρ σ H Q rl o => ?_⟩
  refine qa H0 O0 O ρ σ H _ rl (o.bind.imp fun d H1 e1 o1 x hx => ?_)
  refine qb H0 O0 O ρ σ H1 _ (rl.grow e1) (o1.bind.imp fun d' H2 e2 o2 y hy => ?_)
  exact h2 W O σ H2 x y d d' Q (fun p n z => ((rl.grow e1).grow e2).al p z n) (hx.mono e2) hy o2
end
end DL
namespace DL
open PySem PySem.Spec L2

/-! ### truth -/
def big : Nat := 10000000
theorem big_line {n : Nat} (h : n ≤ big) : n ≤ sizeLine := by rw [sizeLine_eq]; unfold big at h; omega
theorem big_line' {n : Nat} (h : n < big) : n < sizeLine := by rw [sizeLine_eq]; unfold big at h; omega
def chk {α : Type} (c : Bool) (r : R α) : R α := if c = true then r else .bad
@[simp] theorem chk_t {α : Type} (r : R α) : chk true r = r := rfl
@[simp] theorem chk_f {α : Type} (r : R α) : chk false r = .bad := rfl
theorem chk_of {α : Type} {c : Bool} {r : R α} (h : c = true) : chk c r = r := by rw [h]; rfl
def tru : PD → R Bool
  | .none => .ok false
  | .bool b => .ok b
  | .int i => .ok (i != 0)
  | .str z => chk (decide (z.length ≤ big)) (.ok ((z.length : Int) != 0))
  | .list xs => .ok (!xs.isEmpty)
  | .tuple xs => .ok (!xs.isEmpty)
  | .dict _ => .bad
theorem OutP.chk {α : Type} {X : Cx} {W : WX} {O : Addr → Prop} {σ : L2.St} {H : Hp} {c : Bool} {r : R α} {P : α → Hp → Prop} (h : OutP X W O σ H (chk c r) P) : c = true ∧ OutP X W O σ H r P := by
  cases c with
  | true => exact ⟨rfl, h⟩
  | false => exact h.elim
theorem all_isEmpty {K : PySem.W.Frag} {H : Hp} {vs : List V} {ds : List PD} (h : DqAll K H vs ds) : (!vs.isEmpty) = !ds.isEmpty := by cases h <;> rfl
theorem tru_of {X : Cx} {W : WX} {O : Addr → Prop} {σ : L2.St} {H : Hp} {x : V} {d : PD} {Q : Bool → Hp → Prop} (hd : Dt X.K O H x d) (o : OutP X W O σ H (tru d) Q) : ∃ k, TruV X.K x H k ∧ Q k H := by
  cases d with
  | none => cases hd.sc_non; exact ⟨false, rfl, o H (Same.refl H)⟩
  | bool b => cases hd.sc_bl; exact ⟨b, rfl, o H (Same.refl H)⟩
  | int i => cases hd.sc_int; exact ⟨_, rfl, o H (Same.refl H)⟩
  | str z =>
    cases hd.sc_str
    obtain ⟨c, o⟩ := o.chk
    exact ⟨_, ⟨big_line (of_decide_eq_true c), rfl⟩, o H (Same.refl H)⟩
  | list xs =>
    obtain ⟨a, vs, rfl, h1, h2⟩ := hd.list
    exact ⟨_, .inl ⟨vs, .inl h1, rfl⟩, by rw [all_isEmpty h2]; exact o H (Same.refl H)⟩
  | tuple xs =>
    obtain ⟨a, vs, rfl, h1, h2⟩ := hd.tuple
    exact ⟨_, .inr (.inl ⟨vs, Same.seqT wo_self h1, rfl⟩), by rw [all_isEmpty h2]; exact o H (Same.refl H)⟩
  | dict _ => exact o.elim

/-! ### tests -/
structure DB (X : Cx) (W : WX) (e : Expr) (f : En → R Bool) : Prop where
  ex : ∃ t, PT X e t ∧ ∀ H0 O0 O ρ σ H Q, Rel X.K H0 O0 O H ρ σ → OutP X W O σ H (f ρ) Q → t σ H Q
/-- .. in a chain of and, or -/
structure DW (X : Cx) (W : WX) (e : Expr) (f : En → R Bool) : Prop where
  ex : ∃ t, PW X e t ∧ ∀ H0 O0 O ρ σ H Q, Rel X.K H0 O0 O H ρ σ → OutP X W O σ H (f ρ) Q → t σ H Q
def asB : PD → R Bool
  | .bool b => .ok b
  | _ => .bad
def bT (f : En → R PD) : En → R Bool := fun ρ => (f ρ).bind tru
def bC (F : PD → PD → R PD) (f g : En → R PD) : En → R Bool := fun ρ => (c2 F f g ρ).bind asB
def bAnd (f g : En → R Bool) : En → R Bool := fun ρ => (f ρ).bind fun b => if b = true then g ρ else .ok false
def bOr (f g : En → R Bool) : En → R Bool := fun ρ => (f ρ).bind fun b => if b = true then .ok true else g ρ
def bNot (f : En → R Bool) : En → R Bool := fun ρ => (f ρ).bind fun b => .ok (!b)
section
variable {X : Cx} {W : WX} {a b c e : Expr} {rest : List Expr} {f g h : En → R PD} {p q : En → R Bool} {pos : Pos}
theorem db_t (ha : DV X W a f) (he : ∀ whole, isTrue a X.env whole = (do let v ← whole; standAt a.pos; holding [v] (truthy v))) : DB X W a (bT f) := by
  obtain ⟨ta, pa, qa⟩ := ha.ex
  refine ⟨_, pt_truth pa he, fun H0 O0 O ρ σ H Q rl o => ?_⟩
  exact qa H0 O0 O ρ σ H _ rl (o.bind.imp fun d H1 e1 o1 x hx => tru_of hx o1)
theorem db_c {op : CmpOp} {F : PD → PD → R PD} (ho : OpD X (compareOp op) F) (ha : DV X W a f) (hb : DV X W b g) (hm : behindInMarks op b = false) : DB X W (.Compare a [op] [b] pos) (bC F f g) := by
  obtain ⟨r, h1, h2⟩ := ho
  obtain ⟨ta, pa, qa⟩ := ha.ex
  obtain ⟨tb, pb, qb⟩ := hb.ex
  refine ⟨_, pt_cmpR h1 pa pb hm, fun H0 O0 O ρ σ H Q rl o => ?_⟩
  refine qa H0 O0 O ρ σ H _ rl (o.bind.bind.imp fun d H1 e1 o1 x hx => ?_)
  refine qb H0 O0 O ρ σ H1 _ (rl.grow e1) (o1.bind.imp fun d' H2 e2 o2 y hy => ?_)
  refine h2 W O σ H2 x y d d' _ (fun p n z => ((rl.grow e1).grow e2).al p z n) (hx.mono e2) hy (o2.imp fun z H3 e3 o3 v hv => ?_)
  cases z with
  | bool k => cases hv.sc_bl; exact ⟨k, rfl, o3 H3 (Same.refl H3)⟩
  | _ => exact o3.elim
theorem db_w (h : DW X W e p) : DB X W e p := let ⟨t, x, y⟩ := h.ex; ⟨t, x.pt, y⟩
theorem dw_and1 (ha : DB X W a p) : DW X W (.BoolOp .And [a] pos) p := let ⟨t, x, y⟩ := ha.ex; ⟨t, pw_and1 x, y⟩
theorem dw_or1 (ha : DB X W a p) : DW X W (.BoolOp .Or [a] pos) p := let ⟨t, x, y⟩ := ha.ex; ⟨t, pw_or1 x, y⟩
theorem dw_and (ha : DB X W a p) (hb : DW X W (.BoolOp .And (b :: rest) pos) q) : DW X W (.BoolOp .And (a :: b :: rest) pos) (bAnd p q) := by
  obtain ⟨ta, pa, qa⟩ := ha.ex
  obtain ⟨tb, pb, qb⟩ := hb.ex
  refine ⟨_, pw_and pa pb, fun H0 O0 O ρ σ H Q rl o => ?_⟩
  refine qa H0 O0 O ρ σ H _ rl (o.bind.imp fun k H1 e1 o1 => ?_)
  cases k with
  | true => rw [if_pos rfl] at o1 ⊢; exact qb H0 O0 O ρ σ H1 Q (rl.grow e1) o1
  | false => rw [if_neg Bool.false_ne_true] at o1 ⊢; exact o1 H1 (Same.refl H1)
theorem dw_or (ha : DB X W a p) (hb : DW X W (.BoolOp .Or (b :: rest) pos) q) : DW X W (.BoolOp .Or (a :: b :: rest) pos) (bOr p q) := by
  obtain ⟨ta, pa, qa⟩ := ha.ex
  obtain ⟨tb, pb, qb⟩ := hb.ex
  refine ⟨_, pw_or pa pb, fun H0 O0 O ρ σ H Q rl o => ?_⟩
  refine qa H0 O0 O ρ σ H _ rl (o.bind.imp fun k H1 e1 o1 => ?_)
  cases k with
  | true => rw [if_pos rfl] at o1 ⊢; exact o1 H1 (Same.refl H1)
  | false => rw [if_neg Bool.false_ne_true] at o1 ⊢; exact qb H0 O0 O ρ σ H1 Q (rl.grow e1) o1
theorem db_not (ha : DB X W a p) : DB X W (.UnaryOp .Not a pos) (bNot p) := by
  obtain ⟨ta, pa, qa⟩ := ha.ex
  refine ⟨_, pt_not pa, fun H0 O0 O ρ σ H Q rl o => ?_⟩
  exact qa H0 O0 O ρ σ H _ rl (o.bind.imp fun k H1 e1 o1 => o1 H1 (Same.refl H1))

/-! ### and, or, not, if as values -/
def cAnd (f g : En → R PD) : En → R PD := fun ρ => (f ρ).bind fun d => (tru d).bind fun b => if b = true then g ρ else .ok d
def cOr (f g : En → R PD) : En → R PD := fun ρ => (f ρ).bind fun d => (tru d).bind fun b => if b = true then .ok d else g ρ
def cNot (f : En → R PD) : En → R PD := fun ρ => (f ρ).bind fun d => (tru d).bind fun b => .ok (.bool (!b))
def cIf (p : En → R Bool) (f g : En → R PD) : En → R PD := fun ρ => (p ρ).bind fun b => if b = true then f ρ else g ρ
theorem de_one {op} (h : DE X W a f) : DE X W (.BoolOp op [a] pos) f := let ⟨t, x, y⟩ := h.ex; ⟨t, pe_one x, y⟩
theorem de_and (ha : DE X W a f) (hb : DE X W (.BoolOp .And (b :: rest) pos) g) : DE X W (.BoolOp .And (a :: b :: rest) pos) (cAnd f g) := by
  obtain ⟨ta, pa, qa⟩ := ha.ex
  obtain ⟨tb, pb, qb⟩ := hb.ex
  refine ⟨_, pe_andT pa pb, fun H0 O0 O ρ σ H Q rl o => ?_⟩
  refine qa H0 O0 O ρ σ H _ rl (o.bind.imp fun d H1 e1 o1 x hx => ?_)
  obtain ⟨k, h1, h2⟩ := tru_of (.inl hx) o1.bind
  refine ⟨k, h1, ?_⟩
  cases k with
  | true => rw [if_pos rfl] at h2 ⊢; exact qb H0 O0 O ρ σ H1 Q (rl.grow e1) h2
  | false => rw [if_neg Bool.false_ne_true] at h2 ⊢; exact h2 H1 (Same.refl H1) x hx
theorem de_or (ha : DE X W a f) (hb : DE X W (.BoolOp .Or (b :: rest) pos) g) : DE X W (.BoolOp .Or (a :: b :: rest) pos) (cOr f g) := by
  obtain ⟨ta, pa, qa⟩ := ha.ex
  obtain ⟨tb, pb, qb⟩ := hb.ex
  refine ⟨_, pe_orT pa pb, fun H0 O0 O ρ σ H Q rl o => ?_⟩
  refine qa H0 O0 O ρ σ H _ rl (o.bind.imp fun d H1 e1 o1 x hx => ?_)
  obtain ⟨k, h1, h2⟩ := tru_of (.inl hx) o1.bind
  refine ⟨k, h1, ?_⟩
  cases k with
  | true => rw [if_pos rfl] at h2 ⊢; exact h2 H1 (Same.refl H1) x hx
  | false => rw [if_neg Bool.false_ne_true] at h2 ⊢; exact qb H0 O0 O ρ σ H1 Q (rl.grow e1) h2
theorem de_not (ha : DV X W a f) : DE X W (.UnaryOp .Not a pos) (cNot f) := by
  obtain ⟨ta, pa, qa⟩ := ha.ex
  refine ⟨_, pe_notT pa, fun H0 O0 O ρ σ H Q rl o => ?_⟩
  refine qa H0 O0 O ρ σ H _ rl (o.bind.imp fun d H1 e1 o1 x hx => ?_)
  obtain ⟨k, h1, h2⟩ := tru_of hx o1.bind
  exact ⟨k, h1, h2 H1 (Same.refl H1) _ (.bl _)⟩
theorem de_if (hc : DB X W c p) (ha : DE X W a f) (hb : DE X W b g) : DE X W (.IfExp c a b pos) (cIf p f g) := by
  obtain ⟨tc, pc, qc⟩ := hc.ex
  obtain ⟨ta, pa, qa⟩ := ha.ex
  obtain ⟨tb, pb, qb⟩ := hb.ex
  refine ⟨_, pe_ifExp pc pa pb, fun H0 O0 O ρ σ H Q rl o => ?_⟩
  refine qc H0 O0 O ρ σ H _ rl (o.bind.imp fun k H1 e1 o1 => ?_)
  cases k with
  | true => rw [if_pos rfl] at o1 ⊢; exact qa H0 O0 O ρ σ H1 Q (rl.grow e1) o1
  | false => rw [if_neg Bool.false_ne_true] at o1 ⊢; exact qb H0 O0 O ρ σ H1 Q (rl.grow e1) o1
/-- a op b op' c -/
def cChain (F G : PD → PD → R PD) (f g h : En → R PD) : En → R PD := fun ρ => (f ρ).bind fun x => (g ρ).bind fun y => (F x y).bind fun z => (asB z).bind fun k => if k = true then (h ρ).bind fun u => G y u else .ok (.bool false)
theorem chain_go {r r' : R2} {F G : PD → PD → R PD} (h2 : ∀ W O σ H x y d e Q, (∀ p, H p = none → ¬ O p) → Dt X.K O H x d → Dt X.K O H y e → OutP X W O σ H (F d e) (fun d H' => ∀ v, Dq X.K (wo H' O) v d → Q v H') → r x y H Q)
    (h2' : ∀ W O σ H x y d e Q, (∀ p, H p = none → ¬ O p) → Dt X.K O H x d → Dt X.K O H y e → OutP X W O σ H (G d e) (fun d H' => ∀ v, Dq X.K (wo H' O) v d → Q v H') → r' x y H Q)
    {ta tb tc : TE} (qa : ∀ H0 O0 O ρ σ H Q, Rel X.K H0 O0 O H ρ σ → OutP X W O σ H (f ρ) (fun d H' => ∀ v, Dt X.K O H' v d → Q v H') → ta σ H Q)
    (qb : ∀ H0 O0 O ρ σ H Q, Rel X.K H0 O0 O H ρ σ → OutP X W O σ H (g ρ) (fun d H' => ∀ v, Dt X.K O H' v d → Q v H') → tb σ H Q)
    (qc : ∀ H0 O0 O ρ σ H Q, Rel X.K H0 O0 O H ρ σ → OutP X W O σ H (h ρ) (fun d H' => ∀ v, Dt X.K O H' v d → Q v H') → tc σ H Q)
    (H0 : Hp) (O0 O : Addr → Prop) (ρ : En) (σ : L2.St) (H : Hp) (Q : VK) (rl : Rel X.K H0 O0 O H ρ σ) (o : OutP X W O σ H (cChain F G f g h ρ) (fun d H' => ∀ v, Dq X.K (wo H' O) v d → Q v H')) : tChain r r' ta tb tc σ H Q := by
  refine qa H0 O0 O ρ σ H _ rl (o.bind.imp fun d H1 e1 o1 x hx => ?_)
  refine qb H0 O0 O ρ σ H1 _ (rl.grow e1) (o1.bind.imp fun d' H2 e2 o2 y hy => ?_)
  refine h2 W O σ H2 x y d d' _ (fun p n z => ((rl.grow e1).grow e2).al p z n) (hx.mono e2) hy (o2.bind.imp fun z H3 e3 o3 v hv => ?_)
  cases z with
  | bool k =>
    cases hv.sc_bl
    refine ⟨k, rfl, ?_⟩
    have o4 := o3.bind H3 (Same.refl H3)
    cases k with
    | false => rw [if_neg Bool.false_ne_true] at o4 ⊢; exact o4 H3 (Same.refl H3) _ (.bl _)
    | true =>
      rw [if_pos rfl] at o4 ⊢
      exact qc H0 O0 O ρ σ H3 _ (rl.grow ((e1.trans e2).trans e3)) (o4.bind.imp fun u H4 e4 o5 w hw => h2' W O σ H4 y w d' u Q (fun p n z => (rl.grow (((e1.trans e2).trans e3).trans e4)).al p z n) (hy.mono (e3.trans e4)) hw o5)
  | _ => exact o3.elim
theorem de_chain {op op' : CmpOp} {F G : PD → PD → R PD} (ho : OpD X (compareOp op) F) (ho' : OpD X (compareOp op') G) (ha : DV X W a f) (hb : DV X W b g) (hc : DV X W c h)
    (hm : lastMarks [op, op'] [b, c] = false := by with_unfolding_all rfl) : DE X W (.Compare a [op, op'] [b, c] pos) (cChain F G f g h) := by
  obtain ⟨r, h1, h2⟩ := ho
  obtain ⟨r', h1', h2'⟩ := ho'
  obtain ⟨ta, pa, qa⟩ := ha.ex
  obtain ⟨tb, pb, qb⟩ := hb.ex
  obtain ⟨tc, pc, qc⟩ := hc.ex
  exact ⟨_, pe_chain h1 h1' pa pb pc hm, chain_go h2 h2' qa qb qc⟩
def bChain (F G : PD → PD → R PD) (f g h : En → R PD) : En → R Bool := fun ρ => (cChain F G f g h ρ).bind asB
theorem db_chain {op op' : CmpOp} {F G : PD → PD → R PD} (ho : OpD X (compareOp op) F) (ho' : OpD X (compareOp op') G) (ha : DV X W a f) (hb : DV X W b g) (hc : DV X W c h)
    (hm : lastMarks [op, op'] [b, c] = false := by with_unfolding_all rfl) : DB X W (.Compare a [op, op'] [b, c] pos) (bChain F G f g h) := by
  obtain ⟨r, h1, h2⟩ := ho
  obtain ⟨r', h1', h2'⟩ := ho'
  obtain ⟨ta, pa, qa⟩ := ha.ex
  obtain ⟨tb, pb, qb⟩ := hb.ex
  obtain ⟨tc, pc, qc⟩ := hc.ex
  refine ⟨_, pt_chain h1 h1' pa pb pc hm, fun H0 O0 O ρ σ H Q rl o => ?_⟩
  refine chain_go h2 h2' qa qb qc H0 O0 O ρ σ H _ rl (o.bind.imp fun z H1 e1 o1 v hv => ?_)
  cases z with
  | bool k => cases hv.sc_bl; exact ⟨k, rfl, o1 H1 (Same.refl H1)⟩
  | _ => exact o1.elim
end

/-! ### argument lists -/
/-- clean arguments (of a display, of a call of a def of the text) -/
structure DC (X : Cx) (W : WX) (es : List Expr) (f : En → R (List PD)) : Prop where
  ex : ∃ t, PA X es t ∧ ∀ H0 O0 O ρ σ H Q, Rel X.K H0 O0 O H ρ σ → OutP X W O σ H (f ρ) (fun ds H' => ∀ vs, DqAll X.K (wo H' O) vs ds → Q vs H') → t σ H Q
/-- arguments of a built-in -/
abbrev DtAll (K : PySem.W.Frag) (O : Addr → Prop) (H : Hp) : List V → List PD → Prop := Paired (Dt K O H)
structure DA (X : Cx) (W : WX) (es : List Expr) (f : En → R (List PD)) : Prop where
  ex : ∃ t, PA X es t ∧ ∀ H0 O0 O ρ σ H Q, Rel X.K H0 O0 O H ρ σ → OutP X W O σ H (f ρ) (fun ds H' => ∀ vs, DtAll X.K O H' vs ds → Q vs H') → t σ H Q
def cNil : En → R (List PD) := fun _ => .ok []
def cCons (f : En → R PD) (g : En → R (List PD)) : En → R (List PD) := fun ρ => (f ρ).bind fun d => (g ρ).bind fun ds => .ok (d :: ds)
section
variable {X : Cx} {W : WX} {e : Expr} {es : List Expr} {f : En → R PD} {g : En → R (List PD)} {pos : Pos}
theorem dc_nil : DC X W [] cNil := ⟨_, pa_nil, fun H0 O0 O ρ σ H Q rl o => o H (Same.refl H) [] .nil⟩
theorem dc_cons (ha : DE X W e f) (hr : DC X W es g) (hs : starEach (e :: es) X.env = (false, eval e X.env) :: starEach es X.env := by rfl) : DC X W (e :: es) (cCons f g) := by
  obtain ⟨ta, pa, qa⟩ := ha.ex
  obtain ⟨tb, pb, qb⟩ := hr.ex
  refine ⟨_, pa_cons pa pb hs, fun H0 O0 O ρ σ H Q rl o => ?_⟩
  refine qa H0 O0 O ρ σ H _ rl (o.bind.imp fun d H1 e1 o1 x hx => ?_)
  refine qb H0 O0 O ρ σ H1 _ (rl.grow e1) (o1.bind.imp fun ds H2 e2 o2 vs hv => ?_)
  exact o2 H2 (Same.refl H2) _ (.cons (hx.mono (same_wo e2)) hv)
theorem da_nil : DA X W [] cNil := ⟨_, pa_nil, fun H0 O0 O ρ σ H Q rl o => o H (Same.refl H) [] .nil⟩
theorem da_cons (ha : DV X W e f) (hr : DA X W es g) (hs : starEach (e :: es) X.env = (false, eval e X.env) :: starEach es X.env := by rfl) : DA X W (e :: es) (cCons f g) := by
  obtain ⟨ta, pa, qa⟩ := ha.ex
  obtain ⟨tb, pb, qb⟩ := hr.ex
  refine ⟨_, pa_cons pa pb hs, fun H0 O0 O ρ σ H Q rl o => ?_⟩
  refine qa H0 O0 O ρ σ H _ rl (o.bind.imp fun d H1 e1 o1 x hx => ?_)
  refine qb H0 O0 O ρ σ H1 _ (rl.grow e1) (o1.bind.imp fun ds H2 e2 o2 vs hv => ?_)
  exact o2 H2 (Same.refl H2) _ (.cons (hx.mono e2) hv)

/-! ### displays -/
theorem Rel.fresh {K : PySem.W.Frag} {H0 H : Hp} {O0 O : Addr → Prop} {ρ : En} {σ : L2.St} (rl : Rel K H0 O0 O H ρ σ) {p : Addr} (h : H p = none) : ¬ O p := fun z => rl.al p z h
theorem wo_new {H : Hp} {O : Addr → Prop} {p : Addr} {o : HO} (h : ¬ O p) : wo (upd H p o) O p = some o := wo_some h upd_same
theorem all_grow {K : PySem.W.Frag} {H : Hp} {O : Addr → Prop} {p : Addr} {o : HO} {vs : List V} {ds : List PD} (n : H p = none) (h : DqAll K (wo H O) vs ds) : DqAll K (wo (upd H p o) O) vs ds := h.mono (same_wo (Same.updNew n))
def mkT (ds : List PD) : R PD := chk (decide (ds.length ≤ big)) (.ok (.tuple ds))
def mkL (ds : List PD) : R (List PD) := chk (decide (ds.length ≤ big)) (.ok ds)
def cTup (g : En → R (List PD)) : En → R PD := fun ρ => (g ρ).bind mkT
theorem de_tup {k : Nat} (h : DC X W es g) : DE X W (.Tuple es k pos) (cTup g) := by
  obtain ⟨ta, pa, qa⟩ := h.ex
  refine ⟨_, pe_tup pa, fun H0 O0 O ρ σ H Q rl o => ?_⟩
  refine qa H0 O0 O ρ σ H _ rl (o.bind.imp fun ds H1 e1 o1 vs hv => ?_)
  obtain ⟨c, o1⟩ := OutP.chk o1
  refine ⟨by rw [hv.length]; exact big_line (of_decide_eq_true c), fun p np => ?_⟩
  have nO := (rl.grow e1).fresh np
  exact o1 _ (Same.updNew np) _ (.tup (.inl (.inl (wo_new nO))) (all_grow np hv))
/-- a value that is a new list -/
structure DF (X : Cx) (W : WX) (e : Expr) (f : En → R (List PD)) : Prop where
  ex : ∃ t, PE X e t ∧ ∀ H0 O0 O ρ σ H Q, Rel X.K H0 O0 O H ρ σ → OutP X W O σ H (f ρ) (fun ds H1 => ∀ p vs H2, H1 p = none → DqAll X.K (wo H1 O) vs ds → H2 = upd H1 p (.lst vs) → Q (.ref p) H2) → t σ H Q
def cL (f : En → R (List PD)) : En → R PD := fun ρ => (f ρ).bind fun ds => .ok (.list ds)
theorem DF.de (h : DF X W e g) : DE X W e (cL g) := by
  obtain ⟨ta, pa, qa⟩ := h.ex
  refine ⟨_, pa, fun H0 O0 O ρ σ H Q rl o => ?_⟩
  refine qa H0 O0 O ρ σ H _ rl (o.bind.imp fun ds H1 e1 o1 p vs H2 np hv e2 => ?_)
  subst e2
  have nO := (rl.grow e1).fresh np
  exact o1 _ (Same.updNew np) _ (.lst (.inl ((wo_new nO))) (all_grow np hv))
def cLst (g : En → R (List PD)) : En → R (List PD) := fun ρ => (g ρ).bind mkL
theorem df_lst (h : DC X W es g) : DF X W (.List es pos) (cLst g) := by
  obtain ⟨ta, pa, qa⟩ := h.ex
  refine ⟨_, pe_lst pa, fun H0 O0 O ρ σ H Q rl o => ?_⟩
  refine qa H0 O0 O ρ σ H _ rl (o.bind.imp fun ds H1 e1 o1 vs hv => ?_)
  obtain ⟨c, o1⟩ := OutP.chk o1
  exact ⟨by rw [hv.length]; exact big_line (of_decide_eq_true c), fun p np => o1 H1 (Same.refl H1) p vs _ np hv rfl⟩

/-! ### calls of built-ins -/
def CallD (X : Cx) (u : Value) (F : List PD → R PD) : Prop :=
  ∃ r, CallR X u r ∧ ∀ W O σ H xs ds Q, (∀ p, H p = none → ¬ O p) → DtAll X.K O H xs ds → OutP X W O σ H (F ds) (fun d H' => ∀ v, Dq X.K (wo H' O) v d → Q v H') → r xs H Q
def cCl (F : List PD → R PD) (g : En → R (List PD)) : En → R PD := fun ρ => (g ρ).bind F
theorem de_callB {x : Str} {p : Pos} {id : String} {F : List PD → R PD} (hc : CallD X (.builtin id) F) (hg : Gl X x) (hm : X.mg x = none) (hv : bootBuiltins x = some (.builtin id)) (ha : DA X W (e :: es) g) (hn : x ≠ "__name__" := by decide) (hdb : (x == ("__debug__" : Str)) = false := by decide)
    (he : starEach (e :: es) X.env = (false, eval e X.env) :: starEach es X.env := by rfl) (hpl : (backTo pos (starEach es X.env)).any (·.1) = false := by rfl) : DE X W (.Call (.Name x p) (e :: es) [] pos) (cCl F g) := by
  obtain ⟨r, h1, h2⟩ := hc
  obtain ⟨ta, pa, qa⟩ := ha.ex
  refine ⟨_, pe_callB h1 hg hm hv pa hn hdb he hpl, fun H0 O0 O ρ σ H Q rl o => ?_⟩
  exact qa H0 O0 O ρ σ H _ rl (o.bind.imp fun ds H1 e1 o1 vs hv => h2 W O σ H1 vs ds Q (fun p n => (rl.grow e1).fresh n) hv o1)
theorem de_callTy {x : Str} {p : Pos} {T : String} {F : List PD → R PD} (hc : CallD X (.type T) F) (hg : Gl X x) (hm : X.mg x = none) (hv : bootBuiltins x = some (.type T)) (ha : DA X W (e :: es) g) (hn : x ≠ "__name__" := by decide) (hdb : (x == ("__debug__" : Str)) = false := by decide)
    (he : starEach (e :: es) X.env = (false, eval e X.env) :: starEach es X.env := by rfl) (hpl : (backTo pos (starEach es X.env)).any (·.1) = false := by rfl) : DE X W (.Call (.Name x p) (e :: es) [] pos) (cCl F g) := by
  obtain ⟨r, h1, h2⟩ := hc
  obtain ⟨ta, pa, qa⟩ := ha.ex
  refine ⟨_, pe_callTy h1 hg hm hv pa hn hdb he hpl, fun H0 O0 O ρ σ H Q rl o => ?_⟩
  exact qa H0 O0 O ρ σ H _ rl (o.bind.imp fun ds H1 e1 o1 vs hv => h2 W O σ H1 vs ds Q (fun p n => (rl.grow e1).fresh n) hv o1)

/-- .. that gives a new list -/
def CallF (X : Cx) (u : Value) (F : List PD → R (List PD)) : Prop :=
  ∃ r, CallR X u r ∧ ∀ W O σ H xs ds Q, (∀ p, H p = none → ¬ O p) → DtAll X.K O H xs ds → OutP X W O σ H (F ds) (fun ds H1 => ∀ p vs H2, H1 p = none → DqAll X.K (wo H1 O) vs ds → H2 = upd H1 p (.lst vs) → Q (.ref p) H2) → r xs H Q
def cClF (F : List PD → R (List PD)) (g : En → R (List PD)) : En → R (List PD) := fun ρ => (g ρ).bind F
theorem df_callB {x : Str} {p : Pos} {id : String} {F : List PD → R (List PD)} (hc : CallF X (.builtin id) F) (hg : Gl X x) (hm : X.mg x = none) (hv : bootBuiltins x = some (.builtin id)) (ha : DA X W (e :: es) g) (hn : x ≠ "__name__" := by decide) (hdb : (x == ("__debug__" : Str)) = false := by decide)
    (he : starEach (e :: es) X.env = (false, eval e X.env) :: starEach es X.env := by rfl) (hpl : (backTo pos (starEach es X.env)).any (·.1) = false := by rfl) : DF X W (.Call (.Name x p) (e :: es) [] pos) (cClF F g) := by
  obtain ⟨r, h1, h2⟩ := hc
  obtain ⟨ta, pa, qa⟩ := ha.ex
  refine ⟨_, pe_callB h1 hg hm hv pa hn hdb he hpl, fun H0 O0 O ρ σ H Q rl o => ?_⟩
  exact qa H0 O0 O ρ σ H _ rl (o.bind.imp fun ds H1 e1 o1 vs hv => h2 W O σ H1 vs ds _ (fun p n => (rl.grow e1).fresh n) hv o1)
theorem df_callTy {x : Str} {p : Pos} {T : String} {F : List PD → R (List PD)} (hc : CallF X (.type T) F) (hg : Gl X x) (hm : X.mg x = none) (hv : bootBuiltins x = some (.type T)) (ha : DA X W (e :: es) g) (hn : x ≠ "__name__" := by decide) (hdb : (x == ("__debug__" : Str)) = false := by decide)
    (he : starEach (e :: es) X.env = (false, eval e X.env) :: starEach es X.env := by rfl) (hpl : (backTo pos (starEach es X.env)).any (·.1) = false := by rfl) : DF X W (.Call (.Name x p) (e :: es) [] pos) (cClF F g) := by
  obtain ⟨r, h1, h2⟩ := hc
  obtain ⟨ta, pa, qa⟩ := ha.ex
  refine ⟨_, pe_callTy h1 hg hm hv pa hn hdb he hpl, fun H0 O0 O ρ σ H Q rl o => ?_⟩
  exact qa H0 O0 O ρ σ H _ rl (o.bind.imp fun ds H1 e1 o1 vs hv => h2 W O σ H1 vs ds _ (fun p n => (rl.grow e1).fresh n) hv o1)

/-! ### a unary operator -/
def UnD (X : Cx) (op : Value → Sem Value) (F : PD → R PD) : Prop :=
  ∃ r, UnR X op r ∧ ∀ W O σ H x d Q, (∀ p, H p = none → ¬ O p) → Dt X.K O H x d → OutP X W O σ H (F d) (fun d H' => ∀ v, Dq X.K (wo H' O) v d → Q v H') → r x H Q
def c1 (F : PD → R PD) (f : En → R PD) : En → R PD := fun ρ => (f ρ).bind F
theorem de_un {op : UnaryOp} {F : PD → R PD} (ho : UnD X (unaryOp op) F) (ha : DE X W e f) : DE X W (.UnaryOp op e pos) (c1 F f) := by
  obtain ⟨r, h1, h2⟩ := ho
  obtain ⟨ta, pa, qa⟩ := ha.ex
  refine ⟨_, pe_un h1 pa, fun H0 O0 O ρ σ H Q rl o => ?_⟩
  exact qa H0 O0 O ρ σ H _ rl (o.bind.imp fun d H1 e1 o1 x hx => h2 W O σ H1 x d Q (fun p n => (rl.grow e1).fresh n) (.inl hx) o1)

/-! ### items -/
def ixD : PD → PD → R PD
  | .list ds, .int i => match atI ds i with
    | some d => .ok d
    | none => .bad
  | .tuple ds, .int i => match atI ds i with
    | some d => .ok d
    | none => .bad
  | .str z, .int i => chk (decide (z.length ≤ big)) (match atI z.cps.toList i with
    | some c => .ok (.str ⟨#[c]⟩)
    | none => .bad)
  | _, _ => .bad
theorem atI_all {K : PySem.W.Frag} {H : Hp} {vs : List V} {ds : List PD} {i : Int} {d : PD} (h : DqAll K H vs ds) (e : atI ds i = some d) : ∃ v, atI vs i = some v ∧ Dq K H v d := by
  unfold atI at e ⊢
  rw [h.length]
  cases q : ixN ds.length i with
  | none => rw [q] at e; cases e
  | some j =>
    rw [q] at e
    exact h.get e
theorem de_ix {a b : Expr} {f g : En → R PD} (ha : DV X W a f) (hb : DV X W b g) (hs : PlainIx b) : DE X W (.Subscript a b pos) (c2 ixD f g) := by
  obtain ⟨ta, pa, qa⟩ := ha.ex
  obtain ⟨tb, pb, qb⟩ := hb.ex
  refine ⟨_, pe_ix ix_seq pa pb hs, fun H0 O0 O ρ σ H Q rl o => ?_⟩
  refine qa H0 O0 O ρ σ H _ rl (o.bind.imp fun d H1 e1 o1 x hx => ?_)
  refine qb H0 O0 O ρ σ H1 _ (rl.grow e1) (o1.bind.imp fun d' H2 e2 o2 y hy => ?_)
  have hx := hx.mono e2
  cases d' with
  | int i =>
    cases hy.sc_int
    cases d with
    | list ds =>
      obtain ⟨a, vs, rfl, h1, h2⟩ := hx.list
      unfold ixD at o2
      cases q : atI ds i with
      | none => simp only [q] at o2; exact o2.elim
      | some d =>
        simp only [q] at o2
        obtain ⟨v, k1, k2⟩ := atI_all h2 q
        exact .inl ⟨a, vs, i, v, rfl, rfl, .inl h1, k1, o2 H2 (Same.refl H2) v k2⟩
    | tuple ds =>
      obtain ⟨a, vs, rfl, h1, h2⟩ := hx.tuple
      unfold ixD at o2
      cases q : atI ds i with
      | none => simp only [q] at o2; exact o2.elim
      | some d =>
        simp only [q] at o2
        obtain ⟨v, k1, k2⟩ := atI_all h2 q
        exact .inr (.inl ⟨a, vs, i, v, rfl, rfl, Same.seqT wo_self h1, k1, o2 H2 (Same.refl H2) v k2⟩)
    | str z =>
      cases hx.sc_str
      unfold ixD at o2
      obtain ⟨c, o2⟩ := OutP.chk o2
      cases q : atI z.cps.toList i with
      | none => simp only [q] at o2; exact o2.elim
      | some d =>
        simp only [q] at o2
        exact .inr (.inr ⟨z, i, d, rfl, rfl, big_line (of_decide_eq_true c), q, o2 H2 (Same.refl H2) _ (.str _)⟩)
    | _ => exact o2.elim
  | _ => cases d <;> exact o2.elim
end
end DL
namespace DL
open PySem PySem.Spec L2

/-! ### statements -/
def OutS (K : PySem.W.Frag) (mg : Str → Option Value) (W : WX) (H0 : Hp) (O0 : Addr → Prop) (D : Ends) (o : Fl) : Prop :=
  match o with
  | .nx ρ => ∀ O H σ, Rel K H0 O0 O H ρ σ → D.nx σ H
  | .rt d => ∀ v H, Same H0 H → Dq K (wo H O0) v d → D.rt v H
  | .bk ρ => ∀ O H σ, Rel K H0 O0 O H ρ σ → D.bk σ H
  | .ct ρ => ∀ O H σ, Rel K H0 O0 O H ρ σ → D.ct σ H
  | .ex c pl ρ => ∀ O H σ cls dx, Rel K H0 O0 O H ρ σ → IsEx K mg c pl cls dx (wo H O) → W cls dx σ H
  | .bad => False
structure DS (X : Cx) (W : WX) (st : Stmt) (g : En → Fl) : Prop where
  ex : ∃ t, PS X st t ∧ ∀ H0 O0 O ρ σ H D, Rel X.K H0 O0 O H ρ σ → OutS X.K X.mg W H0 O0 D (g ρ) → t D σ H
structure DSs (X : Cx) (W : WX) (st : List Stmt) (g : En → Fl) : Prop where
  ex : ∃ t, PSs X st t ∧ ∀ H0 O0 O ρ σ H D, Rel X.K H0 O0 O H ρ σ → OutS X.K X.mg W H0 O0 D (g ρ) → t D σ H

def toS {α : Type} (ρ : En) (r : R α) (k : α → Fl) : Fl := match r with
  | .ok a => k a
  | .ex c pl => .ex c pl ρ
  | .bad => .bad
@[simp] theorem toS_ok {α : Type} (ρ : En) (a : α) (k : α → Fl) : toS ρ (.ok a) k = k a := rfl
@[simp] theorem toS_ex {α : Type} (ρ : En) (c pl) (k : α → Fl) : toS ρ (.ex c pl) k = .ex c pl ρ := rfl
@[simp] theorem toS_bad {α : Type} (ρ : En) (k : α → Fl) : toS ρ .bad k = .bad := rfl
section
variable {K : PySem.W.Frag} {mg : Str → Option Value} {W : WX} {H0 H H' H1 : Hp} {O0 O : Addr → Prop} {ρ : En} {σ : L2.St} {D : Ends} {p : Addr} {o : HO} {i : Nat} {X : Cx}
theorem OutS.ofR {α : Type} {r : R α} {k : α → Fl} (rl : Rel X.K H0 O0 O H ρ σ) (h : OutS X.K X.mg W H0 O0 D (toS ρ r k)) : OutP X W O σ H r (fun a _ => OutS X.K X.mg W H0 O0 D (k a)) := by
  cases r with
  | ok a => exact fun _ _ => h
  | ex c pl => exact fun cls dx H' e i => h O H' σ cls dx (rl.grow e) i
  | bad => exact h
theorem SlR.weak {O' : Addr → Prop} {s : Sl} {x : Option (Option V)} (h : SlR K O0 O H s x) (ns : Sl.own s = false) (e : Same (wo H O) (wo H' O')) : SlR K O0 O' H' s x := by
  cases s with
  | un => trivial
  | va d => obtain ⟨v, q, r⟩ := h; exact ⟨v, q, r.mono e⟩
  | sc ns => obtain ⟨v, q, r⟩ := h; exact ⟨v, q, e.seq r⟩
  | _ => cases ns
/-- an own thing at p, by its slot -/
def OwnAt (K : PySem.W.Frag) (O0 O : Addr → Prop) (H : Hp) (s : Sl) (p : Addr) : Prop := O p ∧ ¬ O0 p ∧ H p ≠ none
theorem SlR.own_at {s : Sl} {x : Option (Option V)} (h : SlR K O0 O H s x) (ns : Sl.own s = true) : ∃ p, x = some (some (.ref p)) ∧ O p ∧ ¬ O0 p ∧ H p ≠ none := by
  cases s with
  | un => cases ns
  | va d => cases ns
  | sc d => cases ns
  | ol ds => obtain ⟨p, vs, q, m, n, r, z⟩ := h; exact ⟨p, q, m, n, by rw [r]; exact fun y => nomatch y⟩
  | od ds => obtain ⟨p, vs, q, m, n, r, z⟩ := h; exact ⟨p, q, m, n, by rw [r]; exact fun y => nomatch y⟩
  | ot ds => obtain ⟨p, vs, q, m, n, r, z⟩ := h; exact ⟨p, q, m, n, by rw [r]; exact fun y => nomatch y⟩
/-- another heap and other own addresses: the frozen part grows, this slot's own object stands -/
theorem SlR.move {O' : Addr → Prop} {s : Sl} {x : Option (Option V)} (h : SlR K O0 O H s x) (e : Same (wo H O) (wo H' O')) (k : ∀ p, x = some (some (.ref p)) → O p → H p ≠ none → O' p ∧ H' p = H p ∨ Sl.own s = false) : SlR K O0 O' H' s x := by
  cases s with
  | un => trivial
  | va d => obtain ⟨v, q, r⟩ := h; exact ⟨v, q, r.mono e⟩
  | sc ns => obtain ⟨v, q, r⟩ := h; exact ⟨v, q, e.seq r⟩
  | ol ds =>
    obtain ⟨p, vs, q, m, n, r, z⟩ := h
    rcases k p q m (by rw [r]; exact fun y => nomatch y) with ⟨k1, k2⟩ | k
    · exact ⟨p, vs, q, k1, n, by rw [k2]; exact r, z.mono e⟩
    · cases k
  | od ds =>
    obtain ⟨p, vs, q, m, n, r, z⟩ := h
    rcases k p q m (by rw [r]; exact fun y => nomatch y) with ⟨k1, k2⟩ | k
    · exact ⟨p, vs, q, k1, n, by rw [k2]; exact r, z.mono e⟩
    · cases k
  | ot ds =>
    obtain ⟨p, vs, q, m, n, r, z⟩ := h
    rcases k p q m (by rw [r]; exact fun y => nomatch y) with ⟨k1, k2⟩ | k
    · exact ⟨p, vs, q, k1, n, by rw [k2]; exact r, z.mono e⟩
    · cases k
theorem get_set {α : Type} {l : List α} {i j : Nat} {a s : α} (h : (l.set i a)[j]? = some s) : (j = i ∧ s = a ∧ i < l.length) ∨ (j ≠ i ∧ l[j]? = some s) := by
  by_cases e : i = j
  · subst e
    by_cases hi : i < l.length
    · rw [List.getElem?_set_self hi] at h; exact .inl ⟨rfl, (Option.some.inj h).symm, hi⟩
    · rw [List.getElem?_eq_none (by simpa using hi)] at h; cases h
  · rw [List.getElem?_set_ne e] at h; exact .inr ⟨fun z => e z.symm, h⟩
/-- a slot takes data -/
theorem Rel.setV {v : V} {d : PD} (h : Rel K H0 O0 O H ρ σ) (hd : Dq K (wo H O) v d) (i : Nat) : Rel K H0 O0 O H (ρ.set i (.va d)) (σ.set i (some v)) := by
  refine ⟨h.fr, h.sub, h.nw, h.al, by simp [h.len], fun j s q => ?_, fun j l s s' p hjl q q' ns ns' e e' => ?_⟩
  · rcases get_set q with ⟨rfl, rfl, hi⟩ | ⟨hj, q⟩
    · rw [List.getElem?_set_self (by rw [← h.len]; exact hi)]; exact ⟨v, rfl, hd⟩
    · rw [List.getElem?_set_ne (Ne.symm hj)]; exact h.sl j s q
  · rcases get_set q with ⟨rfl, rfl, hi⟩ | ⟨hj, q⟩
    · cases ns
    · rcases get_set q' with ⟨rfl, rfl, hi⟩ | ⟨hl, q'⟩
      · cases ns'
      · rw [List.getElem?_set_ne (Ne.symm hj)] at e
        rw [List.getElem?_set_ne (Ne.symm hl)] at e'
        exact h.dj j l s s' p hjl q q' ns ns' e e'
theorem wo_add (n : H p = none) : Same (wo H O) (wo (upd H p o) (fun q => O q ∨ q = p)) := fun b u e => by
  obtain ⟨e1, e2⟩ := wo_inv e
  have hb : b ≠ p := ne_of_none e2 n
  refine wo_some (fun z => z.elim e1 hb) ?_
  rw [upd_ne hb]; exact e2
/-- a slot takes a new own thing -/
theorem Rel.setO {s' : Sl} (h : Rel K H0 O0 O H ρ σ) (n : H p = none) (i : Nat) (hs : SlR K O0 (fun q => O q ∨ q = p) (upd H p o) s' (some (some (.ref p)))) : Rel K H0 O0 (fun q => O q ∨ q = p) (upd H p o) (ρ.set i s') (σ.set i (some (.ref p))) := by
  refine ⟨h.fr.trans (Same.updNew n), fun q z => .inl (h.sub q z), fun q z => ?_, fun q z => ?_, by simp [h.len], fun j s q => ?_, fun j l s s2 q hjl g g' ns ns' e e' => ?_⟩
  · rcases z with z | rfl
    · exact h.nw q z
    · exact .inr (h.fr.free n)
  · by_cases hq : q = p
    · subst hq; rw [upd_same]; exact fun y => nomatch y
    · rw [upd_ne hq]; exact h.al q (z.resolve_right hq)
  · rcases get_set q with ⟨rfl, rfl, hi⟩ | ⟨hj, q⟩
    · rw [List.getElem?_set_self (by rw [← h.len]; exact hi)]; exact hs
    · rw [List.getElem?_set_ne (Ne.symm hj)]
      refine (h.sl j s q).move (wo_add n) fun r hr hO hn => .inl ⟨.inl hO, ?_⟩
      rw [upd_ne (fun z => hn (by rw [z]; exact n))]
  · have old : ∀ {j : Nat} {s : Sl} {q : Addr}, ρ[j]? = some s → Sl.own s = true → σ[j]? = some (some (.ref q)) → q ≠ p := fun {j s q} g ns e z => by
      obtain ⟨r, e1, _, _, e2⟩ := (h.sl j s g).own_at ns
      rw [e] at e1; cases e1
      exact e2 (by rw [z]; exact n)
    rcases get_set g with ⟨rfl, rfl, hi⟩ | ⟨hj, k1⟩
    · rcases get_set g' with ⟨rfl, rfl, hl⟩ | ⟨hl, k2⟩
      · exact hjl rfl
      · rw [List.getElem?_set_self (by rw [← h.len]; exact hi)] at e
        rw [List.getElem?_set_ne (Ne.symm hl)] at e'
        cases e
        exact old k2 ns' e' rfl
    · rw [List.getElem?_set_ne (Ne.symm hj)] at e
      rcases get_set g' with ⟨rfl, rfl, hl⟩ | ⟨hl, k2⟩
      · rw [List.getElem?_set_self (by rw [← h.len]; exact hl)] at e'
        cases e'
        exact old k1 ns e rfl
      · rw [List.getElem?_set_ne (Ne.symm hl)] at e'
        exact h.dj j l s s2 q hjl k1 k2 ns ns' e e'
/-- an own thing is changed -/
theorem Rel.updO {s s' : Sl} (h : Rel K H0 O0 O H ρ σ) (hi : ρ[i]? = some s) (ns : Sl.own s = true) (ns' : Sl.own s' = true) (hσ : σ[i]? = some (some (.ref p))) (hs : SlR K O0 O (upd H p o) s' (some (some (.ref p)))) : Rel K H0 O0 O (upd H p o) (ρ.set i s') σ := by
  obtain ⟨p', e1, m1, m2, m3⟩ := (h.sl i s hi).own_at ns
  rw [hσ] at e1; cases e1
  have h0 : H0 p = none := by
    rcases h.nw p m1 with z | z
    · exact absurd z m2
    · exact z
  refine ⟨fun b u e => ?_, h.sub, h.nw, fun q z => ?_, by simp [h.len], fun j t q => ?_, fun j l t t2 q hjl g g' n1 n2 e e' => ?_⟩
  · rw [upd_ne (ne_of_none e h0)]; exact h.fr b u e
  · by_cases hq : q = p
    · subst hq; rw [upd_same]; exact fun y => nomatch y
    · rw [upd_ne hq]; exact h.al q z
  · rcases get_set q with ⟨rfl, rfl, hi'⟩ | ⟨hj, q⟩
    · rw [hσ]; exact hs
    · refine (h.sl j t q).move (by rw [wo_upd m1]; exact Same.refl _) fun r hr hO hn => ?_
      by_cases hown : Sl.own t = true
      · refine .inl ⟨hO, ?_⟩
        rw [upd_ne (fun z => h.dj i j s t p (Ne.symm hj) hi q ns hown hσ (by rw [hr, z]))]
      · exact .inr (by simpa using hown)
  · rcases get_set g with ⟨rfl, rfl, _⟩ | ⟨hj, k1⟩
    · rcases get_set g' with ⟨rfl, rfl, _⟩ | ⟨hl, k2⟩
      · exact hjl rfl
      · exact h.dj j l s t2 q hjl hi k2 ns n2 e e'
    · rcases get_set g' with ⟨rfl, rfl, _⟩ | ⟨hl, k2⟩
      · exact h.dj j l t s q hjl k1 hi n1 ns e e'
      · exact h.dj j l t t2 q hjl k1 k2 n1 n2 e e'
/-- an own list is changed no more -/
theorem Rel.freeze {ds : List PD} (h : Rel K H0 O0 O H ρ σ) (hi : ρ[i]? = some (.ol ds)) : ∃ O', Rel K H0 O0 O' H (ρ.set i (.va (.list ds))) σ := by
  obtain ⟨p, vs, e1, m1, m2, m3, m4⟩ := h.sl i _ hi
  have sb : Same (wo H O) (wo H fun q => O q ∧ q ≠ p) := wo_sub fun q z => z.1
  refine ⟨fun q => O q ∧ q ≠ p, h.fr, fun q z => ⟨h.sub q z, fun y => m2 (by rw [← y]; exact z)⟩, fun q z => h.nw q z.1, fun q z => h.al q z.1, by simp [h.len], fun j t q => ?_, fun j l t t2 q hjl g g' n1 n2 e e' => ?_⟩
  · rcases get_set q with ⟨rfl, rfl, _⟩ | ⟨hj, q⟩
    · exact ⟨_, e1, .lst (.inl ((wo_some (fun z => z.2 rfl) m3))) (m4.mono sb)⟩
    · refine (h.sl j t q).move sb fun r hr hO hn => ?_
      by_cases hown : Sl.own t = true
      · exact .inl ⟨⟨hO, fun z => h.dj i j _ t p (Ne.symm hj) hi q rfl hown e1 (by rw [hr, z])⟩, rfl⟩
      · exact .inr (by simpa using hown)
  · rcases get_set g with ⟨rfl, rfl, _⟩ | ⟨hj, k1⟩
    · cases n1
    · rcases get_set g' with ⟨rfl, rfl, _⟩ | ⟨hl, k2⟩
      · cases n2
      · exact h.dj j l t t2 q hjl k1 k2 n1 n2 e e'
end

/-! ### blocks -/
def sNx : En → Fl := fun ρ => .nx ρ
def sSeq (g h : En → Fl) : En → Fl := fun ρ => match g ρ with
  | .nx ρ' => h ρ'
  | .rt d => .rt d
  | .bk ρ' => .bk ρ'
  | .ct ρ' => .ct ρ'
  | .ex c pl ρ' => .ex c pl ρ'
  | .bad => .bad
def sSet (i : Nat) (f : En → R PD) : En → Fl := fun ρ => toS ρ (f ρ) fun d => .nx (ρ.set i (.va d))
def sSetL (i : Nat) (f : En → R (List PD)) : En → Fl := fun ρ => toS ρ (f ρ) fun ds => .nx (ρ.set i (.ol ds))
def sDrop (f : En → R PD) : En → Fl := fun ρ => toS ρ (f ρ) fun _ => .nx ρ
def sRet (f : En → R PD) : En → Fl := fun ρ => toS ρ (f ρ) fun d => .rt d
def sIf (p : En → R Bool) (g h : En → Fl) : En → Fl := fun ρ => toS ρ (p ρ) fun b => if b = true then g ρ else h ρ
def frz (i : Nat) (ρ : En) : En := match ρ[i]? with
  | some (.ol ds) => ρ.set i (.va (.list ds))
  | _ => ρ
def sFrz (i : Nat) (g : En → Fl) : En → Fl := fun ρ => g (frz i ρ)
def sApp (i : Nat) (f : En → R PD) : En → Fl := fun ρ => match ρ[i]? with
  | some (.ol ds) => toS ρ (f ρ) fun d => if ds.length < big then .nx (ρ.set i (.ol (ds ++ [d]))) else .bad
  | _ => .bad
section
variable {X : Cx} {W : WX} {st : Stmt} {sts rest : List Stmt} {g h : En → Fl} {e : Expr} {f : En → R PD} {fl : En → R (List PD)} {p : En → R Bool} {pos : Pos} {i : Nat} {x : Str}
theorem dss_nil : DSs X W [] sNx := ⟨_, pss_nil, fun H0 O0 O ρ σ H D rl o => o O H σ rl⟩
theorem dss_one (a : DS X W st g) : DSs X W [st] g := let ⟨t, x, y⟩ := a.ex; ⟨t, pss_one x, y⟩
theorem dss_cons (a : DS X W st g) (b : DSs X W rest h) : DSs X W (st :: rest) (sSeq g h) := by
  obtain ⟨t, pt, qt⟩ := a.ex
  obtain ⟨u, pu, qu⟩ := b.ex
  refine ⟨_, pss_cons pt pu, fun H0 O0 O ρ σ H D rl o => ?_⟩
  refine qt H0 O0 O ρ σ H _ rl ?_
  unfold sSeq at o
  cases q : g ρ with
  | nx ρ' => rw [q] at o; exact fun O' H' σ' r => qu H0 O0 O' ρ' σ' H' D r o
  | rt d => rw [q] at o; exact o
  | bk ρ' => rw [q] at o; exact o
  | ct ρ' => rw [q] at o; exact o
  | ex c pl ρ' => rw [q] at o; exact o
  | bad => rw [q] at o; exact o
theorem dss_frz (i : Nat) (a : DSs X W sts g) : DSs X W sts (sFrz i g) := by
  obtain ⟨t, pt, qt⟩ := a.ex
  refine ⟨t, pt, fun H0 O0 O ρ σ H D rl o => ?_⟩
  unfold sFrz frz at o
  cases q : ρ[i]? with
  | none => rw [q] at o; exact qt H0 O0 O ρ σ H D rl o
  | some s =>
    rw [q] at o
    cases s with
    | ol ds => obtain ⟨O', r⟩ := rl.freeze q; exact qt H0 O0 O' _ σ H D r o
    | _ => exact qt H0 O0 O ρ σ H D rl o
theorem ds_pass : DS X W (.Pass pos) sNx := ⟨_, ps_pass, fun H0 O0 O ρ σ H D rl o => o O H σ rl⟩
theorem ds_break : DS X W (.Break pos) (fun ρ => .bk ρ) := ⟨_, ps_break, fun H0 O0 O ρ σ H D rl o => o O H σ rl⟩
theorem ds_continue : DS X W (.Continue pos) (fun ρ => .ct ρ) := ⟨_, ps_continue, fun H0 O0 O ρ σ H D rl o => o O H σ rl⟩
theorem ds_set {pos' : Pos} (hN : X.N.Nodup) (hi : X.N[i]? = some x) (hx : Loc X.env.scope x) (he : DE X W e f) (hs : swapsWith e (some (.Name x pos')) pos.line X.env = pure false := by rfl) (hf : X.fn x = true ∨ X.env.scope.names.lookup x = some .local := by first | exact .inl rfl | exact .inr rfl | assumption) :
    DS X W (.Assign [.Name x pos'] e pos) (sSet i f) := by
  obtain ⟨t, pt, qt⟩ := he.ex
  refine ⟨_, ps_set hN hi hx pt hs hf, fun H0 O0 O ρ σ H D rl o => ?_⟩
  exact qt H0 O0 O ρ σ H _ rl ((OutS.ofR rl o).imp fun d H1 e1 o1 v hv => o1 O H1 _ ((rl.grow e1).setV hv i))
/-- a new list of the frame's own -/
theorem ds_setL {pos' : Pos} (hN : X.N.Nodup) (hi : X.N[i]? = some x) (hx : Loc X.env.scope x) (he : DF X W e fl) (hs : swapsWith e (some (.Name x pos')) pos.line X.env = pure false := by rfl) (hf : X.fn x = true ∨ X.env.scope.names.lookup x = some .local := by first | exact .inl rfl | exact .inr rfl | assumption) :
    DS X W (.Assign [.Name x pos'] e pos) (sSetL i fl) := by
  obtain ⟨t, pt, qt⟩ := he.ex
  refine ⟨_, ps_set hN hi hx pt hs hf, fun H0 O0 O ρ σ H D rl o => ?_⟩
  refine qt H0 O0 O ρ σ H _ rl ((OutS.ofR rl o).imp fun ds H1 e1 o1 p vs H2 np hv e2 => ?_)
  subst e2
  have r1 := rl.grow e1
  refine o1 _ _ _ (r1.setO np i ⟨p, vs, rfl, .inr rfl, fun z => r1.al p (r1.sub p z) np, upd_same, hv.mono (wo_add np)⟩)
theorem ds_expr (he : DE X W e f) (hs : swapsWith e none pos.line X.env = pure false := by rfl) : DS X W (.Expr e pos) (sDrop f) := by
  obtain ⟨t, pt, qt⟩ := he.ex
  refine ⟨_, ps_expr pt hs, fun H0 O0 O ρ σ H D rl o => ?_⟩
  exact qt H0 O0 O ρ σ H _ rl ((OutS.ofR rl o).imp fun d H1 e1 o1 v hv => o1 O H1 σ (rl.grow e1))
theorem ds_ret (he : DE X W e f) : DS X W (.Return (some e) pos) (sRet f) := by
  obtain ⟨t, pt, qt⟩ := he.ex
  refine ⟨_, ps_ret pt, fun H0 O0 O ρ σ H D rl o => ?_⟩
  exact qt H0 O0 O ρ σ H _ rl ((OutS.ofR rl o).imp fun d H1 e1 o1 v hv => o1 v H1 (rl.fr.trans e1) (hv.mono (wo_sub rl.sub)))
theorem ds_retN : DS X W (.Return none pos) (fun _ => .rt .none) := ⟨_, ps_retN, fun H0 O0 O ρ σ H D rl o => o .non H rl.fr .non⟩
theorem ds_if {c : Expr} {a b : List Stmt} (hc : DB X W c p) (ha : DSs X W a g) (hb : DSs X W b h) : DS X W (.If c a b pos) (sIf p g h) := by
  obtain ⟨tc, pc, qc⟩ := hc.ex
  obtain ⟨ta, pa, qa⟩ := ha.ex
  obtain ⟨tb, pb, qb⟩ := hb.ex
  refine ⟨_, ps_if pc pa pb, fun H0 O0 O ρ σ H D rl o => ?_⟩
  refine qc H0 O0 O ρ σ H _ rl ((OutS.ofR rl o).imp fun k H1 e1 o1 => ?_)
  cases k with
  | true => rw [if_pos rfl] at o1 ⊢; exact qa H0 O0 O ρ σ H1 D (rl.grow e1) o1
  | false => rw [if_neg Bool.false_ne_true] at o1 ⊢; exact qb H0 O0 O ρ σ H1 D (rl.grow e1) o1
/-- x.append(e), x an own list -/
theorem ds_app {a : Expr} {apos cpos : Pos} (hx : PE X a (tVar i)) (he : DE X W e f) (hs : swapsWith (.Call (.Attribute a "append" apos) [e] [] cpos) none pos.line X.env = pure false := by rfl)
    (hbase : attributeBase a "append" X.env (eval a X.env) = eval a X.env := by rfl)
    (hfew : ((backTo cpos (starEach [e] X.env)).all (fun x => !x.1) && (backToKw cpos (keywordEach [] X.env)).all (fun x => x.1.isSome)
      && decide (([e] : List Expr).length + ([] : List Keyword).length + (if ([] : List Keyword).isEmpty then 0 else 1) < 30)) = true := by rfl)
    (hline : (apos.endLine == cpos.line) = true := by rfl) (hst : starEach [e] X.env = (false, eval e X.env) :: starEach [] X.env := by rfl) (hplain : (backTo cpos (starEach [] X.env)).any (·.1) = false := by rfl) :
    DS X W (.Expr (.Call (.Attribute a "append" apos) [e] [] cpos) pos) (sApp i f) := by
  obtain ⟨t, pt, qt⟩ := he.ex
  refine ⟨_, ps_expr (pe_bm PySem.F.plainAttrs_list PySem.F.slot_list_append PySem.F.type_list_append mt_append hx (pa_cons pt pa_nil hst) hbase hfew hline hst hplain) hs, fun H0 O0 O ρ σ H D rl o => ?_⟩
  unfold sApp at o
  cases q : ρ[i]? with
  | none => rw [q] at o; exact o.elim
  | some s =>
    rw [q] at o
    cases s with
    | ol ds =>
      obtain ⟨p, vs, e1, m1, m2, m3, m4⟩ := rl.sl i _ q
      refine ⟨_, e1, .inl ⟨rfl, vs, .inl (.inl m3)⟩, ?_⟩
      refine qt H0 O0 O ρ σ H _ rl ((OutS.ofR rl o).imp fun d H1 ex o1 v hv => ?_)
      by_cases hz : ds.length < big
      · rw [if_pos hz] at o1
        have m5 := m4.mono (same_wo (O := O) ex)
        refine ⟨p, vs, v, rfl, rfl, ex _ _ m3, by rw [m4.length]; exact big_line' hz, ?_⟩
        refine o1 O _ σ ((rl.grow ex).updO q rfl rfl e1 ⟨p, vs ++ [v], rfl, m1, m2, upd_same, ?_⟩)
        rw [wo_upd m1]
        exact m5.append (.one hv)
      · rw [if_neg hz] at o1; exact o1.elim
    | _ => exact o.elim

/-! ### targets -/
def OutG (K : PySem.W.Frag) (H0 : Hp) (O0 O : Addr → Prop) (H : Hp) (vs : List Nat) (σ : L2.St) (r : R En) (Q : L2.St → Hp → Prop) : Prop := match r with
  | .ok ρ' => ∀ σ', Rel K H0 O0 O H ρ' σ' → σ'.length = σ.length → (∀ j, j ∉ vs → σ'[j]? = σ[j]?) → Q σ' H
  | _ => False
structure DG (X : Cx) (tg : Expr) (vs : List Nat) (g : PD → En → R En) : Prop where
  ex : ∃ t, PG X tg t ∧ ∀ H0 O0 O ρ σ H x d Q, Rel X.K H0 O0 O H ρ σ → Dq X.K (wo H O) x d → OutG X.K H0 O0 O H vs σ (g d ρ) Q → t x σ H Q
structure DGs (X : Cx) (tgs : List Expr) (vs : List Nat) (g : List PD → En → R En) : Prop where
  ex : ∃ t, PGs X tgs t ∧ ∀ H0 O0 O ρ σ H xs ds Q, Rel X.K H0 O0 O H ρ σ → DqAll X.K (wo H O) xs ds → OutG X.K H0 O0 O H vs σ (g ds ρ) Q → t xs σ H Q
def gN (i : Nat) : PD → En → R En := fun d ρ => .ok (ρ.set i (.va d))
def gZ : List PD → En → R En := fun ds ρ => match ds with
  | [] => .ok ρ
  | _ => .bad
def gC (a : PD → En → R En) (b : List PD → En → R En) : List PD → En → R En := fun ds ρ => match ds with
  | [] => .bad
  | d :: r => match a d ρ with
    | .ok ρ' => b r ρ'
    | _ => .bad
def gT (n : Nat) (a : List PD → En → R En) : PD → En → R En := fun d ρ => match d with
  | .tuple ds => chk (ds.length == n) (a ds ρ)
  | .list ds => chk (ds.length == n) (a ds ρ)
  | _ => .bad
theorem dg_name (hN : X.N.Nodup) (hi : X.N[i]? = some x) (hx : Loc X.env.scope x) (hf : X.fn x = true ∨ X.env.scope.names.lookup x = some .local := by first | exact .inl rfl | exact .inr rfl | assumption) : DG X (.Name x pos) [i] (gN i) :=
  ⟨_, pg_name hN hi hx hf, fun H0 O0 O ρ σ H v d Q rl hd o => o _ (rl.setV hd i) (by simp) fun j hj => List.getElem?_set_ne (fun z => hj (by simp [z]))⟩
theorem dgs_nil : DGs X [] [] gZ := ⟨_, pgs_nil, fun H0 O0 O ρ σ H xs ds Q rl hd o => by
  cases hd with
  | nil => exact ⟨rfl, o σ rl rfl fun _ _ => rfl⟩
  | cons => exact o.elim⟩
theorem dgs_cons {e : Expr} {es : List Expr} {vs ws : List Nat} {a : PD → En → R En} {b : List PD → En → R En} (h1 : DG X e vs a) (h2 : DGs X es ws b)
    (hs : (assignEach (e :: es) X.env).map (·.2) = assign e X.env :: (assignEach es X.env).map (·.2) := by rfl) : DGs X (e :: es) (vs ++ ws) (gC a b) := by
  obtain ⟨t, pt, qt⟩ := h1.ex
  obtain ⟨u, pu, qu⟩ := h2.ex
  refine ⟨_, pgs_cons pt pu hs, fun H0 O0 O ρ σ H xs ds Q rl hd o => ?_⟩
  cases hd with
  | nil => exact o.elim
  | cons h1 h2 =>
    rename_i v vr d dr
    refine ⟨_, _, rfl, qt H0 O0 O ρ σ H _ _ _ rl h1 ?_⟩
    unfold gC at o
    cases q : a d ρ with
    | ok ρ' =>
      simp only [q] at o
      intro σ' rl' hl hk
      refine qu H0 O0 O ρ' σ' H _ _ _ rl' h2 ?_
      cases q2 : b dr ρ' with
      | ok ρ2 =>
        rw [q2] at o
        exact fun σ2 r2 hl2 hk2 => o σ2 r2 (hl2.trans hl) fun j hj => (hk2 j fun z => hj (List.mem_append_right _ z)).trans (hk j fun z => hj (List.mem_append_left _ z))
      | ex _ _ => rw [q2] at o; exact o.elim
      | bad => rw [q2] at o; exact o.elim
    | ex _ _ => simp only [q] at o; exact o.elim
    | bad => simp only [q] at o; exact o.elim
theorem PG.or {t u : TG} {tg : Expr} (a : PG X tg t) (b : PG X tg u) : PG X tg (fun v σ H Q => t v σ H Q ∨ u v σ H Q) :=
  ⟨fun pins s σ H v w Q I r h => h.elim (a.run pins s σ H v w Q I r) (b.run pins s σ H v w Q I r)⟩
theorem OutG.chk {K : PySem.W.Frag} {H0 : Hp} {O0 O : Addr → Prop} {H : Hp} {vs : List Nat} {σ : L2.St} {c : Bool} {r : R En} {Q : L2.St → Hp → Prop} (h : OutG K H0 O0 O H vs σ (chk c r) Q) : c = true ∧ OutG K H0 O0 O H vs σ r Q := by
  cases c with
  | true => exact ⟨rfl, h⟩
  | false => exact h.elim
theorem dg_tup {es : List Expr} {k : Nat} {n : Nat} {vs : List Nat} {a : List PD → En → R En} (hc : X.calm = true) (h : DGs X es vs a) (hn : (assignEach es X.env).length = n := by rfl) (hst : (assignEach es X.env).findIdx? (·.1) = none := by rfl) :
    DG X (.Tuple es k pos) vs (gT n a) := by
  obtain ⟨t, pt, qt⟩ := h.ex
  refine ⟨_, PG.or (pg_tup hc pt hn hst) (pg_lst hc pt hn hst), fun H0 O0 O ρ σ H x d Q rl hd o => ?_⟩
  cases hd with
  | tup h1 h2 =>
    obtain ⟨c, o⟩ := OutG.chk o
    exact .inl ⟨_, _, rfl, Same.seqT wo_self h1, by rw [h2.length]; exact eq_of_beq c, qt H0 O0 O ρ σ H _ _ _ rl h2 o⟩
  | lst h1 h2 =>
    obtain ⟨c, o⟩ := OutG.chk o
    exact .inr ⟨_, _, rfl, .inl (rd_mono wo_self h1), by rw [h2.length]; exact eq_of_beq c, qt H0 O0 O ρ σ H _ _ _ rl h2 o⟩
  | _ => exact o.elim
def sAsg (f : En → R PD) (g : PD → En → R En) : En → Fl := fun ρ => toS ρ (f ρ) fun d => match g d ρ with
  | .ok ρ' => .nx ρ'
  | _ => .bad
theorem ds_asg {tg : Expr} {vs : List Nat} {a : PD → En → R En} (he : DE X W e f) (hg : DG X tg vs a) (hs : swapsWithSole [tg] e pos.line X.env = pure false := by rfl) (hw : swappedStores [tg] e X.env = pure none := by rfl)
    (h1 : (assignEach [tg] X.env).map (·.2) = [assign tg X.env] := by rfl) : DS X W (.Assign [tg] e pos) (sAsg f a) := by
  obtain ⟨t, pt, qt⟩ := he.ex
  obtain ⟨u, pu, qu⟩ := hg.ex
  refine ⟨_, ps_asg pt pu hs hw h1, fun H0 O0 O ρ σ H D rl o => ?_⟩
  refine qt H0 O0 O ρ σ H _ rl ((OutS.ofR rl o).imp fun d H1 e1 o1 v hv => ?_)
  refine qu H0 O0 O ρ σ H1 v d _ (rl.grow e1) hv ?_
  cases q : a d ρ with
  | ok ρ' => simp only [q] at o1; exact fun σ' r _ _ => o1 O H1 σ' r
  | ex _ _ => simp only [q] at o1; exact o1.elim
  | bad => simp only [q] at o1; exact o1.elim
/-- a, b = x, y, stored from the right -/
def sPar (i j : Nat) (f g : En → R PD) : En → Fl := fun ρ => toS ρ (f ρ) fun d => toS ρ (g ρ) fun d' => .nx ((ρ.set i (.va d)).set j (.va d'))
theorem ds_par {j : Nat} {y : Str} {a b : Expr} {f g : En → R PD} {px py pt : Pos} {kt k2 pt2} (hc : X.calm = true) (hN : X.N.Nodup) (hi : X.N[i]? = some x) (hj : X.N[j]? = some y) (hij : i ≠ j)
    (hx : X.env.scope.names.lookup x = some .local) (hy : X.env.scope.names.lookup y = some .local) (ha : DE X W a f) (hb : DE X W b g)
    (hw : swappedStores [.Tuple [.Name x px, .Name y py] kt pt] (.Tuple [a, b] k2 pt2) X.env = pure (some [x, y]))
    (hs : swapsWithSole [.Tuple [.Name x px, .Name y py] kt pt] (.Tuple [a, b] k2 pt2) pos.line X.env = pure false := by rfl)
    (h1 : starEach [a, b] X.env = (false, eval a X.env) :: starEach [b] X.env := by rfl) (h2 : starEach [b] X.env = (false, eval b X.env) :: starEach [] X.env := by rfl) :
    DS X W (.Assign [.Tuple [.Name x px, .Name y py] kt pt] (.Tuple [a, b] k2 pt2) pos) (sPar i j f g) := by
  obtain ⟨t, pt, qt⟩ := ha.ex
  obtain ⟨u, pu, qu⟩ := hb.ex
  refine ⟨_, ps_par hc hN hi hj hij hx hy (pa_cons pt (pa_cons pu pa_nil h2) h1) hw hs, fun H0 O0 O ρ σ H D rl o => ?_⟩
  refine qt H0 O0 O ρ σ H _ rl ((OutS.ofR rl o).imp fun d H1 e1 o1 v hv => ?_)
  refine qu H0 O0 O ρ σ H1 _ (rl.grow e1) ((OutS.ofR (rl.grow e1) o1).imp fun d' H2 e2 o2 v' hv' => ?_)
  exact ⟨v, v', rfl, o2 O H2 _ ((((rl.grow e1).grow e2).setV (hv.mono (same_wo e2)) i).setV hv' j)⟩
end
end DL
namespace DL
open PySem PySem.Spec L2

/-! ### what a loop or a comprehension walks -/
structure Wk (K : PySem.W.Frag) (J : It) (items : List PD) (G : Hp) : Prop where
  go : ∀ i H, Same G H → i < items.length → J.go i H
  stop : ∀ i H, Same G H → items.length ≤ i → J.stop i H
  yld : ∀ i H x H', Same G H → J.yld i H x H' → Same H H' ∧ ∀ d, items[i]? = some d → ∀ O, Same G (wo H O) → (∀ p, H p = none → ¬ O p) → Dq K (wo H' O) x d
structure DI (X : Cx) (W : WX) (tg iter : Expr) (f : En → R (List PD)) : Prop where
  ex : ∃ wi, PI X tg iter wi ∧ ∀ H0 O0 O ρ σ H (Rr : It → Hp → Prop), Rel X.K H0 O0 O H ρ σ → OutP X W O σ H (f ρ) (fun items H1 => ∀ J, Wk X.K J items (wo H1 O) → Rr J H1) → wi σ H Rr
section
variable {K : PySem.W.Frag} {G : Hp} {a : Addr} {vs : List V} {ds : List PD}
theorem rd_inj {H : Hp} {u u' : HO} (h : Rd H a u) (h' : Rd H a u') (d : ∀ o, u ≠ .frz o u') (d' : ∀ o, u' ≠ .frz o u) : u = u' := by
  rcases h with h | ⟨o, h⟩ <;> rcases h' with h' | ⟨o', h'⟩ <;> rw [h] at h' <;> cases h'
  · rfl
  · exact absurd rfl (d _)
  · exact absurd rfl (d' _)
  · rfl
/-- a list's reading is one, over any heap that holds (by Inv); here for heaps that are not known to hold: by what is tracked or written -/
theorem wk_list (h1 : SqL K G a vs) (h2 : DqAll K G vs ds) : Wk K (Itl K a) ds G where
  go := fun i H e hi => ⟨vs, vs[i]'(by rw [h2.length]; exact hi), e.seq h1, List.getElem?_eq_getElem _⟩
  stop := fun i H e hi => ⟨vs, e.seq h1, by rw [h2.length]; exact hi⟩
  yld := fun i H x H' e ⟨eH, q⟩ => ⟨by rw [eH]; exact Same.refl H, fun d hd O eo nO => by
    obtain ⟨d', k1, k2⟩ := h2.getV (q vs (e.seq h1))
    rw [hd] at k1; cases k1
    rw [eH]; exact k2.mono eo⟩
theorem wk_tup (h1 : SqT K G a vs) (h2 : DqAll K G vs ds) : Wk K (Itt K a) ds G where
  go := fun i H e hi => ⟨vs, vs[i]'(by rw [h2.length]; exact hi), Same.seqT e h1, List.getElem?_eq_getElem _⟩
  stop := fun i H e hi => ⟨vs, Same.seqT e h1, by rw [h2.length]; exact hi⟩
  yld := fun i H x H' e ⟨eH, q⟩ => ⟨by rw [eH]; exact Same.refl H, fun d hd O eo nO => by
    obtain ⟨d', k1, k2⟩ := h2.getV (q vs (Same.seqT e h1))
    rw [hd] at k1; cases k1
    rw [eH]; exact k2.mono eo⟩
def rangeL (lo : Int) (n : Nat) : List PD := (List.range n).map fun (i : Nat) => .int (lo + (i : Int))
theorem rangeL_len (lo : Int) (n : Nat) : (rangeL lo n).length = n := by simp [rangeL]
theorem rangeL_get {lo : Int} {n i : Nat} {d : PD} (h : (rangeL lo n)[i]? = some d) : d = .int (lo + (i : Int)) := by
  unfold rangeL at h
  rw [List.getElem?_map] at h
  by_cases hi : i < n
  · rw [List.getElem?_range hi] at h; cases h; rfl
  · rw [List.getElem?_eq_none (by simpa using hi)] at h; cases h
theorem wk_range (lo : Int) (n : Nat) : Wk K (Itr lo n) (rangeL lo n) G where
  go := fun i H e hi => by rw [rangeL_len] at hi; exact hi
  stop := fun i H e hi => by rw [rangeL_len] at hi; exact hi
  yld := fun i H x H' e ⟨eH, q⟩ => ⟨by rw [eH]; exact Same.refl H, fun d hd O eo nO => by
    rw [rangeL_get hd, q]; exact .int _⟩
end
theorem PI.or {X : Cx} {tg iter : Expr} {w u : TI} (a : PI X tg iter w) (b : PI X tg iter u) : PI X tg iter (fun σ H R => w σ H R ∨ u σ H R) :=
  ⟨fun pins s σ H R I h => h.elim (a.run pins s σ H R I) (b.run pins s σ H R I)⟩
/-- lists and tuples (others: texts) -/
def itD : PD → R (List PD)
  | .list ds => .ok ds
  | .tuple ds => .ok ds
  | _ => .bad
def iSeq (f : En → R PD) : En → R (List PD) := fun ρ => (f ρ).bind itD
def rg1 (d : PD) : R (List PD) := match d with
  | .int n => chk (decide (-1000000000000000 ≤ n ∧ n ≤ 1000000000000000)) (.ok (rangeL 0 n.toNat))
  | _ => .bad
def iR1 (f : En → R PD) : En → R (List PD) := fun ρ => (f ρ).bind rg1
def rg2 (d e : PD) : R (List PD) := match d, e with
  | .int m, .int n => chk (decide (-1000000000000000 ≤ m ∧ m ≤ 1000000000000000 ∧ -1000000000000000 ≤ n ∧ n ≤ 1000000000000000)) (.ok (rangeL m (n - m).toNat))
  | _, _ => .bad
def iR2 (f g : En → R PD) : En → R (List PD) := fun ρ => (f ρ).bind fun d => (g ρ).bind fun e => rg2 d e
section
variable {X : Cx} {W : WX} {tg iter a b : Expr} {f g : En → R PD} {pos p : Pos}
theorem PI.ofPre {w w' : TI} (h : PI X tg iter w) (e : ∀ σ H R, w' σ H R → w σ H R) : PI X tg iter w' := ⟨fun pins s σ H R I q => h.run pins s σ H R I (e σ H R q)⟩
theorem di_seq (h : DE X W iter f) : DI X W tg iter (iSeq f) := by
  obtain ⟨t, pt, qt⟩ := h.ex
  refine ⟨_, PI.or (pi_list pt) (pi_tup pt), fun H0 O0 O ρ σ H Rr rl o => ?_⟩
  unfold iSeq at o
  cases q : f ρ with
  | ok d =>
    rw [q] at o
    cases d with
    | list ds =>
      refine .inl (qt H0 O0 O ρ σ H _ rl ?_)
      rw [q]
      intro H1 e1 v hv
      cases hv with
      | lst h1 h2 => exact ⟨_, rfl, ⟨_, .inl (rd_mono wo_self h1)⟩, o H1 e1 _ (wk_list (.inl h1) h2)⟩
    | tuple ds =>
      refine .inr (qt H0 O0 O ρ σ H _ rl ?_)
      rw [q]
      intro H1 e1 v hv
      cases hv with
      | tup h1 h2 => exact ⟨_, rfl, ⟨_, Same.seqT wo_self h1⟩, o H1 e1 _ (wk_tup h1 h2)⟩
    | _ => exact o.elim
  | ex c pl =>
    rw [q] at o
    refine .inl (qt H0 O0 O ρ σ H _ rl ?_)
    rw [q]; exact o
  | bad => rw [q] at o; exact o.elim
theorem di_r1 (hg : Gl X "range") (hm : X.mg "range" = none) (ha : DE X W a f) (hs : starEach [a] X.env = (false, eval a X.env) :: starEach [] X.env := by rfl) (hs2 : starEach [a] X.env = [(false, eval a X.env)] := by rfl) : DI X W tg (.Call (.Name "range" p) [a] [] pos) (iR1 f) := by
  obtain ⟨t, pt, qt⟩ := ha.ex
  refine ⟨_, pi_range1 hg hm (pa_cons pt pa_nil hs) hs2, fun H0 O0 O ρ σ H Rr rl o => ?_⟩
  refine qt H0 O0 O ρ σ H _ rl (o.bind.imp fun d H1 e1 o1 v hv => ?_)
  cases d with
  | int n =>
    cases hv.sc_int
    obtain ⟨c, o1⟩ := OutP.chk o1
    have c' := of_decide_eq_true c
    exact ⟨n, rfl, by omega, by omega, o1 H1 (Same.refl H1) _ (wk_range 0 _)⟩
  | _ => exact o1.elim
theorem di_r2 (hg : Gl X "range") (hm : X.mg "range" = none) (ha : DE X W a f) (hb : DE X W b g) (hs : starEach [a, b] X.env = [(false, eval a X.env), (false, eval b X.env)] := by rfl) (hs2 : starEach [b] X.env = [(false, eval b X.env)] := by rfl)
    (h1 : starEach [a, b] X.env = (false, eval a X.env) :: starEach [b] X.env := by rfl) (h2 : starEach [b] X.env = (false, eval b X.env) :: starEach [] X.env := by rfl) : DI X W tg (.Call (.Name "range" p) [a, b] [] pos) (iR2 f g) := by
  obtain ⟨t, pt, qt⟩ := ha.ex
  obtain ⟨u, pu, qu⟩ := hb.ex
  refine ⟨_, pi_range2 hg hm (pa_cons pt (pa_cons pu pa_nil h2) h1) hs hs2, fun H0 O0 O ρ σ H Rr rl o => ?_⟩
  refine qt H0 O0 O ρ σ H _ rl (o.bind.imp fun d H1 e1 o1 v hv => ?_)
  refine qu H0 O0 O ρ σ H1 _ (rl.grow e1) (o1.bind.imp fun d' H2 e2 o2 v' hv' => ?_)
  cases d with
  | int m =>
    cases hv.sc_int
    cases d' with
    | int n =>
      cases hv'.sc_int
      obtain ⟨c, o2⟩ := OutP.chk o2
      have c' := of_decide_eq_true c
      exact ⟨m, n, rfl, by omega, o2 H2 (Same.refl H2) _ (wk_range m _)⟩
    | _ => exact o2.elim
  | _ => cases d' <;> exact o2.elim
end

/-! ### for -/
def forL (tgt : PD → En → R En) (body : En → Fl) : List PD → En → Fl
  | [], ρ => .nx ρ
  | x :: xs, ρ => match tgt x ρ with
    | .ok ρ1 => match body ρ1 with
      | .nx ρ2 => forL tgt body xs ρ2
      | .ct ρ2 => forL tgt body xs ρ2
      | .bk ρ2 => .nx ρ2
      | .rt d => .rt d
      | .ex c pl ρ2 => .ex c pl ρ2
      | .bad => .bad
    | _ => .bad
def sFor (src : En → R (List PD)) (tgt : PD → En → R En) (body : En → Fl) : En → Fl := fun ρ => toS ρ (src ρ) fun items => forL tgt body items ρ
section
variable {X : Cx} {W : WX} {tg iter c : Expr} {body : List Stmt} {src : En → R (List PD)} {tgt : PD → En → R En} {g : En → Fl} {p : En → R Bool} {pos : Pos} {vs : List Nat}
theorem OutS.back {K : PySem.W.Frag} {mg : Str → Option Value} {H0 Hb : Hp} {O0 : Addr → Prop} {D : Ends} {o : Fl} (e : Same H0 Hb) (h : OutS K mg W H0 O0 D o) : OutS K mg W Hb O0 D o := by
  cases o with
  | nx ρ => exact fun O H σ r => h O H σ (r.back e)
  | rt d => exact fun v H r => h v H (e.trans r)
  | bk ρ => exact fun O H σ r => h O H σ (r.back e)
  | ct ρ => exact fun O H σ r => h O H σ (r.back e)
  | ex c pl ρ => exact fun O H σ cls dx r => h O H σ cls dx (r.back e)
  | bad => exact h
theorem drop_cons {α : Type} {l : List α} {i : Nat} (h : i < l.length) : l.drop i = l[i] :: l.drop (i + 1) := List.drop_eq_getElem_cons h
theorem ds_for (hp : PassesOwn (model X.prog X.w) X.A X.env X.xe) (hc : X.calm = true) (hi : DI X W tg iter src) (hg : DG X tg vs tgt) (hb : DSs X W body g)
    (hs : ∀ x, foldedSetIterable iter X.env x = pure x := by intro _; rfl) : DS X W (.For tg iter body [] pos) (sFor src tgt g) := by
  obtain ⟨wi, pw, qw⟩ := hi.ex
  obtain ⟨tG, pg, qg⟩ := hg.ex
  obtain ⟨tb, pb, qb⟩ := hb.ex
  refine ⟨_, ps_for hp hc pw pg pb hs, fun H0 O0 O ρ σ H D rl o => ?_⟩
  refine qw H0 O0 O ρ σ H _ rl ((OutS.ofR rl o).imp fun items H1 e1 o1 J wk => ?_)
  have r1 := rl.grow e1
  have rb := r1.rebase
  refine ⟨fun i m σ' H' => m = items.length - i ∧ i ≤ items.length ∧ ∃ O' ρ', Rel X.K (baseOf H1 O0 O) O0 O' H' ρ' σ' ∧ OutS X.K X.mg W H0 O0 D (forL tgt g (items.drop i) ρ'), ⟨items.length, by simp, Nat.zero_le _, O, ρ, rb, by simpa using o1⟩, ?_⟩
  rintro i m σ' H' ⟨rfl, hi, O', ρ', r', o'⟩
  have kG : Same (wo H1 O) (wo H' O') := r1.keep r'
  have kH : Same (wo H1 O) H' := kG.trans wo_self
  by_cases hlt : i < items.length
  · refine .inr ⟨wk.go i H' kH hlt, fun σ2 H2 => ∃ O2 ρ2, Rel X.K (baseOf H1 O0 O) O0 O2 H2 ρ2 σ2 ∧ OutS X.K X.mg W H0 O0 D (forL tgt g (items.drop (i + 1)) ρ2), fun σ2 H2 ⟨O2, ρ2, a, b⟩ => ⟨items.length - (i + 1), by omega, rfl, hlt, O2, ρ2, a, b⟩, fun x H3 y => ?_⟩
    obtain ⟨y1, y2⟩ := wk.yld i H' x H3 kH y
    have y3 := y2 _ (List.getElem?_eq_getElem hlt) O' kG (fun p n => r'.fresh n)
    refine qg _ O0 O' ρ' σ' H3 x _ _ (r'.grow y1) y3 ?_
    rw [drop_cons hlt] at o'
    unfold forL at o'
    cases q : tgt items[i] ρ' with
    | ok ρ1 =>
      simp only [q] at o'
      intro σ1 rr _ _
      refine qb _ O0 O' ρ1 σ1 H3 _ rr ?_
      cases q2 : g ρ1 with
      | nx ρ2 => simp only [q2] at o'; exact fun O2 H4 σ2 r4 => ⟨O2, ρ2, r4, o'⟩
      | ct ρ2 => simp only [q2] at o'; exact fun O2 H4 σ2 r4 => ⟨O2, ρ2, r4, o'⟩
      | bk ρ2 => simp only [q2] at o'; exact OutS.back r1.same_base (o := .nx ρ2) o'
      | rt d => simp only [q2] at o'; exact OutS.back r1.same_base (o := .rt d) o'
      | ex c pl ρ2 => simp only [q2] at o'; exact OutS.back r1.same_base (o := .ex c pl ρ2) o'
      | bad => simp only [q2] at o'; exact o'.elim
    | ex _ _ => simp only [q] at o'; exact o'.elim
    | bad => simp only [q] at o'; exact o'.elim
  · refine .inl ⟨wk.stop i H' kH (by omega), ?_⟩
    rw [List.drop_of_length_le (by omega)] at o'
    exact o' O' H' σ' (r'.back r1.same_base)

/-! ### while -/
def whL (p : En → R Bool) (g : En → Fl) : Nat → En → Fl
  | 0, _ => .bad
  | n + 1, ρ => toS ρ (p ρ) fun b => if b = true then (match g ρ with
      | .nx ρ2 => whL p g n ρ2
      | .ct ρ2 => whL p g n ρ2
      | .bk ρ2 => .nx ρ2
      | .rt d => .rt d
      | .ex c pl ρ2 => .ex c pl ρ2
      | .bad => .bad) else .nx ρ
theorem ds_while (n : Nat) (hp : PassesOwn (model X.prog X.w) X.A X.env X.xe) (hc : DB X W c p) (hb : DSs X W body g) : DS X W (.While c body [] pos) (whL p g n) := by
  obtain ⟨tc, pc, qc⟩ := hc.ex
  obtain ⟨tb, pb, qb⟩ := hb.ex
  refine ⟨_, ps_while hp pc pb, fun H0 O0 O ρ σ H D rl o => ?_⟩
  refine ⟨fun m σ' H' => ∃ O' ρ', Rel X.K H0 O0 O' H' ρ' σ' ∧ OutS X.K X.mg W H0 O0 D (whL p g m ρ'), ⟨n, O, ρ, rl, o⟩, ?_⟩
  rintro m σ' H' ⟨O', ρ', r', o'⟩
  cases m with
  | zero => exact o'.elim
  | succ m =>
    unfold whL at o'
    refine qc H0 O0 O' ρ' σ' H' _ r' ((OutS.ofR r' o').imp fun b H1 e1 o1 => ?_)
    cases b with
    | true =>
      rw [if_pos rfl] at o1 ⊢
      refine ⟨fun σ2 H2 => ∃ O2 ρ2, Rel X.K H0 O0 O2 H2 ρ2 σ2 ∧ OutS X.K X.mg W H0 O0 D (whL p g m ρ2), fun σ2 H2 h => ⟨m, Nat.lt_succ_self m, h⟩, ?_⟩
      refine qb H0 O0 O' ρ' σ' H1 _ (r'.grow e1) ?_
      cases q2 : g ρ' with
      | nx ρ2 => simp only [q2] at o1; exact fun O2 H4 σ2 r4 => ⟨O2, ρ2, r4, o1⟩
      | ct ρ2 => simp only [q2] at o1; exact fun O2 H4 σ2 r4 => ⟨O2, ρ2, r4, o1⟩
      | bk ρ2 => simp only [q2] at o1; exact o1
      | rt d => simp only [q2] at o1; exact o1
      | ex c pl ρ2 => simp only [q2] at o1; exact o1
      | bad => simp only [q2] at o1; exact o1.elim
    | false =>
      rw [if_neg Bool.false_ne_true] at o1 ⊢
      exact o1 O' H1 σ' (r'.grow e1)
end

/-! ### comprehensions -/
abbrev W0 : WX := fun _ _ _ _ => False
theorem takesW0 {X : Cx} : Takes X W0 := fun _ _ x => by
  obtain ⟨_, _, _, _, _, _, _, _, _, _, _, _, _, _, _, _, z⟩ := x
  exact z.elim
structure DT (X : Cx) (ifs : List Expr) (f : En → R Bool) : Prop where
  ex : ∃ t, PTs X ifs t ∧ ∀ H0 O0 O ρ σ H Q, Rel X.K H0 O0 O H ρ σ → OutP X W0 O σ H (f ρ) Q → t σ H Q
def bYes : En → R Bool := fun _ => .ok true
theorem dt_nil {X : Cx} : DT X [] bYes := ⟨_, pts_nil, fun H0 O0 O ρ σ H Q rl o => o H (Same.refl H)⟩
theorem dt_one {X : Cx} {c : Expr} {p : En → R Bool} (h : DB X W0 c p) : DT X [c] p := let ⟨t, x, y⟩ := h.ex; ⟨t, pts_one x, y⟩
def wipeE (ρ : En) : List Nat → En
  | [] => ρ
  | v :: vs => (wipeE ρ vs).set v .un
def compL (tgt : PD → En → R En) (p : En → R Bool) (f : En → R PD) (ρ : En) : List PD → R (List PD)
  | [] => .ok []
  | x :: xs => (tgt x ρ).nx.bind fun ρ1 => (p ρ1).nx.bind fun b => if b = true then (f ρ1).nx.bind fun d => (compL tgt p f ρ xs).bind fun r => .ok (d :: r) else compL tgt p f ρ xs
def cLc (own : List Nat) (src : En → R (List PD)) (tgt : PD → En → R En) (p : En → R Bool) (f : En → R PD) : En → R (List PD) := fun ρ => (src ρ).bind fun items => chk (decide (items.length ≤ big)) (compL tgt p f (wipeE ρ own) items)
section
variable {K : PySem.W.Frag} {H0 H : Hp} {O0 O : Addr → Prop} {ρ : En} {σ : L2.St}
theorem Rel.un (h : Rel K H0 O0 O H ρ σ) (i : Nat) : Rel K H0 O0 O H (ρ.set i .un) (σ.set i none) := by
  refine ⟨h.fr, h.sub, h.nw, h.al, by simp [h.len], fun j s q => ?_, fun j l s s' p hjl q q' ns ns' e e' => ?_⟩
  · rcases get_set q with ⟨rfl, rfl, hi⟩ | ⟨hj, q⟩
    · trivial
    · rw [List.getElem?_set_ne (Ne.symm hj)]; exact h.sl j s q
  · rcases get_set q with ⟨rfl, rfl, hi⟩ | ⟨hj, k1⟩
    · cases ns
    · rcases get_set q' with ⟨rfl, rfl, hi⟩ | ⟨hl, k2⟩
      · cases ns'
      · rw [List.getElem?_set_ne (Ne.symm hj)] at e
        rw [List.getElem?_set_ne (Ne.symm hl)] at e'
        exact h.dj j l s s' p hjl k1 k2 ns ns' e e'
theorem Rel.wipe (h : Rel K H0 O0 O H ρ σ) : ∀ vs : List Nat, Rel K H0 O0 O H (wipeE ρ vs) (L2.wipe σ vs)
  | [] => h
  | v :: vs => (h.wipe vs).un v
theorem wipe_get (σ : L2.St) (j : Nat) : ∀ vs : List Nat, (L2.wipe σ vs)[j]? = if j ∈ vs then (if j < σ.length then some none else none) else σ[j]?
  | [] => by simp [L2.wipe]
  | v :: vs => by
    unfold L2.wipe
    by_cases e : v = j
    · subst e
      by_cases hv : v < σ.length
      · rw [List.getElem?_set_self (by rw [wipe_length]; exact hv)]; simp [hv]
      · rw [List.getElem?_eq_none (by rw [List.length_set, wipe_length]; omega)]; simp [hv]
    · rw [List.getElem?_set_ne e, wipe_get σ j vs]
      have : (j ∈ v :: vs) = (j ∈ vs) := by simp [Ne.symm e]
      simp only [this]
theorem wipe_ext {σ σ' : L2.St} {vs own : List Nat} (hl : σ'.length = σ.length) (h : ∀ j, j ∉ vs → σ'[j]? = σ[j]?) (hs : ∀ j ∈ vs, j ∈ own) : L2.wipe σ' own = L2.wipe σ own := by
  apply List.ext_getElem?
  intro j
  rw [wipe_get, wipe_get, hl]
  by_cases hj : j ∈ own
  · rw [if_pos hj, if_pos hj]
  · rw [if_neg hj, if_neg hj]; exact h j fun z => hj (hs j z)
theorem wipe_wipe (σ : L2.St) (vs : List Nat) : L2.wipe (L2.wipe σ vs) vs = L2.wipe σ vs := by
  apply List.ext_getElem?
  intro j
  rw [wipe_get, wipe_get, wipe_length]
  by_cases hj : j ∈ vs
  · rw [if_pos hj, if_pos hj]
  · rw [if_neg hj, if_neg hj]
/-- one more own thing, of no slot -/
theorem Rel.extra {p : Addr} {o : HO} (h : Rel K H0 O0 O H ρ σ) (n : H p = none) : Rel K H0 O0 (fun q => O q ∨ q = p) (upd H p o) ρ σ := by
  refine ⟨h.fr.trans (Same.updNew n), fun q z => .inl (h.sub q z), fun q z => ?_, fun q z => ?_, h.len, fun j s q => ?_, h.dj⟩
  · rcases z with z | rfl
    · exact h.nw q z
    · exact .inr (h.fr.free n)
  · by_cases hq : q = p
    · subst hq; rw [upd_same]; exact fun y => nomatch y
    · rw [upd_ne hq]; exact h.al q (z.resolve_right hq)
  · refine (h.sl j s q).move (wo_add n) fun r hr hO hn => .inl ⟨.inl hO, ?_⟩
    rw [upd_ne (fun z => hn (by rw [z]; exact n))]
/-- .. it is changed -/
theorem Rel.updX {p : Addr} {o : HO} (h : Rel K H0 O0 O H ρ σ) (m : O p) (n0 : ¬ O0 p) (hd : ∀ (i : Nat) (s : Sl), ρ[i]? = some s → Sl.own s = true → σ[i]? ≠ some (some (V.ref p))) : Rel K H0 O0 O (upd H p o) ρ σ := by
  have h0 : H0 p = none := by
    rcases h.nw p m with z | z
    · exact absurd z n0
    · exact z
  refine ⟨fun b u e => ?_, h.sub, h.nw, fun q z => ?_, h.len, fun j t q => ?_, h.dj⟩
  · rw [upd_ne (ne_of_none e h0)]; exact h.fr b u e
  · by_cases hq : q = p
    · subst hq; rw [upd_same]; exact fun y => nomatch y
    · rw [upd_ne hq]; exact h.al q z
  · refine (h.sl j t q).move (by rw [wo_upd m]; exact Same.refl _) fun r hr hO hn => ?_
    by_cases hown : Sl.own t = true
    · refine .inl ⟨hO, ?_⟩
      rw [upd_ne (fun z => hd j t q hown (by rw [hr, z]))]
    · exact .inr (by simpa using hown)
end
end DL
namespace DL
open PySem PySem.Spec L2

/-! ### canonical readings -/
def eCan (X : Cx) (W : WX) (f : En → R PD) : TE := fun σ H Q => ∃ H0 O0 O ρ, Rel X.K H0 O0 O H ρ σ ∧ OutP X W O σ H (f ρ) (fun d H' => ∀ v, Dq X.K (wo H' O) v d → Q v H')
def bCan (X : Cx) (W : WX) (f : En → R Bool) : TT := fun σ H Q => ∃ H0 O0 O ρ, Rel X.K H0 O0 O H ρ σ ∧ OutP X W O σ H (f ρ) Q
def gCan (K : PySem.W.Frag) (vs : List Nat) (g : PD → En → R En) : TG := fun x σ H Q => ∃ H0 O0 O ρ d, Rel K H0 O0 O H ρ σ ∧ Dq K (wo H O) x d ∧ OutG K H0 O0 O H vs σ (g d ρ) Q
def iCan (X : Cx) (W : WX) (f : En → R (List PD)) : TI := fun σ H Rr => ∃ H0 O0 O ρ, Rel X.K H0 O0 O H ρ σ ∧ OutP X W O σ H (f ρ) (fun items H1 => ∀ J, Wk X.K J items (wo H1 O) → Rr J H1)
def sCan (K : PySem.W.Frag) (mg : Str → Option Value) (W : WX) (g : En → Fl) : TS := fun D σ H => ∃ H0 O0 O ρ, Rel K H0 O0 O H ρ σ ∧ OutS K mg W H0 O0 D (g ρ)
section
variable {X : Cx} {W : WX} {e tg iter : Expr} {f : En → R PD} {p : En → R Bool} {src : En → R (List PD)} {g : En → Fl} {tgt : PD → En → R En} {vs : List Nat} {ifs : List Expr} {sts : List Stmt}
theorem DE.can (h : DE X W e f) : PE X e (eCan X W f) := let ⟨_, a, b⟩ := h.ex; ⟨fun pins s σ H Q I ⟨H0, O0, O, ρ, r, o⟩ => a.run pins s σ H Q I (b H0 O0 O ρ σ H Q r o)⟩
theorem DT.can (h : DT X ifs p) : PTs X ifs (bCan X W0 p) := let ⟨_, a, b⟩ := h.ex; ⟨fun pins s σ H Q I ⟨H0, O0, O, ρ, r, o⟩ => a.run pins s σ H Q I (b H0 O0 O ρ σ H Q r o)⟩
theorem DG.can (h : DG X tg vs tgt) : PG X tg (gCan X.K vs tgt) := let ⟨_, a, b⟩ := h.ex; ⟨fun pins s σ H v u Q I rv ⟨H0, O0, O, ρ, d, r, hd, o⟩ => a.run pins s σ H v u Q I rv (b H0 O0 O ρ σ H v d Q r hd o)⟩
theorem DI.can (h : DI X W tg iter src) : PI X tg iter (iCan X W src) := let ⟨_, a, b⟩ := h.ex; ⟨fun pins s σ H Rr I ⟨H0, O0, O, ρ, r, o⟩ => a.run pins s σ H Rr I (b H0 O0 O ρ σ H Rr r o)⟩
theorem DSs.can (h : DSs X W sts g) : PSs X sts (sCan X.K X.mg W g) := let ⟨_, a, b⟩ := h.ex; ⟨fun pins s σ H D I ⟨H0, O0, O, ρ, r, o⟩ => a.run pins s σ H D I (b H0 O0 O ρ σ H D r o)⟩
end

/-! ### the list comprehension of one clause -/
theorem nx_ok {α : Type} {r : R α} {a : α} (h : r.nx = .ok a) : r = .ok a := by cases r <;> simp_all
theorem nx_bind_ok {α β : Type} {r : R α} {f : α → R β} {b : β} (h : r.nx.bind f = .ok b) : ∃ a, r = .ok a ∧ f a = .ok b := by
  cases r with
  | ok a => exact ⟨a, rfl, h⟩
  | ex _ _ => cases h
  | bad => cases h
theorem bind_ok {α β : Type} {r : R α} {f : α → R β} {b : β} (h : r.bind f = .ok b) : ∃ a, r = .ok a ∧ f a = .ok b := by
  cases r with
  | ok a => exact ⟨a, rfl, h⟩
  | ex _ _ => cases h
  | bad => cases h
theorem compL_noex {tgt : PD → En → R En} {p : En → R Bool} {f : En → R PD} {ρ : En} : ∀ (xs : List PD) (c pl), compL tgt p f ρ xs ≠ .ex c pl := by
  intro xs
  induction xs with
  | nil => intro c pl h; cases h
  | cons x xs ih =>
    intro c pl h
    unfold compL at h
    cases h1 : tgt x ρ with
    | ex _ _ => rw [h1] at h; cases h
    | bad => rw [h1] at h; cases h
    | ok ρ1 =>
      rw [h1] at h
      simp only [R.ok_nx, R.ok_bind] at h
      cases h2 : p ρ1 with
      | ex _ _ => rw [h2] at h; cases h
      | bad => rw [h2] at h; cases h
      | ok b =>
        rw [h2] at h
        simp only [R.ok_nx, R.ok_bind] at h
        cases b with
        | false => rw [if_neg Bool.false_ne_true] at h; exact ih c pl h
        | true =>
          rw [if_pos rfl] at h
          cases h3 : f ρ1 with
          | ex _ _ => rw [h3] at h; cases h
          | bad => rw [h3] at h; cases h
          | ok d =>
            rw [h3] at h
            simp only [R.ok_nx, R.ok_bind] at h
            cases h4 : compL tgt p f ρ xs with
            | ex c' pl' => exact ih c' pl' h4
            | bad => rw [h4] at h; cases h
            | ok r => rw [h4] at h; cases h
/-- the heap without one address -/
noncomputable def without (H : Hp) (D : Addr) : Hp := wo H fun q => q = D
theorem upd_without {H : Hp} {D : Addr} {o : HO} (h : H D = some o) : H = upd (without H D) D o := by
  funext b
  by_cases e : b = D
  · subst e; rw [upd_same]; exact h
  · rw [upd_ne e]; unfold without wo; rw [if_neg e]
theorem wo_without {H : Hp} {D : Addr} {O : Addr → Prop} : wo (without H D) O = wo H fun q => O q ∨ q = D := by
  funext b
  unfold without wo
  by_cases e : O b
  · rw [if_pos e, if_pos (.inl e)]
  · by_cases e2 : b = D
    · rw [if_neg e, if_pos e2, if_pos (.inr e2)]
    · rw [if_neg e, if_neg e2, if_neg (fun z => z.elim e e2)]
section
variable {X : Cx} {W : WX} {elt tg iter : Expr} {ifs : List Expr} {scope : Scope} {own : List (Str × Nat)} {pos spos py : Pos} {src : En → R (List PD)} {tgt : PD → En → R En} {p : En → R Bool} {f : En → R PD} {vs : List Nat} {i : Nat} {y : Str}
/-- the reading, from what the parts do -/
theorem lc_read (hvs : ∀ j ∈ vs, j ∈ own.map (·.2)) {H0 : Hp} {O0 O : Addr → Prop} {ρ : En} {σ : L2.St} {H : Hp} {Q : VK} (rl : Rel X.K H0 O0 O H ρ σ)
    (o : OutP X W O σ H (cLc (own.map (·.2)) src tgt p f ρ) (fun ds H1 => ∀ p vs H2, H1 p = none → DqAll X.K (wo H1 O) vs ds → H2 = upd H1 p (.lst vs) → Q (.ref p) H2)) :
    tLc (iCan X W src) (gCan X.K vs tgt) (bCan X W0 p) (eCan X W0 f) (own.map (·.2)) σ H Q := by
  refine ⟨H0, O0, O, ρ, rl, o.bind.imp fun items H1 e1 o1 J wk => ?_⟩
  obtain ⟨c, o1⟩ := OutP.chk o1
  have hbig : items.length ≤ big := of_decide_eq_true c
  have r1 := rl.grow e1
  intro D nD
  cases hc : compL tgt p f (wipeE ρ (own.map (·.2))) items with
  | ex c' pl => exact absurd hc (compL_noex _ _ _)
  | bad => rw [hc] at o1; exact o1.elim
  | ok ds =>
    rw [hc] at o1
    have rb := (r1.rebase.wipe (own.map (·.2))).extra (o := .lst []) nD
    have nO0 : ¬ O0 D := fun z => r1.al D (r1.sub D z) nD
    have noD : ∀ (j : Nat) (s : Sl), (wipeE ρ (own.map (·.2)))[j]? = some s → Sl.own s = true → (L2.wipe σ (own.map (·.2)))[j]? ≠ some (some (V.ref D)) := fun j s a b z => by
      obtain ⟨q, q1, _, _, q2⟩ := ((r1.rebase.wipe (own.map (·.2))).sl j s a).own_at b
      rw [z] at q1; cases q1
      exact q2 nD
    refine ⟨fun i m H' => m = items.length - i ∧ i ≤ items.length ∧ ∃ acc dacc rest, compL tgt p f (wipeE ρ (own.map (·.2))) (items.drop i) = .ok rest ∧ ds = dacc ++ rest ∧ dacc.length ≤ i ∧ Same H1 H' ∧ H' D = some (.lst acc) ∧
      DqAll X.K (wo H' fun q => O q ∨ q = D) acc dacc ∧ Rel X.K (baseOf H1 O0 O) O0 (fun q => O q ∨ q = D) H' (wipeE ρ (own.map (·.2))) (L2.wipe σ (own.map (·.2))),
      ⟨items.length, by simp, Nat.zero_le _, [], [], ds, by simpa using hc, rfl, Nat.le_refl _, Same.updNew nD, upd_same, .nil, rb⟩, ?_⟩
    rintro i m H' ⟨rfl, hi, acc, dacc, rest, hrest, eds, hdl, kk, hD, hacc, r'⟩
    have kG : Same (wo H1 O) (wo H' fun q => O q ∨ q = D) := by
      have := r'.frz
      rwa [wo_base r1.sub] at this
    have kH : Same (wo H1 O) H' := kG.trans wo_self
    by_cases hlt : i < items.length
    · refine .inr ⟨wk.go i H' kH hlt, fun H2 => i + 1 ≤ items.length ∧ ∃ acc dacc rest, compL tgt p f (wipeE ρ (own.map (·.2))) (items.drop (i + 1)) = .ok rest ∧ ds = dacc ++ rest ∧ dacc.length ≤ i + 1 ∧ Same H1 H2 ∧ H2 D = some (.lst acc) ∧
        DqAll X.K (wo H2 fun q => O q ∨ q = D) acc dacc ∧ Rel X.K (baseOf H1 O0 O) O0 (fun q => O q ∨ q = D) H2 (wipeE ρ (own.map (·.2))) (L2.wipe σ (own.map (·.2))),
        fun H2 q => ⟨items.length - (i + 1), by omega, rfl, q⟩, fun x H3 y => ?_⟩
      obtain ⟨y1, y2⟩ := wk.yld i H' x H3 kH y
      have y3 := y2 _ (List.getElem?_eq_getElem hlt) _ kG (fun p n => r'.fresh n)
      rw [drop_cons hlt] at hrest
      unfold compL at hrest
      obtain ⟨ρ1, t1, hrest⟩ := nx_bind_ok hrest
      obtain ⟨b, t2, hrest⟩ := nx_bind_ok hrest
      refine ⟨_, O0, _, _, _, r'.grow y1, y3, ?_⟩
      rw [t1]
      intro σ1 rr hl hk
      refine ⟨(wipe_ext (σ := L2.wipe σ (own.map (·.2))) hl hk hvs).trans (wipe_wipe _ _), _, O0, _, _, rr, ?_⟩
      rw [t2]
      intro H4 e4
      cases b with
      | false =>
        rw [if_neg Bool.false_ne_true] at hrest ⊢
        have e34 := y1.trans e4
        exact ⟨hlt, acc, dacc, rest, hrest, eds, Nat.le_succ_of_le hdl, kk.trans e34, e34 _ _ hD, hacc.mono (same_wo e34), r'.grow e34⟩
      | true =>
        rw [if_pos rfl] at hrest ⊢
        obtain ⟨d, t3, hrest⟩ := nx_bind_ok hrest
        obtain ⟨rest', t4, hrest⟩ := bind_ok hrest
        cases hrest
        refine ⟨_, O0, _, _, rr.grow e4, ?_⟩
        rw [t3]
        intro H5 e5 v hv
        have e35 := (y1.trans e4).trans e5
        refine ⟨acc, e35 _ _ hD, ?_, hlt, acc ++ [v], dacc ++ [d], rest', t4, by rw [eds, List.append_assoc]; rfl, by rw [List.length_append]; simpa using hdl, fun b u e => by rw [upd_ne (ne_of_none e nD)]; exact (kk.trans e35) b u e, upd_same, ?_, (r'.grow e35).updX (.inr rfl) nO0 noD⟩
        · rw [hacc.length]; exact big_line' (Nat.lt_of_le_of_lt hdl (Nat.lt_of_lt_of_le hlt hbig))
        · rw [wo_upd (.inr rfl)]
          exact (hacc.mono (same_wo e35)).append (.one hv)
    · refine .inl ⟨wk.stop i H' kH (by omega), ?_⟩
      rw [List.drop_of_length_le (by omega)] at hrest
      cases hrest
      rw [List.append_nil] at eds
      subst eds
      have sm : Same H1 (without H' D) := fun b u e => wo_some (ne_of_none e nD) (kk b u e)
      exact o1 (without H' D) sm D acc H' (wo_in rfl) (by rw [wo_without]; exact hacc) (upd_without hD)

theorem df_lc (hc : X.calm = true) (hN : X.N.Nodup) (hi : DI X W tg iter src) (ok : BlkOk X.N X.env.scope scope own) (hvs : ∀ j ∈ vs, j ∈ own.map (·.2))
    (hg : ∀ (s : Shared) (H : Hp) (C : Addr) (cl : List (Str × Addr)) (fp : List Addr), DG (X.blk s H scope (compEnvC scope cl C X.env) fp) tg vs tgt) (ht : ∀ (s : Shared) (H : Hp) (C : Addr) (cl : List (Str × Addr)) (fp : List Addr), DT (X.blk s H scope (compEnvC scope cl C X.env) fp) ifs p)
    (he : ∀ (s : Shared) (H : Hp) (C : Addr) (cl : List (Str × Addr)) (fp : List Addr), DE (X.blk s H scope (compEnvC scope cl C X.env) fp) W0 elt f) (hs : ∀ x, foldedSetIterable iter X.env x = pure x := by intro _; rfl) :
    DF X W (.ListComp elt [⟨tg, iter, ifs, 0⟩] scope pos) (cLc (own.map (·.2)) src tgt p f) :=
  ⟨_, pe_lc (wi := iCan X W src) (g := gCan X.K vs tgt) (tt := bCan X W0 p) (te := eCan X W0 f) hc hN hi.can ok (fun s H C cl fp => (hg s H C cl fp).can) (fun s H C cl fp => (ht s H C cl fp).can) (fun s H C cl fp => (he s H C cl fp).can) hs,
    fun H0 O0 O ρ σ H Q rl o => lc_read hvs rl o⟩
/-- name = [..] on one line, the name a local: data, or the frame's own -/
theorem ds_setLc (hc : X.calm = true) (hN : X.N.Nodup) (hy : X.N[i]? = some y) (hyl : X.env.scope.names.lookup y = some .local)
    (hsw : swapsWith (.ListComp elt [⟨tg, iter, ifs, 0⟩] scope pos) (some (.Name y py)) spos.line X.env = pure true) (hi : DI X W tg iter src) (ok : BlkOk X.N X.env.scope scope own) (hvs : ∀ j ∈ vs, j ∈ own.map (·.2))
    (hg : ∀ (s : Shared) (H : Hp) (C : Addr) (cl : List (Str × Addr)) (fp : List Addr), DG (X.blk s H scope (compEnvC scope cl C X.env) fp) tg vs tgt) (ht : ∀ (s : Shared) (H : Hp) (C : Addr) (cl : List (Str × Addr)) (fp : List Addr), DT (X.blk s H scope (compEnvC scope cl C X.env) fp) ifs p)
    (he : ∀ (s : Shared) (H : Hp) (C : Addr) (cl : List (Str × Addr)) (fp : List Addr), DE (X.blk s H scope (compEnvC scope cl C X.env) fp) W0 elt f) (hs : ∀ x, foldedSetIterable iter X.env x = pure x := by intro _; rfl) :
    DS X W (.Assign [.Name y py] (.ListComp elt [⟨tg, iter, ifs, 0⟩] scope pos) spos) (sSetL i (cLc (own.map (·.2)) src tgt p f)) := by
  refine ⟨_, ps_setLc (wi := iCan X W src) (g := gCan X.K vs tgt) (tt := bCan X W0 p) (te := eCan X W0 f) hc hN hy hyl hsw hi.can ok (fun s H C cl fp => (hg s H C cl fp).can) (fun s H C cl fp => (ht s H C cl fp).can) (fun s H C cl fp => (he s H C cl fp).can) hs,
    fun H0 O0 O ρ σ H D rl o => ?_⟩
  refine lc_read hvs rl ((OutS.ofR rl o).imp fun ds H1 e1 o1 p vs H2 np hv e2 => ?_)
  subst e2
  have r1 := rl.grow e1
  exact o1 _ _ _ (r1.setO np i ⟨p, vs, rfl, .inr rfl, fun z => r1.al p (r1.sub p z) np, upd_same, hv.mono (wo_add np)⟩)
theorem ds_setLcV (hc : X.calm = true) (hN : X.N.Nodup) (hy : X.N[i]? = some y) (hyl : X.env.scope.names.lookup y = some .local)
    (hsw : swapsWith (.ListComp elt [⟨tg, iter, ifs, 0⟩] scope pos) (some (.Name y py)) spos.line X.env = pure true) (hi : DI X W tg iter src) (ok : BlkOk X.N X.env.scope scope own) (hvs : ∀ j ∈ vs, j ∈ own.map (·.2))
    (hg : ∀ (s : Shared) (H : Hp) (C : Addr) (cl : List (Str × Addr)) (fp : List Addr), DG (X.blk s H scope (compEnvC scope cl C X.env) fp) tg vs tgt) (ht : ∀ (s : Shared) (H : Hp) (C : Addr) (cl : List (Str × Addr)) (fp : List Addr), DT (X.blk s H scope (compEnvC scope cl C X.env) fp) ifs p)
    (he : ∀ (s : Shared) (H : Hp) (C : Addr) (cl : List (Str × Addr)) (fp : List Addr), DE (X.blk s H scope (compEnvC scope cl C X.env) fp) W0 elt f) (hs : ∀ x, foldedSetIterable iter X.env x = pure x := by intro _; rfl) :
    DS X W (.Assign [.Name y py] (.ListComp elt [⟨tg, iter, ifs, 0⟩] scope pos) spos) (sSet i (cL (cLc (own.map (·.2)) src tgt p f))) := by
  refine ⟨_, ps_setLc (wi := iCan X W src) (g := gCan X.K vs tgt) (tt := bCan X W0 p) (te := eCan X W0 f) hc hN hy hyl hsw hi.can ok (fun s H C cl fp => (hg s H C cl fp).can) (fun s H C cl fp => (ht s H C cl fp).can) (fun s H C cl fp => (he s H C cl fp).can) hs,
    fun H0 O0 O ρ σ H D rl o => ?_⟩
  refine lc_read hvs rl ((OutP.bind (OutS.ofR rl o)).imp fun ds H1 e1 o1 p vs H2 np hv e2 => ?_)
  subst e2
  have r1 := rl.grow e1
  have nO := r1.fresh np
  exact o1 _ (Same.updNew (o := .lst vs) np) O _ _ ((r1.grow (Same.updNew np)).setV (.lst (.inl ((wo_new nO))) (all_grow np hv)) i)
end

/-! ### calls of the text's own defs -/
def spD (K : PySem.W.Frag) (mg : Str → Option Value) (n : Nat) (F : List PD → R PD) : Sp := fun vs H Q E => ∃ O ds, (∀ p, O p → H p ≠ none) ∧ vs.length = n ∧ DqAll K (wo H O) vs ds ∧
  match F ds with
  | .ok d => ∀ v H', Same H H' → Dq K (wo H' O) v d → Q v H'
  | .ex c pl => ∀ cls dx H', Same H H' → IsEx K mg c pl cls dx (wo H' O) → E cls dx H'
  | .bad => False
/-- the def at f gives F -/
abbrev FnD (P : Program) (w : World) (K : PySem.W.Frag) (mg : Str → Option Value) (base : Heap) (k : Nat) (f : Addr) (fd : FuncData) (ps : List Str) (F : List PD → R PD) : Prop :=
  FnOk P w K mg base (L2.CX P w) k f fd ps (spD K mg ps.length F)
def cCall (n : Nat) (F : List PD → R PD) (g : En → R (List PD)) : En → R PD := fun ρ => (g ρ).bind fun ds => chk (ds.length == n) (F ds)
section
variable {X : Cx} {W : WX} {k : Nat} {f : Addr} {fd : FuncData} {ps : List Str} {F : List PD → R PD} {x : Str} {p pos : Pos} {e : Expr} {es : List Expr} {g : En → R (List PD)}
theorem de_call (G : FnD X.prog X.w X.K X.mg X.base k f fd ps F) (hr : Room k X.A) (hg : Gl X x) (hm : X.mg x = some (.ref f)) (hk : PySem.W.keepIn X.K (.ref f) = true) (hb : Binds X.K fd ps []) (tk : Takes X W)
    (ha : DC X W (e :: es) g) (hdb : (x == ("__debug__" : Str)) = false := by decide) (he : starEach (e :: es) X.env = (false, eval e X.env) :: starEach es X.env := by rfl) (hpl : (backTo pos (starEach es X.env)).any (·.1) = false := by rfl) :
    DE X W (.Call (.Name x p) (e :: es) [] pos) (cCall ps.length F g) := by
  obtain ⟨t, pt, qt⟩ := ha.ex
  refine ⟨_, pe_callS (E := WE W) G hr hg hm hk hb (fun σ => passAt tk σ) pt hdb he hpl, fun H0 O0 O ρ σ H Q rl o => ?_⟩
  refine qt H0 O0 O ρ σ H _ rl (o.bind.imp fun ds H1 e1 o1 vs hv => ?_)
  obtain ⟨c, o1⟩ := OutP.chk o1
  refine ⟨O, ds, (rl.grow e1).al, by rw [hv.length]; exact eq_of_beq c, hv, ?_⟩
  cases q : F ds with
  | ok d => rw [q] at o1; exact fun v H' e' hd => o1 H' e' v hd
  | ex c pl => rw [q] at o1; exact fun cls dx H' e' i => o1 cls dx H' e' i
  | bad => rw [q] at o1; exact o1.elim
end

/-! ### a def's body -/
def fin : Fl → R PD
  | .nx _ => .ok .none
  | .rt d => .ok d
  | .ex c pl _ => .ex c pl
  | _ => .bad
def startE (n : Nat) (ds : List PD) : En := ds.map Sl.va ++ List.replicate (n - ds.length) .un
abbrev WofE (E : XK) : WX := fun cls d _ H => E cls d H
theorem _root_.L2.KvR.monoE {κ : Type} {K : PySem.W.Frag} {H H' : Hp} {a : List (κ × V)} {b : List (κ × PD)} (h : KvR K H a b) (e : Same H H') : KvR K H' a b := h.mono e
theorem IsEx.mono {K : PySem.W.Frag} {mg : Str → Option Value} {c : Str} {pl : List (Str × PD)} {cls : Value} {dx : Option Addr} {G G' : Hp} (h : IsEx K mg c pl cls dx G) (e : Same G G') : IsEx K mg c pl cls dx G' := by
  obtain ⟨C, h1, h2, h3⟩ := h
  refine ⟨C, h1, h2, ?_⟩
  rcases h3 with h3 | ⟨p, fs, h4, h5, h6⟩
  · exact .inl h3
  · exact .inr ⟨p, fs, h4, e _ _ h5, h6.mono e⟩
theorem start_rel {K : PySem.W.Frag} {H : Hp} {O : Addr → Prop} {vs : List V} {ds : List PD} {N : List Str} (al : ∀ p, O p → H p ≠ none) (h : DqAll K (wo H O) vs ds) : Rel K H O O H (startE N.length ds) (L2.start N vs) := by
  have hl := h.length
  refine ⟨Same.refl H, fun _ z => z, fun _ z => .inl z, al, by simp [startE, L2.start, hl], fun i s q => ?_, fun i j s s' p hij q q' ns ns' _ => ?_⟩
  · unfold startE at q
    unfold L2.start
    by_cases hi : i < ds.length
    · rw [List.getElem?_append_left (by simpa using hi), List.getElem?_map] at q
      cases hd : ds[i]? with
      | none => rw [hd] at q; cases q
      | some d =>
        rw [hd] at q; cases q
        obtain ⟨v, h1, h2⟩ := h.get hd
        refine ⟨v, ?_, h2⟩
        rw [List.getElem?_append_left (by simpa [hl] using hi), List.getElem?_map, h1]; rfl
    · rw [List.getElem?_append_right (by simpa using hi)] at q
      rw [List.getElem?_replicate] at q
      split at q
      · cases q; trivial
      · cases q
  · exfalso
    unfold startE at q
    by_cases hi : i < ds.length
    · rw [List.getElem?_append_left (by simpa using hi), List.getElem?_map] at q
      cases hd : ds[i]? with
      | none => rw [hd] at q; cases q
      | some d => rw [hd] at q; cases q; cases ns
    · rw [List.getElem?_append_right (by simpa using hi), List.getElem?_replicate] at q
      split at q
      · cases q; cases ns
      · cases q
section
variable {P : Program} {w : World} {K : PySem.W.Frag} {mg : Str → Option Value} {base : Heap}
theorem fnD_of {x qual : Str} {st : Stmt} {f : Addr} {fd : FuncData} {N ps : List Str} {k : Nat} {g : En → Fl} (F : Fun K x qual st f fd) (S : FnScope N ps (defScope st))
    (hbody : ∀ (cdv : Value) (A : Around) (outer : List PySem.Env) (s : Shared) (H : Hp) (E : XK), Room k (A.deeper (PyProof.Rows.envOfC qual (defScope st) s.heap.objs.size f cdv)) →
      DSs (cxOf (L2.CX P w) P w K mg base N qual (defScope st) f cdv A outer s H E) (WofE E) (defBody st) g) : FnD P w K mg base (k + 1) f fd ps (fun ds => fin (g (startE N.length ds))) := by
  refine F.okX S (fun vs H Q E h => ?_) (fun cdv A outer s H vs Q E hr h => ?_)
  · obtain ⟨_, _, _, h, _⟩ := h; exact h
  · obtain ⟨O, ds, al, hn, hd, o⟩ := h
    obtain ⟨t, pt, qt⟩ := (hbody cdv A outer s H E hr).ex
    refine ⟨t, pt, qt H O O _ _ H _ (start_rel al hd) ?_⟩
    show OutS K mg (WofE E) H O _ (g (startE N.length ds))
    have o : (match fin (g (startE N.length ds)) with
      | .ok d => ∀ v H', Same H H' → Dq K (wo H' O) v d → Q v H'
      | .ex c pl => ∀ cls dx H', Same H H' → IsEx K mg c pl cls dx (wo H' O) → E cls dx H'
      | .bad => False) := o
    cases q : g (startE N.length ds) with
    | nx ρ => rw [q] at o; exact fun O' H' σ' r => o .non H' r.fr .non
    | rt d => rw [q] at o; exact fun v H' e hv => o v H' e hv
    | bk ρ => rw [q] at o; exact o.elim
    | ct ρ => rw [q] at o; exact o.elim
    | ex c pl ρ => rw [q] at o; exact fun O' H' σ' cls dx r i => o cls dx H' r.fr (i.mono (wo_sub r.sub))
    | bad => rw [q] at o; exact o.elim
end

/-! ### raise, try -/
section
variable {X : Cx} {W : WX} {C : Addr} {bmB : List Value} {B newId initId : String} {x m : Str} {j : Nat} {p p2 pos pos2 : Pos}
theorem ds_raise (hc : X.calm = true) (tk : Takes X W) (F : PySem.ExcBaseFacts B newId initId bmB) (q : PySem.W.excIn X.K C bmB newId = true) (gC : X.mg x = some (.ref C)) (kC : PySem.W.keepIn X.K (.ref C) = true) (r : Raises X (.ref C)) (hg : Gl X x)
    (hdb : (x == ("__debug__" : Str)) = false := by decide) : DS X W (.Raise (some (.Call (.Name x p) [.Constant (.str m) j p2] [] pos)) none pos2) (fun ρ => .ex x [] ρ) :=
  ⟨_, ps_raise hc tk (pmk_own F q gC kC r hg hdb), fun H0 O0 O ρ σ H D rl o => o O H σ (.ref C) none rl ⟨C, gC, rfl, .inl rfl⟩⟩
end

def noEx : Fl → Fl
  | .ex _ _ _ => .bad
  | o => o
def hdl : List (Str × (En → Fl)) → Str → List (Str × PD) → En → Fl
  | [], c, pl, ρ => .ex c pl ρ
  | (n, g) :: r, c, pl, ρ => if (c == n) = true then noEx (g ρ) else hdl r c pl ρ
def sTry (cs : List Str) (body : En → Fl) (hs : List (Str × (En → Fl))) : En → Fl := fun ρ => match body ρ with
  | .ex c pl ρ' => if cs.contains c = true then hdl hs c pl ρ' else .bad
  | o => o
/-- the classes of cs are apart -/
def Apart (K : PySem.W.Frag) (mg : Str → Option Value) (cs : List Str) : Prop :=
  ∀ c ∈ cs, ∀ c' ∈ cs, ∀ C C', mg c = some (.ref C) → mg c' = some (.ref C') → PySem.W.exmOne K (.ref C) (.ref C') = some (c == c')
inductive HdD (X : Cx) : List ExceptHandler → List (Str × (En → Fl)) → Prop
  | nil : HdD X [] []
  | cons {x : Str} {C : Addr} {g : En → Fl} {b₀ : Stmt} {suite : List Stmt} {np pos' : Pos} {hds : List ExceptHandler} {l : List (Str × (En → Fl))} (hg : Gl X x) (hm : X.mg x = some (.ref C))
      (hsu : ∀ (a : Addr) (oe : Obj) (cls : Value) (d : Option Addr) (pn : List (Addr × Obj)), DSs (X.suite a ((a, oe) :: pn)) W0 (b₀ :: suite) g) (r : HdD X hds l) (hdb : (x == ("__debug__" : Str)) = false := by decide) :
      HdD X (.ExceptHandler (some (.Name x np)) none (b₀ :: suite) pos' :: hds) ((x, g) :: l)
section
variable {X : Cx} {W : WX} {body : List Stmt} {g : En → Fl} {h₀ : ExceptHandler} {hds : List ExceptHandler} {l : List (Str × (En → Fl))} {pos : Pos} {cs : List Str}
abbrev HdRel (X : Cx) : (Str × (En → Fl)) → (Value × (Addr → Value → Option Addr → TS)) → Prop := fun p q => ∃ C, X.mg p.1 = some (.ref C) ∧ q.1 = .ref C ∧ q.2 = fun _ _ _ => sCan X.K X.mg W0 p.2
theorem HdD.ok : ∀ {hds : List ExceptHandler} {l : List (Str × (En → Fl))}, HdD X hds l → ∃ l', HdsOk X hds l' ∧ Paired (HdRel X) l l'
  | _, _, .nil => ⟨[], .nil, .nil⟩
  | _, _, .cons hg hm hsu r hdb => by
    obtain ⟨l', h1, h2⟩ := HdD.ok r
    exact ⟨_, .cons (ts := fun _ _ _ => sCan X.K X.mg W0 _) ⟨hg, hdb, .inl hm⟩ (fun a oe cls d pn _ _ => (hsu a oe cls d pn).can) h1, .cons ⟨_, hm, rfl, rfl⟩ h2⟩
theorem OutS.noEx {K : PySem.W.Frag} {mg : Str → Option Value} {H0 : Hp} {O0 : Addr → Prop} {D : Ends} {o : Fl} (h : OutS K mg W H0 O0 D (noEx o)) : OutS K mg W0 H0 O0 D o := by
  cases o with
  | ex _ _ _ => exact h.elim
  | _ => exact h
theorem many_of (ap : Apart X.K X.mg cs) {c : Str} {pl : List (Str × PD)} {H0 H : Hp} {O0 O : Addr → Prop} {ρ : En} {σ : L2.St} {cls : Value} {dx : Option Addr} {D : Ends} (hc : c ∈ cs) (rl : Rel X.K H0 O0 O H ρ σ) (ie : IsEx X.K X.mg c pl cls dx (wo H O)) :
    ∀ {l : List (Str × (En → Fl))} {l' : List (Value × (Addr → Value → Option Addr → TS))}, Paired (HdRel X) l l' → (∀ p ∈ l, p.1 ∈ cs) → OutS X.K X.mg W H0 O0 D (hdl l c pl ρ) → wMany X.K W D l' cls dx σ H
  | _, _, .nil, _, o => o O H σ cls dx rl ie
  | _, _, .cons (a := (n, g)) (b := q) hr r, hin, o => by
    obtain ⟨C, hm, e1, e2⟩ := hr
    obtain ⟨q1, q2⟩ := q
    simp only at e1 e2
    subst e1 e2
    obtain ⟨C0, m0, ec, pls⟩ := id ie
    subst ec
    have em := ap c hc n (hin (n, g) List.mem_cons_self) C0 C m0 hm
    unfold hdl at o
    refine ⟨_, em, fun hb a ha => ?_, fun hb => ?_⟩
    · rw [if_pos hb] at o
      exact ⟨H0, O0, O, ρ, rl, o.noEx⟩
    · rw [if_neg (by rw [hb]; exact Bool.false_ne_true)] at o
      exact many_of ap hc rl ie r (fun p hp => hin p (List.mem_cons_of_mem _ hp)) o
theorem ds_try (hs : X.stack = X.env :: X.outer) (hf : X.env.frame = some X.env.locals) (tk : Takes X W) (ap : Apart X.K X.mg cs)
    (hb : ∀ (W' : WX) (pn : List (Addr × Obj)) (xe : Value → Shared → Prop), Takes (X.tr pn xe) W' → PassesOwn (model X.prog X.w) X.A X.env xe → DSs (X.tr pn xe) W' body g)
    (hh : HdD X (h₀ :: hds) l) (hin : ∀ p ∈ l, p.1 ∈ cs) : DS X W (.Try body (h₀ :: hds) [] [] pos) (sTry cs g l) := by
  obtain ⟨l', h1, h2⟩ := hh.ok
  refine ⟨_, ps_try_many (tb := fun W' => sCan X.K X.mg W' g) hs hf tk (fun W' pn xe t1 t2 => (hb W' pn xe t1 t2).can) h1, fun H0 O0 O ρ σ H D rl o => ⟨H0, O0, O, ρ, rl, ?_⟩⟩
  unfold sTry at o
  cases q : g ρ with
  | ex c pl ρ' =>
    simp only [q] at o
    by_cases hc : cs.contains c = true
    · rw [if_pos hc] at o
      exact fun O' H' σ' cls dx r i => many_of ap (List.contains_iff_mem.mp hc) r i h2 hin o
    · rw [if_neg hc] at o; exact o.elim
  | nx ρ' => simp only [q] at o; exact o
  | rt d => simp only [q] at o; exact o
  | bk ρ' => simp only [q] at o; exact o
  | ct ρ' => simp only [q] at o; exact o
  | bad => simp only [q] at o; exact o.elim
end
end DL
namespace DL
open PySem PySem.Spec L2

theorem OutP.grow {α : Type} {X : Cx} {W : WX} {O : Addr → Prop} {σ : L2.St} {H H1 : Hp} {r : R α} {P : α → Hp → Prop} (h : OutP X W O σ H r P) (e : Same H H1) : OutP X W O σ H1 r P := by
  cases r with
  | ok a => exact fun H' e' => h H' (e.trans e')
  | ex c pl => exact fun cls dx H' e' => h cls dx H' (e.trans e')
  | bad => exact h
/-! ### data -/
mutual
theorem dplain {K : PySem.W.Frag} {H : Hp} : ∀ (d : PD) (v : V), Dq K H v d → d.plain = true
  | _, _, .non => rfl
  | _, _, .bl b => rfl
  | _, _, .int i => rfl
  | _, _, .str x => rfl
  | _, _, .lst _ h2 => dplainAll _ _ h2
  | _, _, .tup _ h2 => dplainAll _ _ h2
theorem dplainAll {K : PySem.W.Frag} {H : Hp} : ∀ (ds : List PD) (vs : List V), DqAll K H vs ds → PyData.plainAll ds = true
  | _, _, .nil => rfl
  | _, _, .cons h1 h2 => by rw [PyData.plainAll, dplain _ _ h1, dplainAll _ _ h2]; rfl
end
theorem Dt.plain {K : PySem.W.Frag} {O : Addr → Prop} {H : Hp} {v : V} {d : PD} (h : Dt K O H v d) : d.plain = true := dplain _ _ h.dp
section
variable {X : Cx} {pins : List (Addr × Obj)} {σ : L2.St} {H : Hp} {s : Shared} {O : Addr → Prop}
theorem Dt.reads (I : Inv X pins σ H s) {v : V} {d : PD} {u : Value} (h : Dt X.K O H v d) (r : RelV v u) : ∃ as, PySem.Reads s.heap u d as := Dp.reads I d v u h.dp.dp r
theorem dp_unique (I : Inv X pins σ H s) {v : V} {d e : PD} {u : Value} {as : List Addr} (h : Dq X.K H v d) (r : RelV v u) (h' : PySem.Reads s.heap u e as) : d = e := by
  obtain ⟨bs, q⟩ := Dp.reads I d v u h.dp r
  exact SeqAt.plain_unique d e u bs as (dplain _ _ h) q h'
end
/-- room for deep looks -/
def Deep (X : Cx) : Prop := X.A.units + 190 < cLine
theorem Deep.of {X : Cx} {k : Nat} (h : Room k X.A) : Deep X := by have := h.un; unfold Deep; omega
def dOk (d e : PD) : Bool := decide (min d.depth e.depth ≤ 100)

/-! ### comparisons -/
def rEqP (K : PySem.W.Frag) : R2 := fun x y H Q => ∃ d e, Dq K H x d ∧ Dq K H y e ∧ dOk d e = true ∧ Q (.bl (PyData.eqv d e)) H
def rNeP (K : PySem.W.Frag) : R2 := fun x y H Q => ∃ d e, Dq K H x d ∧ Dq K H y e ∧ dOk d e = true ∧ Q (.bl (!PyData.eqv d e)) H
section
variable {X : Cx}
theorem op_eqP (hu : Deep X) : OpR X (compareOp .Eq) (rEqP X.K) := by
  intro pins s σ H x y v u Q I rx ry h
  obtain ⟨d, e, hd, he, ho, q⟩ := h
  obtain ⟨as, r1⟩ := Dp.reads I d x v hd.dp rx
  obtain ⟨bs, r2⟩ := Dp.reads I e y u he.dp ry
  have ho' := of_decide_eq_true ho
  exact SeqAt.eq_plain r1 r2 (dplain _ _ hd) (dplain _ _ he) (by unfold Deep at hu; omega) ⟨.bl _, H, I, rfl, q⟩
theorem op_neP (hu : Deep X) : OpR X (compareOp .NotEq) (rNeP X.K) := by
  intro pins s σ H x y v u Q I rx ry h
  obtain ⟨d, e, hd, he, ho, q⟩ := h
  obtain ⟨as, r1⟩ := Dp.reads I d x v hd.dp rx
  obtain ⟨bs, r2⟩ := Dp.reads I e y u he.dp ry
  have ho' := of_decide_eq_true ho
  exact SeqAt.ne_plain r1 r2 (dplain _ _ hd) (dplain _ _ he) (by unfold Deep at hu; omega) ⟨.bl _, H, I, rfl, q⟩
def eqD (d e : PD) : R PD := chk (dOk d e) (.ok (.bool (PyData.eqv d e)))
def neD (d e : PD) : R PD := chk (dOk d e) (.ok (.bool (!PyData.eqv d e)))
theorem opd_eq (hu : Deep X) : OpD X (compareOp .Eq) eqD :=
  ⟨_, op_eqP hu, fun W O σ H x y d e Q nO hx hy o => by
    obtain ⟨c, o⟩ := OutP.chk o
    exact ⟨d, e, hx.dp, hy.dp, c, o H (Same.refl H) _ (.bl _)⟩⟩
theorem opd_ne (hu : Deep X) : OpD X (compareOp .NotEq) neD :=
  ⟨_, op_neP hu, fun W O σ H x y d e Q nO hx hy o => by
    obtain ⟨c, o⟩ := OutP.chk o
    exact ⟨d, e, hx.dp, hy.dp, c, o H (Same.refl H) _ (.bl _)⟩⟩
/-- an order, of ints or of alike data -/
def ordD (p : Int → Int → Bool) (F : PD → PD → Bool) (d e : PD) : R PD := match d, e with
  | .int i, .int j => .ok (.bool (p i j))
  | .tuple xs, .tuple ys => chk (PySem.W.alike (.tuple xs) (.tuple ys) && dOk (.tuple xs) (.tuple ys)) (.ok (.bool (F (.tuple xs) (.tuple ys))))
  | .str x, .str y => .ok (.bool (F (.str x) (.str y)))
  | _, _ => .bad
def rOrd (K : PySem.W.Frag) (F : PD → PD → Bool) : R2 := fun x y H Q => ∃ d e, Dq K H x d ∧ Dq K H y e ∧ d ≠ .none ∧ PySem.W.alike d e = true ∧ dOk d e = true ∧ Q (.bl (F d e)) H
theorem op_ordP (hu : Deep X) {op : CmpOp} {F : PD → PD → Bool}
    (rule : ∀ (s : Shared) (a b : Value) (da db : PD) (as bs : List Addr) (Q E : Value → Shared → Prop), PySem.Reads s.heap a da as → PySem.Reads s.heap b db bs → PySem.W.alike da db = true → da ≠ .none → X.A.units + min da.depth db.depth < cLine → Q (.bool (F da db)) s → wpAny (model X.prog X.w) X.A (compareOp op a b) Q E s) :
    OpR X (compareOp op) (rOrd X.K F) := by
  intro pins s σ H x y v u Q I rx ry h
  obtain ⟨d, e, hd, he, hn, ha, ho, q⟩ := h
  obtain ⟨as, r1⟩ := Dp.reads I d x v hd.dp rx
  obtain ⟨bs, r2⟩ := Dp.reads I e y u he.dp ry
  have ho' := of_decide_eq_true ho
  exact rule s v u d e as bs _ _ r1 r2 ha hn (by unfold Deep at hu; omega) ⟨.bl _, H, I, rfl, q⟩
theorem opd_ord {op : CmpOp} {p : Int → Int → Bool} {F : PD → PD → Bool} (h1 : OpR X (compareOp op) (rI0 fun i j => .bl (p i j))) (h2 : OpR X (compareOp op) (rOrd X.K F)) : OpD X (compareOp op) (ordD p F) := by
  refine ⟨_, h1.or h2, fun W O σ H x y d e Q nO hx hy o => ?_⟩
  cases d with
  | int i =>
    cases e with
    | int j => cases hx.sc_int; cases hy.sc_int; exact .inl ⟨i, j, rfl, rfl, o H (Same.refl H) _ (.bl _)⟩
    | _ => exact o.elim
  | tuple xs =>
    cases e with
    | tuple ys =>
      obtain ⟨c, o⟩ := OutP.chk o
      rw [Bool.and_eq_true] at c
      exact .inr ⟨_, _, hx.dp, hy.dp, (fun z => by cases z), c.1, c.2, o H (Same.refl H) _ (.bl _)⟩
    | _ => exact o.elim
  | str xs =>
    cases e with
    | str ys => exact .inr ⟨_, _, hx.dp, hy.dp, (fun z => by cases z), by simp [PySem.W.alike], by simp [dOk, PyData.depth], o H (Same.refl H) _ (.bl _)⟩
    | _ => exact o.elim
  | _ => cases e <;> exact o.elim
def ltD := ordD (fun i j => decide (i < j)) PySem.W.dataLt
def leD := ordD (fun i j => decide (i ≤ j)) fun d e => !PySem.W.dataLt e d
def gtD := ordD (fun i j => decide (j < i)) fun d e => PySem.W.dataLt e d
def geD := ordD (fun i j => decide (j ≤ i)) fun d e => !PySem.W.dataLt d e
theorem opd_lt (hu : Deep X) : OpD X (compareOp .Lt) ltD := opd_ord op_lt (op_ordP hu fun s a b da db as bs Q E r1 r2 h hn hz q => PySem.W.lt_data r1 r2 h hn hz q)
theorem opd_le (hu : Deep X) : OpD X (compareOp .LtE) leD := opd_ord op_le (op_ordP hu fun s a b da db as bs Q E r1 r2 h hn hz q => PySem.W.le_data r1 r2 h hn hz q)
theorem opd_gt (hu : Deep X) : OpD X (compareOp .Gt) gtD := opd_ord op_gt (op_ordP hu fun s a b da db as bs Q E r1 r2 h hn hz q => PySem.W.gt_data r1 r2 h hn hz q)
theorem opd_ge (hu : Deep X) : OpD X (compareOp .GtE) geD := opd_ord op_ge (op_ordP hu fun s a b da db as bs Q E r1 r2 h hn hz q => PySem.W.ge_data r1 r2 h hn hz q)
/-- is, is not: None, truth values -/
def isNo : PD → Bool
  | .none => true
  | _ => false
def isD (d e : PD) : R PD := match d, e with
  | x, .none => .ok (.bool (isNo x))
  | .bool a, .bool b => .ok (.bool (a == b))
  | _, _ => .bad
def isnD (d e : PD) : R PD := match d, e with
  | x, .none => .ok (.bool (!isNo x))
  | .bool a, .bool b => .ok (.bool (!(a == b)))
  | _, _ => .bad
theorem non_iff {K : PySem.W.Frag} {O : Addr → Prop} {H : Hp} {x : V} {d : PD} (h : Dt K O H x d) : decide (x = .non) = isNo d := by
  have := h.dp
  cases this <;> simp [isNo]
theorem opd_is : OpD X (compareOp .Is) isD := by
  refine ⟨_, op_isN.or op_isBl, fun W O σ H x y d e Q nO hx hy o => ?_⟩
  cases e with
  | none =>
    cases hy.sc_non
    refine .inl ⟨rfl, ?_⟩
    rw [non_iff hx]
    have o' : OutP X W O σ H (.ok (.bool (isNo d))) (fun d H' => ∀ v, Dq X.K (wo H' O) v d → Q v H') := by cases d <;> exact o
    exact o' H (Same.refl H) _ (.bl _)
  | bool b =>
    cases d with
    | bool a =>
      cases hx.sc_bl; cases hy.sc_bl
      refine .inr ⟨a, b, rfl, rfl, ?_⟩
      have := o H (Same.refl H) _ (.bl _)
      cases a <;> cases b <;> exact this
    | _ => exact o.elim
  | _ => cases d <;> exact o.elim
theorem opd_isn : OpD X (compareOp .IsNot) isnD := by
  refine ⟨_, op_notN.or op_notBl, fun W O σ H x y d e Q nO hx hy o => ?_⟩
  cases e with
  | none =>
    cases hy.sc_non
    refine .inl ⟨rfl, ?_⟩
    rw [non_iff hx]
    have o' : OutP X W O σ H (.ok (.bool (!isNo d))) (fun d H' => ∀ v, Dq X.K (wo H' O) v d → Q v H') := by cases d <;> exact o
    exact o' H (Same.refl H) _ (.bl _)
  | bool b =>
    cases d with
    | bool a =>
      cases hx.sc_bl; cases hy.sc_bl
      refine .inr ⟨a, b, rfl, rfl, ?_⟩
      have := o H (Same.refl H) _ (.bl _)
      cases a <;> cases b <;> exact this
    | _ => exact o.elim
  | _ => cases d <;> exact o.elim
/-- in, not in: lists and tuples (texts: inS) -/
def inOk (d : PD) (xs : List PD) : Bool := decide (min (PyData.depthAll xs) d.depth ≤ 100)
def inD (d e : PD) : R PD := match e with
  | .list xs => chk (inOk d xs) (.ok (.bool (xs.any fun y => PyData.eqv y d)))
  | .tuple xs => chk (inOk d xs) (.ok (.bool (xs.any fun y => PyData.eqv y d)))
  | .str z => match d with
    | .str i => .ok (.bool (!(Builtin.Str.occurrences z i 0 z.length 1).isEmpty))
    | _ => .bad
  | _ => .bad
def notinD (d e : PD) : R PD := match e with
  | .list xs => chk (inOk d xs) (.ok (.bool (!xs.any fun y => PyData.eqv y d)))
  | .tuple xs => chk (inOk d xs) (.ok (.bool (!xs.any fun y => PyData.eqv y d)))
  | .str z => match d with
    | .str i => .ok (.bool (!!(Builtin.Str.occurrences z i 0 z.length 1).isEmpty))
    | _ => .bad
  | _ => .bad
def rInP (K : PySem.W.Frag) (neg : Bool) : R2 := fun x y H Q => ∃ d xs, Dq K H x d ∧ (Dq K H y (.list xs) ∨ Dq K H y (.tuple xs)) ∧ inOk d xs = true ∧ Q (.bl (if neg then !xs.any fun y => PyData.eqv y d else xs.any fun y => PyData.eqv y d)) H
theorem op_inP (hu : Deep X) : OpR X (compareOp .In) (rInP X.K false) := by
  intro pins s σ H x y v u Q I rx ry h
  obtain ⟨d, xs, hd, he, ho, q⟩ := h
  have ho' := of_decide_eq_true ho
  obtain ⟨as, r1⟩ := Dp.reads I d x v hd.dp rx
  rcases he with he | he
  · obtain ⟨bs, r2⟩ := Dp.reads I _ y u he.dp ry
    exact SeqAt.in_list_data r2 r1 (by have := dplain _ _ he; exact this) (dplain _ _ hd) (by unfold Deep at hu; omega) ⟨.bl _, H, I, rfl, q⟩
  · obtain ⟨bs, r2⟩ := Dp.reads I _ y u he.dp ry
    exact SeqAt.in_tuple_data r2 r1 (by have := dplain _ _ he; exact this) (dplain _ _ hd) (by unfold Deep at hu; omega) ⟨.bl _, H, I, rfl, q⟩
theorem op_notinP (hu : Deep X) : OpR X (compareOp .NotIn) (rInP X.K true) := by
  intro pins s σ H x y v u Q I rx ry h
  obtain ⟨d, xs, hd, he, ho, q⟩ := h
  have ho' := of_decide_eq_true ho
  obtain ⟨as, r1⟩ := Dp.reads I d x v hd.dp rx
  rcases he with he | he
  · obtain ⟨bs, r2⟩ := Dp.reads I _ y u he.dp ry
    exact SeqAt.notIn_list_data r2 r1 (by have := dplain _ _ he; exact this) (dplain _ _ hd) (by unfold Deep at hu; omega) ⟨.bl _, H, I, rfl, q⟩
  · obtain ⟨bs, r2⟩ := Dp.reads I _ y u he.dp ry
    exact SeqAt.notIn_tuple_data r2 r1 (by have := dplain _ _ he; exact this) (dplain _ _ hd) (by unfold Deep at hu; omega) ⟨.bl _, H, I, rfl, q⟩
theorem opd_in (hu : Deep X) : OpD X (compareOp .In) inD := by
  refine ⟨_, (op_inP hu).or op_in_str, fun W O σ H x y d e Q nO hx hy o => ?_⟩
  cases e with
  | list xs => obtain ⟨c, o⟩ := OutP.chk o; exact .inl ⟨d, xs, hx.dp, .inl hy.dp, c, o H (Same.refl H) _ (.bl _)⟩
  | tuple xs => obtain ⟨c, o⟩ := OutP.chk o; exact .inl ⟨d, xs, hx.dp, .inr hy.dp, c, o H (Same.refl H) _ (.bl _)⟩
  | str z =>
    cases d with
    | str i => cases hx.sc_str; cases hy.sc_str; exact .inr ⟨i, z, rfl, rfl, o H (Same.refl H) _ (.bl _)⟩
    | _ => exact o.elim
  | _ => exact o.elim
theorem opd_notin (hu : Deep X) : OpD X (compareOp .NotIn) notinD := by
  refine ⟨_, (op_notinP hu).or op_notIn_str, fun W O σ H x y d e Q nO hx hy o => ?_⟩
  cases e with
  | list xs => obtain ⟨c, o⟩ := OutP.chk o; exact .inl ⟨d, xs, hx.dp, .inl hy.dp, c, o H (Same.refl H) _ (.bl _)⟩
  | tuple xs => obtain ⟨c, o⟩ := OutP.chk o; exact .inl ⟨d, xs, hx.dp, .inr hy.dp, c, o H (Same.refl H) _ (.bl _)⟩
  | str z =>
    cases d with
    | str i => cases hx.sc_str; cases hy.sc_str; exact .inr ⟨i, z, rfl, rfl, o H (Same.refl H) _ (.bl _)⟩
    | _ => exact o.elim
  | _ => exact o.elim

/-! ### arithmetic -/
def addD (d e : PD) : R PD := match d, e with
  | .int i, .int j => .ok (.int (i + j))
  | .str x, .str y => chk (decide (x.length + y.length ≤ big)) (.ok (.str (x ++ y)))
  | .tuple xs, .tuple ys => chk (decide (xs.length + ys.length ≤ big)) (.ok (.tuple (xs ++ ys)))
  | .list xs, .list ys => chk (decide (xs.length + ys.length ≤ big)) (.ok (.list (xs ++ ys)))
  | _, _ => .bad
/-- list + list, whatever they are -/
def rCatP : R2 := fun x y H Q => ∃ l b xs zs, x = .ref l ∧ y = .ref b ∧ Rd H l (.lst xs) ∧ Rd H b (.lst zs) ∧ xs.length + zs.length ≤ sizeLine ∧ ∀ p, H p = none → Q (.ref p) (upd H p (.lst (xs ++ zs)))
theorem op_catP : OpR X (binaryOp .Add) rCatP := by
  intro pins s σ H x y v u Q I rx ry h
  obtain ⟨l, b, xs, zs, rfl, rfl, hH, hB, hz, q⟩ := h
  cases rx
  cases ry
  obtain ⟨_, its, n, r, e⟩ := hH.ok I.hok
  obtain ⟨_, its2, n2, r2, e2⟩ := hB.ok I.hok
  have hl := r.length
  have hl2 := r2.length
  refine PySem.P.add_list e e2 ?_ (by rw [List.size_toArray, List.size_toArray]; omega)
  have ea : its.toArray ++ its2.toArray = (its ++ its2).toArray := by simp
  rw [ea]
  exact ⟨.ref _, _, I.lnew (t' := s.toks) (r.append r2) (by rw [List.length_append]; omega), rfl, q _ I.fresh⟩
theorem opd_add : OpD X (binaryOp .Add) addD := by
  refine ⟨_, op_add.or (op_add_str.or (op_catA.or op_catP)), fun W O σ H x y d e Q nO hx hy o => ?_⟩
  cases d with
  | int i =>
    cases e with
    | int j => cases hx.sc_int; cases hy.sc_int; exact .inl ⟨i, j, rfl, rfl, o H (Same.refl H) _ (.int _)⟩
    | _ => exact o.elim
  | str i =>
    cases e with
    | str j => cases hx.sc_str; cases hy.sc_str; obtain ⟨c, o⟩ := OutP.chk o; exact .inr (.inl ⟨i, j, rfl, rfl, big_line (of_decide_eq_true c), o H (Same.refl H) _ (.str _)⟩)
    | _ => exact o.elim
  | tuple xs =>
    cases e with
    | tuple ys =>
      obtain ⟨c, o⟩ := OutP.chk o
      obtain ⟨a, vs, rfl, h1, h2⟩ := hx.tuple
      obtain ⟨b, ws, rfl, h3, h4⟩ := hy.tuple
      refine .inr (.inr (.inl ⟨a, b, vs, ws, rfl, rfl, Same.seqT wo_self h1, Same.seqT wo_self h3, by rw [h2.length, h4.length]; exact big_line (of_decide_eq_true c), fun e0 => ?_, fun _ e0 => ?_, fun _ _ p np => ?_⟩))
      · subst e0
        cases h2
        exact o H (Same.refl H) _ (.tup h3 h4)
      · subst e0
        cases h4
        rw [List.append_nil] at o
        exact o H (Same.refl H) _ (.tup h1 h2)
      · exact o _ (Same.updNew np) _ (.tup (.inl (.inl (wo_new (nO p np)))) (all_grow np (h2.append h4)))
    | _ => exact o.elim
  | list xs =>
    cases e with
    | list ys =>
      obtain ⟨c, o⟩ := OutP.chk o
      obtain ⟨a, vs, rfl, h1, h2⟩ := hx.list
      obtain ⟨b, ws, rfl, h3, h4⟩ := hy.list
      exact .inr (.inr (.inr ⟨a, b, vs, ws, rfl, rfl, h1, h3, by rw [h2.length, h4.length]; exact big_line (of_decide_eq_true c), fun p np => o _ (Same.updNew np) _ (.lst (.inl ((wo_new (nO p np)))) (all_grow np (h2.append h4)))⟩))
    | _ => exact o.elim
  | _ => cases e <;> exact o.elim
def subD (d e : PD) : R PD := match d, e with
  | .int i, .int j => .ok (.int (i - j))
  | _, _ => .bad
theorem opd_sub : OpD X (binaryOp .Sub) subD := by
  refine ⟨_, op_sub, fun W O σ H x y d e Q nO hx hy o => ?_⟩
  cases d with
  | int i =>
    cases e with
    | int j => cases hx.sc_int; cases hy.sc_int; exact ⟨i, j, rfl, rfl, o H (Same.refl H) _ (.int _)⟩
    | _ => exact o.elim
  | _ => cases e <;> exact o.elim
def modD (d e : PD) : R PD := match d, e with
  | .int i, .int j => chk (decide (0 < j)) (.ok (.int (i % j)))
  | _, _ => .bad
theorem opd_mod : OpD X (binaryOp .Mod) modD := by
  refine ⟨_, op_mod, fun W O σ H x y d e Q nO hx hy o => ?_⟩
  cases d with
  | int i =>
    cases e with
    | int j => cases hx.sc_int; cases hy.sc_int; obtain ⟨c, o⟩ := OutP.chk o; exact ⟨i, j, rfl, rfl, of_decide_eq_true c, o H (Same.refl H) _ (.int _)⟩
    | _ => exact o.elim
  | _ => cases e <;> exact o.elim
def fdivD (d e : PD) : R PD := match d, e with
  | .int i, .int j => chk (decide (0 < j ∧ j < 1073741824)) (.ok (.int (i / j)))
  | _, _ => .bad
theorem opd_fdiv : OpD X (binaryOp .FloorDiv) fdivD := by
  refine ⟨_, op_fdiv, fun W O σ H x y d e Q nO hx hy o => ?_⟩
  cases d with
  | int i =>
    cases e with
    | int j => cases hx.sc_int; cases hy.sc_int; obtain ⟨c, o⟩ := OutP.chk o; have c' : 0 < j ∧ j < 1073741824 := of_decide_eq_true c; exact ⟨i, j, rfl, rfl, c', o H (Same.refl H) _ (.int _)⟩
    | _ => exact o.elim
  | _ => cases e <;> exact o.elim
def powD (d e : PD) : R PD := match d, e with
  | .int i, .int j => chk (decide (0 ≤ j ∧ j ≤ 1000000 ∧ i.natAbs < 18446744073709551616)) (.ok (.int (i ^ j.toNat)))
  | _, _ => .bad
theorem opd_pow : OpD X (binaryOp .Pow) powD := by
  refine ⟨_, op_pow, fun W O σ H x y d e Q nO hx hy o => ?_⟩
  cases d with
  | int i =>
    cases e with
    | int j => cases hx.sc_int; cases hy.sc_int; obtain ⟨c, o⟩ := OutP.chk o; have c' := of_decide_eq_true c; exact ⟨i, j, rfl, rfl, ⟨c'.1, c'.2.1, by have := c'.2.2; omega⟩, o H (Same.refl H) _ (.int _)⟩
    | _ => exact o.elim
  | _ => cases e <;> exact o.elim
def repL (n : Nat) (xs : List PD) : List PD := (List.replicate n xs).flatten
def mulD (d e : PD) : R PD := match d, e with
  | .int i, .int j => chk (decide ((-18446744073709551616 < i ∧ i < 18446744073709551616) ∨ (-18446744073709551616 < j ∧ j < 18446744073709551616))) (.ok (.int (i * j)))
  | .tuple xs, .int k => chk (decide (0 < xs.length ∧ 2 ≤ k ∧ k ≤ 1000 ∧ xs.length ≤ 1000)) (.ok (.tuple (repL k.toNat xs)))
  | _, _ => .bad
theorem _root_.DL.DqAll.rep {K : PySem.W.Frag} {H : Hp} {vs : List V} {ds : List PD} (h : DqAll K H vs ds) : ∀ n : Nat, DqAll K H (List.replicate n vs).flatten (repL n ds)
  | 0 => .nil
  | n + 1 => by
    unfold repL
    rw [List.replicate_succ, List.replicate_succ, List.flatten_cons, List.flatten_cons]
    exact h.append (DqAll.rep h n)
theorem opd_mul : OpD X (binaryOp .Mult) mulD := by
  refine ⟨_, op_mul.or op_repT, fun W O σ H x y d e Q nO hx hy o => ?_⟩
  cases e with
  | int k =>
    cases hy.sc_int
    cases d with
    | int i =>
      cases hx.sc_int
      obtain ⟨c, o⟩ := OutP.chk o
      have c' := of_decide_eq_true c
      exact .inl ⟨i, k, rfl, rfl, by unfold CMul; omega, o H (Same.refl H) _ (.int _)⟩
    | tuple xs =>
      obtain ⟨c, o⟩ := OutP.chk o
      have c' := of_decide_eq_true c
      obtain ⟨a, vs, rfl, h1, h2⟩ := hx.tuple
      have hl := h2.length
      refine .inr ⟨a, k, vs, rfl, rfl, Same.seqT wo_self h1, (fun z => by rw [z] at hl; simp at hl; omega), c'.2.1, c'.2.2.1, by omega, fun p np => ?_⟩
      exact o _ (Same.updNew np) _ (.tup (.inl (.inl (wo_new (nO p np)))) (all_grow np (h2.rep _)))
    | _ => exact o.elim
  | _ => cases d <;> exact o.elim
/-- a new list times an int -/
def cRepL (f : En → R (List PD)) (g : En → R PD) : En → R (List PD) := fun ρ => (f ρ).bind fun ds => (g ρ).bind fun d => match d with
  | .int k => chk (decide (-1000000 ≤ k ∧ k ≤ 1000000 ∧ ds.length * k.toNat ≤ big)) (.ok (repL k.toNat ds))
  | _ => .bad
theorem df_repL {W : WX} {a b : Expr} {pos : Pos} {f : En → R (List PD)} {g : En → R PD} (ha : DF X W a f) (hb : DE X W b g) : DF X W (.BinOp a .Mult b pos) (cRepL f g) := by
  obtain ⟨t, pt, qt⟩ := ha.ex
  obtain ⟨u, pu, qu⟩ := hb.ex
  refine ⟨_, pe_op op_rep pt pu, fun H0 O0 O ρ σ H Q rl o => ?_⟩
  refine qt H0 O0 O ρ σ H _ rl (o.bind.imp fun ds H1 e1 o1 p vs H2 np hv e2 => ?_)
  subst e2
  have r1 := rl.grow e1
  have r2 := r1.grow (Same.updNew (o := .lst vs) np)
  have o2 : OutP X W O σ (upd H1 p (.lst vs)) (g ρ) _ := (o1.bind.grow (Same.updNew (o := .lst vs) np))
  refine qu H0 O0 O ρ σ _ _ r2 (o2.imp fun d H3 e3 o3 y hy => ?_)
  cases d with
  | int k =>
    cases hy.sc_int
    obtain ⟨c, o3⟩ := OutP.chk o3
    have c' := of_decide_eq_true c
    refine ⟨p, k, vs, rfl, rfl, e3 _ _ upd_same, by omega, by omega, by rw [hv.length]; exact big_line c'.2.2, fun q nq => ?_⟩
    exact o3 H3 (Same.refl H3) q _ _ nq ((hv.rep _).mono (same_wo ((Same.updNew (o := .lst vs) np).trans e3))) rfl
  | _ => exact o3.elim
end
end DL
namespace DL
open PySem PySem.Spec L2

/-! ### calls of built-ins, by data -/
section
variable {X : Cx}
theorem vals1' {x : V} {us : List Value} (r : Vals [x] us) : ∃ u, us = [u] ∧ RelV x u := by
  cases r with
  | cons r1 r2 => cases r2; exact ⟨_, rfl, r1⟩
/-- a list or a tuple that is read: its object -/
theorem seq_obj {pins : List (Addr × Obj)} {σ : L2.St} {H : Hp} {s : Shared} (I : Inv X pins σ H s) {v : V} {u : Value} {ds : List PD} (h : Dq X.K H v (.list ds) ∨ Dq X.K H v (.tuple ds)) (r : RelV v u) :
    ∃ (l : Addr) (vs : List V) (its : List Value) (as : List Addr), u = .ref l ∧ Vals vs its ∧ DqAll X.K H vs ds ∧ ReadsAll s.heap its ds as ∧ vs.length ≤ sizeLine ∧
      ((s.heap.IsList l its.toArray ∧ ∃ o n, s.heap.get? l = some o ∧ o.cls = .type "list" ∧ o.data = .seq its.toArray n) ∨ (s.heap.IsTuple l its.toArray ∧ ∃ o n, s.heap.get? l = some o ∧ o.cls = .type "tuple" ∧ o.data = .seq its.toArray n)) := by
  rcases h with h | h
  · cases h with
    | lst h1 h2 =>
      cases r
      obtain ⟨its, rv, pl, hz⟩ := I.list (.inl h1)
      obtain ⟨as, ra⟩ := Dp.readsAll I _ _ its (dqdpAll _ _ h2) rv
      obtain ⟨o, n, e, hc, hd0, hd⟩ := id pl
      exact ⟨_, _, its, as, rfl, rv, h2, ra, hz, .inl ⟨pl.isList, o, n, e, hc, hd⟩⟩
  · cases h with
    | tup h1 h2 =>
      cases r
      obtain ⟨its, rv, pl, hz⟩ := I.tuple h1
      obtain ⟨as, ra⟩ := Dp.readsAll I _ _ its (dqdpAll _ _ h2) rv
      obtain ⟨o, e, hc, n, hd⟩ := id pl
      exact ⟨_, _, its, as, rfl, rv, h2, ra, hz, .inr ⟨pl, o, n, e, hc, hd⟩⟩
/-- an item's length is no matter -/
def flat1 : PD → Bool
  | .str x => decide (x.length ≤ big)
  | .list xs => decide (xs.length ≤ big)
  | .tuple xs => decide (xs.length ≤ big)
  | _ => true
theorem fits_of {ds : List PD} (h : ds.all flat1 = true) : ∀ x ∈ ds, x.fits63 := by
  intro x hx
  have := List.all_eq_true.mp h x hx
  cases x <;> simp only [flat1, PyData.fits63, decide_eq_true_eq] at * <;> (try trivial) <;> (unfold big at this; omega)
def rQuant (K : PySem.W.Frag) (F : List PD → Bool) : List V → Hp → VK → Prop := fun xs H Q => ∃ v ds, xs = [v] ∧ (Dq K H v (.list ds) ∨ Dq K H v (.tuple ds)) ∧ ds.all flat1 = true ∧ Q (.bl (F ds)) H
theorem cr_allP (hc : X.calm = true) : CallR X (.builtin "all") (rQuant X.K fun ds => ds.all PyData.truthy) := by
  intro pins s σ H xs us Q I r h
  obtain ⟨v, ds, rfl, hd, hf, q⟩ := h
  obtain ⟨u, rfl, ru⟩ := vals1' r
  obtain ⟨l, vs, its, as, rfl, rv, hv, ra, hz, hl | hl⟩ := seq_obj I hd ru
  · exact PySem.W.all_list_data (I.ok.hd hc) hl.1 ra (dplainAll _ _ hv) (fits_of hf) fun h' tk k => ⟨.bl _, H, I.kept k, rfl, q⟩
  · exact PySem.W.all_tuple_data (I.ok.hd hc) hl.1 ra (dplainAll _ _ hv) (fits_of hf) fun h' tk k => ⟨.bl _, H, I.kept k, rfl, q⟩
theorem cr_anyP (hc : X.calm = true) : CallR X (.builtin "any") (rQuant X.K fun ds => ds.any PyData.truthy) := by
  intro pins s σ H xs us Q I r h
  obtain ⟨v, ds, rfl, hd, hf, q⟩ := h
  obtain ⟨u, rfl, ru⟩ := vals1' r
  obtain ⟨l, vs, its, as, rfl, rv, hv, ra, hz, hl | hl⟩ := seq_obj I hd ru
  · exact PySem.W.any_list_data (I.ok.hd hc) hl.1 ra (dplainAll _ _ hv) (fits_of hf) fun h' tk k => ⟨.bl _, H, I.kept k, rfl, q⟩
  · exact PySem.W.any_tuple_data (I.ok.hd hc) hl.1 ra (dplainAll _ _ hv) (fits_of hf) fun h' tk k => ⟨.bl _, H, I.kept k, rfl, q⟩
def items1 : List PD → R (List PD)
  | [.list ds] => .ok ds
  | [.tuple ds] => .ok ds
  | _ => .bad
def quantD (F : List PD → Bool) (xs : List PD) : R PD := (items1 xs).bind fun ds => chk (ds.all flat1) (.ok (.bool (F ds)))
def allD := quantD fun ds => ds.all PyData.truthy
def anyD := quantD fun ds => ds.any PyData.truthy
/-- what items1 finds -/
theorem items1_of {O : Addr → Prop} {H : Hp} {vs : List V} {xs ds : List PD} (h : DtAll X.K O H vs xs) (e : items1 xs = .ok ds) : ∃ v, vs = [v] ∧ (Dq X.K H v (.list ds) ∨ Dq X.K H v (.tuple ds)) ∧ (Dt X.K O H v (.list ds) ∨ Dt X.K O H v (.tuple ds)) := by
  match xs, h, e with
  | [.list _], .cons h1 .nil, e => cases e; exact ⟨_, rfl, .inl h1.dp, .inl h1⟩
  | [.tuple _], .cons h1 .nil, e => cases e; exact ⟨_, rfl, .inr h1.dp, .inr h1⟩
theorem quant_of {F : List PD → Bool} {id : String} (h : CallR X (.builtin id) (rQuant X.K F)) : CallD X (.builtin id) (quantD F) := by
  refine ⟨_, h, fun W O σ H vs xs Q nO hv o => ?_⟩
  cases e : items1 xs with
  | ok ds =>
    obtain ⟨v, rfl, hd, _⟩ := items1_of hv e
    unfold quantD at o
    rw [e] at o
    obtain ⟨c, o⟩ := OutP.chk o
    exact ⟨v, ds, rfl, hd, c, o H (Same.refl H) _ (.bl _)⟩
  | ex c pl => unfold quantD at o; rw [e] at o; unfold items1 at e; split at e <;> cases e
  | bad => unfold quantD at o; rw [e] at o; exact o.elim
theorem cd_all (hc : X.calm = true) : CallD X (.builtin "all") allD := quant_of (cr_allP hc)
theorem cd_any (hc : X.calm = true) : CallD X (.builtin "any") anyD := quant_of (cr_anyP hc)

/-! len, abs, int, bool, str, isinstance -/
def lenD : List PD → R PD
  | [.list ds] => .ok (.int ds.length)
  | [.tuple ds] => .ok (.int ds.length)
  | [.str z] => chk (decide (z.length ≤ big)) (.ok (.int z.length))
  | _ => .bad
theorem cd_len : CallD X (.builtin "len") lenD := by
  refine ⟨_, call_len, fun W O σ H vs xs Q nO hv o => ?_⟩
  match xs, hv, o with
  | [.list ds], .cons h1 .nil, o =>
    obtain ⟨a, ws, rfl, h2, h3⟩ := h1.list
    exact ⟨_, _, rfl, .inl ⟨ws, .inl h2, rfl⟩, by rw [h3.length]; exact o H (Same.refl H) _ (.int _)⟩
  | [.tuple ds], .cons h1 .nil, o =>
    obtain ⟨a, ws, rfl, h2, h3⟩ := h1.tuple
    exact ⟨_, _, rfl, .inr ⟨ws, Same.seqT wo_self h2, rfl⟩, by rw [h3.length]; exact o H (Same.refl H) _ (.int _)⟩
  | [.str z], .cons h1 .nil, o =>
    cases h1.sc_str
    obtain ⟨c, o⟩ := OutP.chk o
    exact ⟨_, _, rfl, ⟨big_line (of_decide_eq_true c), rfl⟩, o H (Same.refl H) _ (.int _)⟩
def absD : List PD → R PD
  | [.int i] => .ok (.int (if i < 0 then -i else i))
  | _ => .bad
theorem cd_abs : CallD X (.builtin "abs") absD := by
  refine ⟨_, call_abs, fun W O σ H vs xs Q nO hv o => ?_⟩
  match xs, hv, o with
  | [.int i], .cons h1 .nil, o => cases h1.sc_int; exact ⟨i, rfl, o H (Same.refl H) _ (.int _)⟩
def intD : List PD → R PD
  | [.int i] => .ok (.int i)
  | [.bool b] => .ok (.int (if b then 1 else 0))
  | _ => .bad
theorem cd_int : CallD X (.type "int") intD := by
  refine ⟨_, call_int1, fun W O σ H vs xs Q nO hv o => ?_⟩
  match xs, hv, o with
  | [.int i], .cons h1 .nil, o => cases h1.sc_int; exact .inl ⟨i, rfl, o H (Same.refl H) _ (.int _)⟩
  | [.bool i], .cons h1 .nil, o => cases h1.sc_bl; exact .inr ⟨i, rfl, o H (Same.refl H) _ (.int _)⟩
def strD : List PD → R PD
  | [.int i] => chk (decide (i.natAbs.log2 < 1920)) (.ok (.str (toString i)))
  | _ => .bad
theorem cd_str : CallD X (.type "str") strD := by
  refine ⟨_, call_str_int, fun W O σ H vs xs Q nO hv o => ?_⟩
  match xs, hv, o with
  | [.int i], .cons h1 .nil, o =>
    cases h1.sc_int
    obtain ⟨c, o⟩ := OutP.chk o
    exact ⟨i, rfl, of_decide_eq_true c, o H (Same.refl H) _ (.str _)⟩

/-! max, min -/
def alikes (ds : List PD) : Bool := ds.all fun x => (ds.all fun y => PySem.W.alike x y) && !isNo x
theorem alikes_of {ds : List PD} (h : alikes ds = true) : PySem.W.AlikeAll ds := by
  unfold alikes at h
  rw [List.all_eq_true] at h
  refine ⟨fun x hx y hy => ?_, fun x hx e => ?_⟩
  · have := h x hx
    rw [Bool.and_eq_true] at this
    exact List.all_eq_true.mp this.1 y hy
  · have := h x hx
    rw [Bool.and_eq_true, e] at this
    simp [isNo] at this
def rBest (K : PySem.W.Frag) (F : PD → List PD → PD) : List V → Hp → VK → Prop := fun xs H Q => ∃ a vs d ds, xs = [.ref a] ∧ (Rd H a (.lst vs) ∨ SqT K H a vs) ∧ DqAll K H vs (d :: ds) ∧ alikes (d :: ds) = true ∧ PyData.depthAll (d :: ds) ≤ 100 ∧
  ∀ (i : Nat) (y : V), vs[i]? = some y → (d :: ds)[i]? = some (F d ds) → Q y H
theorem best_at {pins : List (Addr × Obj)} {σ : L2.St} {H : Hp} {s : Shared} (I : Inv X pins σ H s) {vs : List V} {its : List Value} {ds : List PD} {i : Nat} {u : Value} {e : PD} {bs : List Addr} {h' : Heap} {tk : Nat} (rv : Vals vs its) (hv : DqAll X.K H vs ds) (hi : its.toArray[i]? = some u)
    (k : ∀ b o, s.heap.get? b = some o → h'.get? b = some o) (r : PySem.Reads h' u e bs) : ∃ v, vs[i]? = some v ∧ RelV v u ∧ ds[i]? = some e ∧ Dq X.K H v e := by
  have hi' : its[i]? = some u := by simpa using hi
  have hlen := rv.length
  have hiv : i < vs.length := by rw [hlen]; exact (List.getElem?_eq_some_iff.mp hi').1
  obtain ⟨u', hu', ru⟩ := rv.get (List.getElem?_eq_getElem hiv)
  rw [hi'] at hu'; cases hu'
  obtain ⟨d, hd, hq⟩ := hv.getV (List.getElem?_eq_getElem hiv)
  have I' : Inv X pins σ H { s with heap := h', toks := tk } := I.kept k
  have e1 := dp_unique I' hq ru r
  subst e1
  exact ⟨vs[i], List.getElem?_eq_getElem hiv, ru, hd, hq⟩
/-- a list or a tuple at a, its objects -/
theorem seq_at {pins : List (Addr × Obj)} {σ : L2.St} {H : Hp} {s : Shared} (I : Inv X pins σ H s) {a : Addr} {vs : List V} {ds : List PD} (h : Rd H a (.lst vs) ∨ SqT X.K H a vs) (hv : DqAll X.K H vs ds) :
    ∃ (its : List Value) (as : List Addr), Vals vs its ∧ ReadsAll s.heap its ds as ∧ vs.length ≤ sizeLine ∧ ∃ T o n, (T = "list" ∨ T = "tuple") ∧ s.heap.get? a = some o ∧ o.cls = .type T ∧ o.data = .seq its.toArray n ∧ (T = "list" → s.heap.IsList a its.toArray) ∧ (T = "tuple" → s.heap.IsTuple a its.toArray) := by
  rcases h with h | h
  · obtain ⟨its, rv, pl, hz⟩ := I.list (.inl h)
    obtain ⟨as, ra⟩ := Dp.readsAll I _ _ its (dqdpAll _ _ hv) rv
    obtain ⟨o, n, e, hc, hd0, hd⟩ := id pl
    exact ⟨its, as, rv, ra, hz, "list", o, n, .inl rfl, e, hc, hd, fun _ => pl.isList, fun z => absurd z (by decide)⟩
  · obtain ⟨its, rv, pl, hz⟩ := I.tuple h
    obtain ⟨as, ra⟩ := Dp.readsAll I _ _ its (dqdpAll _ _ hv) rv
    obtain ⟨o, e, hc, n, hd⟩ := id pl
    exact ⟨its, as, rv, ra, hz, "tuple", o, n, .inr rfl, e, hc, hd, fun z => absurd z (by decide), fun _ => pl⟩
theorem cr_minP (hc : X.calm = true) (hu : Deep X) : CallR X (.builtin "min") (rBest X.K PySem.W.minD) := by
  intro pins s σ H xs us Q I r h
  obtain ⟨a, vs, d, ds, rfl, hs, hv, ha, hd, q⟩ := h
  obtain ⟨u, rfl, ru⟩ := vals1' r
  cases ru
  obtain ⟨its, as, rv, ra, hz, T, o, n, hT, ho, hcl, hda, h1, h2⟩ := seq_at I hs hv
  have hroom : X.A.units + 1 + PyData.depthAll (d :: ds) < cLine := by unfold Deep at hu; omega
  rcases hT with rfl | rfl
  · refine PySem.W.min_list_data (I.ok.hd hc) (h1 rfl) ra (alikes_of ha) hroom fun i v h' tk bs hi r' k => ?_
    obtain ⟨y, y1, y2, y3, y4⟩ := best_at (tk := tk) I rv hv hi k r'
    exact ⟨y, H, I.kept k, y2, q i y y1 y3⟩
  · refine PySem.W.min_tuple_data (I.ok.hd hc) (h2 rfl) ra (alikes_of ha) hroom fun i v h' tk bs hi r' k => ?_
    obtain ⟨y, y1, y2, y3, y4⟩ := best_at (tk := tk) I rv hv hi k r'
    exact ⟨y, H, I.kept k, y2, q i y y1 y3⟩
theorem cr_maxP (hc : X.calm = true) (hu : Deep X) : CallR X (.builtin "max") (rBest X.K PySem.W.maxD) := by
  intro pins s σ H xs us Q I r h
  obtain ⟨a, vs, d, ds, rfl, hs, hv, ha, hd, q⟩ := h
  obtain ⟨u, rfl, ru⟩ := vals1' r
  cases ru
  obtain ⟨its, as, rv, ra, hz, T, o, n, hT, ho, hcl, hda, h1, h2⟩ := seq_at I hs hv
  have hroom : X.A.units + 1 + PyData.depthAll (d :: ds) < cLine := by unfold Deep at hu; omega
  rcases hT with rfl | rfl
  · refine PySem.W.max_list_data (I.ok.hd hc) (h1 rfl) ra (alikes_of ha) hroom fun i v h' tk bs hi r' k => ?_
    obtain ⟨y, y1, y2, y3, y4⟩ := best_at (tk := tk) I rv hv hi k r'
    exact ⟨y, H, I.kept k, y2, q i y y1 y3⟩
  · refine PySem.W.max_tuple_data (I.ok.hd hc) (h2 rfl) ra (alikes_of ha) hroom fun i v h' tk bs hi r' k => ?_
    obtain ⟨y, y1, y2, y3, y4⟩ := best_at (tk := tk) I rv hv hi k r'
    exact ⟨y, H, I.kept k, y2, q i y y1 y3⟩
/-- of one list or tuple that is not empty; of two ints -/
def bestD (F : PD → List PD → PD) (g : Int → Int → Int) : List PD → R PD
  | [.int i, .int j] => .ok (.int (g i j))
  | xs => (items1 xs).bind fun ds => match ds with
    | [] => .bad
    | d :: r => chk (alikes (d :: r) && decide (PyData.depthAll (d :: r) ≤ 100)) (.ok (F d r))
def mx2 (i j : Int) : Int := if j > i then j else i
def mn2 (i j : Int) : Int := if j < i then j else i
def maxD1 := bestD PySem.W.maxD mx2
def minD1 := bestD PySem.W.minD mn2
theorem foldl_mem {α : Type} (p : α → α → Bool) : ∀ (xs : List α) (x : α), xs.foldl (fun a y => if p a y = true then y else a) x ∈ x :: xs
  | [], x => by simp
  | y :: ys, x => by
    rw [List.foldl_cons]
    by_cases h : p x y = true
    · rw [if_pos h]; exact List.mem_cons_of_mem _ (foldl_mem p ys y)
    · rw [if_neg h]
      rcases List.mem_cons.mp (foldl_mem p ys x) with e | e
      · rw [e]; exact List.mem_cons_self
      · exact List.mem_cons_of_mem _ (List.mem_cons_of_mem _ e)
theorem best_go {F : PD → List PD → PD} {g : Int → Int → Int} {id : String} (h1 : CallR X (.builtin id) (rBest X.K F)) (h2 : CallR X (.builtin id) (fun xs H Q => ∃ i j, xs = [.int i, .int j] ∧ Q (.int (g i j)) H)) : CallD X (.builtin id) (bestD F g) := by
  refine ⟨fun xs H Q => rBest X.K F xs H Q ∨ ∃ i j, xs = [.int i, .int j] ∧ Q (.int (g i j)) H, fun pins s σ H xs us Q I r q => q.elim (h1 pins s σ H xs us Q I r) (h2 pins s σ H xs us Q I r), fun W O σ H vs xs Q nO hv o => ?_⟩
  have one : ∀ ds : List PD, items1 xs = .ok ds → OutP X W O σ H (match ds with
    | [] => .bad
    | d :: r => chk (alikes (d :: r) && decide (PyData.depthAll (d :: r) ≤ 100)) (.ok (F d r))) (fun d H' => ∀ v, Dq X.K (wo H' O) v d → Q v H') → rBest X.K F vs H Q := fun ds e o => by
    obtain ⟨v, rfl, _, hd⟩ := items1_of hv e
    cases ds with
    | nil => exact o.elim
    | cons d r =>
      obtain ⟨c, o⟩ := OutP.chk o
      rw [Bool.and_eq_true] at c
      have fin : ∀ ws, DqAll X.K (wo H O) ws (d :: r) → ∀ (i : Nat) (y : V), ws[i]? = some y → (d :: r)[i]? = some (F d r) → Q y H := fun ws hw i y e1 e2 => by
        obtain ⟨d', k1, k2⟩ := hw.getV e1
        rw [e2] at k1; cases k1
        exact o H (Same.refl H) y k2
      rcases hd with hd | hd
      · obtain ⟨a, ws, rfl, k1, k2⟩ := hd.list
        exact ⟨a, ws, d, r, rfl, .inl k1, k2.mono wo_self, c.1, of_decide_eq_true c.2, fin ws k2⟩
      · obtain ⟨a, ws, rfl, k1, k2⟩ := hd.tuple
        exact ⟨a, ws, d, r, rfl, .inr (Same.seqT wo_self k1), k2.mono wo_self, c.1, of_decide_eq_true c.2, fin ws k2⟩
  unfold bestD at o
  split at o
  · rename_i i j
    match vs, hv with
    | _, .cons k1 (.cons k2 .nil) => cases k1.sc_int; cases k2.sc_int; exact .inr ⟨i, j, rfl, o H (Same.refl H) _ (.int _)⟩
  · cases e : items1 xs with
    | ok ds => rw [e] at o; exact .inl (one ds e o)
    | ex c pl => unfold items1 at e; split at e <;> cases e
    | bad => rw [e] at o; exact o.elim
theorem cd_max (hc : X.calm = true) (hu : Deep X) : CallD X (.builtin "max") maxD1 := best_go (cr_maxP hc hu) (call_max2 hc)
theorem cd_min (hc : X.calm = true) (hu : Deep X) : CallD X (.builtin "min") minD1 := best_go (cr_minP hc hu) (call_min2 hc)

/-! sum, tuple, list, sorted -/
def intsOf : List PD → Option (List Int)
  | [] => some []
  | .int i :: r => (intsOf r).map (i :: ·)
  | _ => none
theorem intsOf_map : ∀ ns : List Int, intsOf (ns.map .int) = some ns
  | [] => rfl
  | n :: ns => by
    show (intsOf (ns.map .int)).map (n :: ·) = _
    rw [intsOf_map ns]; rfl
theorem intsOf_vals {K : PySem.W.Frag} {H : Hp} : ∀ {ds : List PD} {ns : List Int} {vs : List V}, intsOf ds = some ns → DqAll K H vs ds → vs = ns.map V.int
  | [], ns, vs, e, h => by cases e; cases h; rfl
  | .int i :: r, ns, vs, e, h => by
    cases q : intsOf r with
    | none => simp [intsOf, q] at e
    | some m =>
      simp [intsOf, q] at e
      subst e
      cases h with
      | cons h1 h2 => cases h1.dp; rw [intsOf_vals q h2]; rfl
def sumD : List PD → R PD
  | [.list ds] => match intsOf ds with
    | some ns => .ok (.int ns.sum)
    | none => .bad
  | _ => .bad
theorem cd_sum (hc : X.calm = true) : CallD X (.builtin "sum") sumD := by
  refine ⟨_, cr_sum hc, fun W O σ H vs xs Q nO hv o => ?_⟩
  match xs, hv, o with
  | [.list ds], .cons h1 .nil, o =>
    unfold sumD at o
    cases e : intsOf ds with
    | none => simp only [e] at o; exact o.elim
    | some ns =>
      simp only [e] at o
      obtain ⟨a, ws, rfl, k1, k2⟩ := h1.list
      have := intsOf_vals e k2
      subst this
      exact ⟨a, ns, rfl, .inl k1, o H (Same.refl H) _ (.int _)⟩
def tupD (xs : List PD) : R PD := (items1 xs).bind fun ds => .ok (.tuple ds)
theorem cd_tuple : CallD X (.type "tuple") tupD := by
  refine ⟨_, call_tuple_of, fun W O σ H vs xs Q nO hv o => ?_⟩
  cases e : items1 xs with
  | ok ds =>
    unfold tupD at o
    rw [e] at o
    obtain ⟨v, rfl, _, hd⟩ := items1_of hv e
    rcases hd with hd | hd
    · obtain ⟨a, ws, rfl, k1, k2⟩ := hd.list
      exact ⟨a, ws, rfl, .inl ⟨.inl k1, fun p np => o _ (Same.updNew np) _ (.tup (.inl (.inl (wo_new (nO p np)))) (all_grow np k2))⟩⟩
    · obtain ⟨a, ws, rfl, k1, k2⟩ := hd.tuple
      exact ⟨a, ws, rfl, .inr ⟨Same.seqT wo_self k1, o H (Same.refl H) _ (.tup k1 k2)⟩⟩
  | ex c pl => unfold items1 at e; split at e <;> cases e
  | bad => unfold tupD at o; rw [e] at o; exact o.elim
theorem cf_list : CallF X (.type "list") items1 := by
  refine ⟨_, call_list_of, fun W O σ H vs xs Q nO hv o => ?_⟩
  cases e : items1 xs with
  | ok ds =>
    rw [e] at o
    obtain ⟨v, rfl, _, hd⟩ := items1_of hv e
    rcases hd with hd | hd
    · obtain ⟨a, ws, rfl, k1, k2⟩ := hd.list
      exact ⟨a, ws, rfl, .inl (.inl k1), fun p np => o H (Same.refl H) p ws _ np k2 rfl⟩
    · obtain ⟨a, ws, rfl, k1, k2⟩ := hd.tuple
      exact ⟨a, ws, rfl, .inr (Same.seqT wo_self k1), fun p np => o H (Same.refl H) p ws _ np k2 rfl⟩
  | ex c pl => unfold items1 at e; split at e <;> cases e
  | bad => rw [e] at o; exact o.elim
end
end DL
namespace DL
open PySem PySem.Spec L2

/-! ### sorted -/
def isT1 : PD → Bool
  | .tuple (_ :: _) => true
  | _ => false
def noTN : PD → Bool
  | .tuple _ => false
  | .none => false
  | _ => true
def sortOk (ds : List PD) : Bool := (ds.all fun x => ds.all fun y => PySem.W.alike x y) && (ds.all isT1 || ds.all noTN) && decide (ds.length ≤ big ∧ PyData.depthAll ds ≤ 100)
def sortL (ds : List PD) : List PD := ds.mergeSort (PySem.W.dataLe false fun d => d)
def sortD (xs : List PD) : R (List PD) := (items1 xs).bind fun ds => chk (sortOk ds) (.ok (sortL ds))
theorem depth_mem : ∀ {ds : List PD} {d : PD}, d ∈ ds → d.depth ≤ PyData.depthAll ds
  | x :: xs, d, h => by
    rw [PyData.depthAll]
    rcases List.mem_cons.mp h with rfl | h
    · omega
    · have := depth_mem h; omega
theorem sortable_of {ds : List PD} (h : sortOk ds = true) : PySem.W.AllAlike ds ∧ PySem.W.Sortable ds ∧ ds.length ≤ big ∧ PyData.depthAll ds ≤ 100 := by
  unfold sortOk at h
  rw [Bool.and_eq_true, Bool.and_eq_true, Bool.or_eq_true, decide_eq_true_eq] at h
  obtain ⟨⟨h1, h2⟩, h3, h4⟩ := h
  refine ⟨fun d hd d' hd' => List.all_eq_true.mp (List.all_eq_true.mp h1 d hd) d' hd', ?_, h3, h4⟩
  rcases h2 with h2 | h2
  · refine .inl fun d hd => ?_
    have := List.all_eq_true.mp h2 d hd
    match d, this with
    | .tuple (x :: r), _ => exact ⟨x, r, rfl⟩
  · refine .inr fun d hd => ?_
    have := List.all_eq_true.mp h2 d hd
    constructor
    · intro e; rw [e] at this; cases this
    · intro xs e; rw [e] at this; cases this
def rSortP (K : PySem.W.Frag) : List V → Hp → VK → Prop := fun xs H Q => ∃ a vs ds, xs = [.ref a] ∧ (Rd H a (.lst vs) ∨ SqT K H a vs) ∧ DqAll K H vs ds ∧ sortOk ds = true ∧
  ∀ out p, (∀ G, DqAll K G vs ds → DqAll K G out (sortL ds)) → H p = none → Q (.ref p) (upd H p (.lst out))
theorem each_of {K : PySem.W.Frag} : ∀ {vs : List V} {its : List Value} {ds : List PD}, Vals vs its → vs.length = ds.length →
    PySem.W.EachIs (fun (u : Value) (d : PD) => ∃ v, RelV v u ∧ ∀ G, (∀ (i : Nat) (x : V), vs[i]? = some x → ∀ e : PD, ds[i]? = some e → Dq K G x e) → Dq K G v d) its ds
  | [], [], [], _, _ => .nil
  | v :: vs, u :: us, d :: ds, .cons r rr, h => by
    have ih := each_of (K := K) rr (by simpa using h)
    refine .cons ⟨v, r, fun G q => q 0 v rfl d rfl⟩ ?_
    exact ih.mono fun a b ⟨x, h1, h2⟩ => ⟨x, h1, fun G q => h2 G fun i y e1 e e2 => q (i + 1) y e1 e e2⟩
theorem all_at {K : PySem.W.Frag} {G : Hp} {vs : List V} {ds : List PD} (h : DqAll K G vs ds) : ∀ (i : Nat) (x : V), vs[i]? = some x → ∀ e : PD, ds[i]? = some e → Dq K G x e := fun i x h1 e h2 => by
  obtain ⟨e', k1, k2⟩ := h.getV h1
  rw [h2] at k1; cases k1
  exact k2
theorem each_out {K : PySem.W.Frag} {Pz : Hp → Prop} : ∀ {us : List Value} {ds : List PD}, PySem.W.EachIs (fun (u : Value) (d : PD) => ∃ v, RelV v u ∧ ∀ G, Pz G → Dq K G v d) us ds → ∃ out, Vals out us ∧ ∀ G, Pz G → DqAll K G out ds
  | _, _, .nil => ⟨[], .nil, fun _ _ => .nil⟩
  | _, _, .cons ⟨v, h1, h2⟩ r => by
    obtain ⟨out, k1, k2⟩ := each_out r
    exact ⟨v :: out, .cons h1 k1, fun G q => .cons (h2 G q) (k2 G q)⟩
theorem reads_each {h : Heap} : ∀ {us : List Value} {ds : List PD} {as : List Addr}, ReadsAll h us ds as → PySem.W.EachIs (fun (u : Value) (d : PD) => ∃ as, PySem.Reads h u d as) us ds
  | _, _, _, .nil => .nil
  | _, _, _, .cons h1 h2 => .cons ⟨_, h1⟩ (reads_each h2)
section
variable {X : Cx}
theorem cr_sortP (hu : Deep X) : CallR X (.builtin "sorted") (rSortP X.K) := by
  intro pins s σ H xs us Q I r h
  obtain ⟨a, vs, ds, rfl, hs, hv, ho, q⟩ := h
  obtain ⟨u, rfl, ru⟩ := vals1' r
  cases ru
  obtain ⟨its, as, rv, ra, hz, T, o, n, hT, hob, hcl, hda, _, _⟩ := seq_at I hs hv
  obtain ⟨k1, k2, k3, k4⟩ := sortable_of ho
  have hlen := rv.length
  have hlen2 := hv.length
  refine Calls.call_function_entry PyProof.Rows.kind_sorted PyProof.Rows.plain_sorted PyProof.Rows.entry_sorted (PyProof.Rows.args_sorted1 _) ?_
  unfold Builtin.«sorted»
  refine wpAny_bind (m := checkCount "sorted" 1 1 _) (wpAny_pure ?_)
  refine wpAny_bind (wpAny_collect_seq a hT hob hcl hda (fun h1 kp => ?_) (by rw [List.size_toArray]; omega))
  rw [show its.toArray.toList = its by simp]
  have I1 : Inv X pins σ H { s with heap := h1 } := I.kept (t' := s.toks) kp
  refine wpAny_bind (wpAny_newList ?_ (by omega))
  have hnew : (h1.push { cls := .type "list", data := .seq its.toArray }).get? h1.objs.size = some (PyProof.Rows.seqObj "list" its.toArray 0) := Heap.get?_push_size _ rfl
  have I2 : Inv X pins σ (upd H h1.objs.size (.lst vs)) { s with heap := h1.push { cls := .type "list", data := .seq its.toArray } } := I1.lnew (t' := s.toks) rv hz
  have fr := I1.fresh
  have er : PySem.W.EachIs (fun (u : Value) (d : PD) => ∃ as, PySem.Reads (PySem.W.sortingHeap (h1.push { cls := .type "list", data := .seq its.toArray }) h1.objs.size its) u d as) its ds := (reads_each ra).mono fun u d ⟨as, r⟩ =>
    ⟨as, PyProof.Rows.Reads.keeps (fun b o' e => PySem.W.sortingHeap_old (Nat.ne_of_lt (Heap.lt_size (kp b o' e))) (Heap.get?_push_of_some _ (kp b o' e))) r⟩
  have e0 := each_of (K := X.K) rv hlen2
  have lo := PySem.W.sortVals_length (κ := PySem.W.dataKind (PySem.W.sortingHeap (h1.push { cls := .type "list", data := .seq its.toArray }) h1.objs.size its) ds) (vs := its) false rfl
  have sd := PySem.W.sortVals_data (enc := fun d => d) false e0 (by simpa using er) (by simpa using k1)
  rw [List.map_id'] at sd
  obtain ⟨out, w1, w2⟩ := each_out sd
  refine wpAny_bind (wpAny_holding (wpAny_call_entry PyProof.Rows.slot_list_sort ⟨_, hnew, rfl⟩ PyProof.Rows.entry_list_sort
    (PySem.W.list_sort_vals (s := { s with heap := h1.push { cls := .type "list", data := .seq its.toArray } }) hnew
      (PySem.W.SortsAt.data (s := { s with heap := PySem.W.sortingHeap (h1.push { cls := .type "list", data := .seq its.toArray }) h1.objs.size its }) er k1 k2 (fun d hd => by have := depth_mem hd; have := hu; unfold Deep at this; show X.A.units + 1 + 1 + d.depth < cLine; omega)) (by omega) ⟨_, rfl, ?_⟩) (PyProof.Rows.args_list_sort _)))
  refine wpAny_pure ⟨_, rfl, ?_⟩
  obtain ⟨en, hat⟩ := PyProof.Rows.sortedHeap_at (out := (PySem.W.sortVals (PySem.W.dataKind (PySem.W.sortingHeap (h1.push { cls := .type "list", data := .seq its.toArray }) h1.objs.size its) ds) false its its).toArray) hnew
  have ol := w1.length
  have I3 := I2.write (x := h1.objs.size) (e := h1.objs.size) (o := .lst out) (t' := s.toks) (h' := PyProof.Rows.sortedHeap (h1.push { cls := .type "list", data := .seq its.toArray }) h1.objs.size its (PySem.W.sortVals (PySem.W.dataKind (PySem.W.sortingHeap (h1.push { cls := .type "list", data := .seq its.toArray }) h1.objs.size its) ds) false its its).toArray)
    (by rw [upd_same]; trivial) (.inl rfl) (fun b u hb q => (PyProof.Rows.sortedHeap_old hb (Heap.lt_size q)).trans q) ⟨_, hat⟩ ⟨by omega, _, en, w1, hat⟩
  rw [upd_upd] at I3
  refine ⟨.ref h1.objs.size, _, I3, rfl, q out h1.objs.size (fun G hG => w2 G (all_at hG)) fr⟩
theorem cf_sorted (hu : Deep X) : CallF X (.builtin "sorted") sortD := by
  refine ⟨_, cr_sortP hu, fun W O σ H vs xs Q nO hv o => ?_⟩
  cases e : items1 xs with
  | ok ds =>
    unfold sortD at o
    rw [e] at o
    obtain ⟨c, o⟩ := OutP.chk o
    obtain ⟨v, rfl, _, hd⟩ := items1_of hv e
    rcases hd with hd | hd
    · obtain ⟨a, ws, rfl, k1, k2⟩ := hd.list
      exact ⟨a, ws, ds, rfl, .inl k1, k2.mono wo_self, c, fun out p hG np => o H (Same.refl H) p out _ np (hG _ k2) rfl⟩
    · obtain ⟨a, ws, rfl, k1, k2⟩ := hd.tuple
      exact ⟨a, ws, ds, rfl, .inr (Same.seqT wo_self k1), k2.mono wo_self, c, fun out p hG np => o H (Same.refl H) p out _ np (hG _ k2) rfl⟩
  | ex c pl => unfold items1 at e; split at e <;> cases e
  | bad => unfold sortD at o; rw [e] at o; exact o.elim
end
end DL
namespace DL
open PySem PySem.Spec L2

/-! ### isinstance -/
section
variable {X : Cx} {W : WX} {e : Expr} {f : En → R PD} {pos p p2 : Pos}
def rIsa (K : PySem.W.Frag) (T : String) (F : PD → Bool) : List V → Hp → VK → Prop := fun xs H Q => ∃ v d, xs = [v, .ty T] ∧ Dq K H v d ∧ Q (.bl (F d)) H
theorem cr_isa {T : String} {F : PD → Bool} (rule : ∀ (prog : Program) (w : World) (A : Around) (E : Value → Shared → Prop) (s : Shared) (v : Value) (d : PD) (as : List Addr) (Q : Value → Shared → Prop), PySem.Reads s.heap v d as → (∀ tk, s.toks ≤ tk → Q (.bool (F d)) { s with toks := tk }) → wpAny (model prog w) A (call (.builtin "isinstance") [v, .type T]) Q E s) :
    CallR X (.builtin "isinstance") (rIsa X.K T F) := by
  intro pins s σ H xs us Q I r h
  obtain ⟨v, d, rfl, hd, q⟩ := h
  cases r with
  | cons r1 r2 =>
    cases r2 with
    | cons r3 r4 =>
      cases r4
      cases r3
      obtain ⟨as, hr⟩ := Dp.reads I d v _ hd.dp r1
      exact rule X.prog X.w X.A X.xe s _ d as _ hr fun tk _ => ⟨.bl _, H, I.tok tk, rfl, q⟩
def isaD (F : PD → Bool) (f : En → R PD) : En → R PD := fun ρ => (f ρ).bind fun d => .ok (.bool (F d))
theorem de_isa {T : String} {F : PD → Bool} {x : Str} (hc : CallR X (.builtin "isinstance") (rIsa X.K T F)) (hg : Gl X "isinstance") (hm : X.mg "isinstance" = none) (hgT : Gl X x) (hmT : X.mg x = none) (hvT : bootBuiltins x = some (.type T)) (ha : DV X W e f)
    (h1 : starEach [e, .Name x p2] X.env = (false, eval e X.env) :: starEach [.Name x p2] X.env := by rfl) (h2 : starEach [.Name x p2] X.env = (false, eval (.Name x p2) X.env) :: starEach [] X.env := by rfl)
    (hpl : (backTo pos (starEach [.Name x p2] X.env)).any (·.1) = false := by rfl) (hn : x ≠ "__name__" := by decide) (hdb : (x == ("__debug__" : Str)) = false := by decide) : DE X W (.Call (.Name "isinstance" p) [e, .Name x p2] [] pos) (isaD F f) := by
  obtain ⟨t, pt, qt⟩ := ha.ex
  refine ⟨_, pe_callB hc hg hm (by rfl) (pa_cons pt (pa_cons (pe_bltn (v := .ty T) hgT hmT hvT rfl hn hdb) pa_nil h2) h1) (by decide) (by decide) h1 hpl, fun H0 O0 O ρ σ H Q rl o => ?_⟩
  exact qt H0 O0 O ρ σ H _ rl (o.bind.imp fun d H1 e1 o1 v hv => ⟨v, d, rfl, hv.dp, o1 H1 (Same.refl H1) _ (.bl _)⟩)
theorem isa_int : CallR X (.builtin "isinstance") (rIsa X.K "int" PyData.isInt) := cr_isa fun _ _ _ _ _ _ _ _ _ r h => PySem.W.isinstance_int_data r h
theorem isa_bool : CallR X (.builtin "isinstance") (rIsa X.K "bool" PyData.isBool) := cr_isa fun _ _ _ _ _ _ _ _ _ r h => PySem.W.isinstance_bool_data r h
theorem isa_str : CallR X (.builtin "isinstance") (rIsa X.K "str" PyData.isStr) := cr_isa fun _ _ _ _ _ _ _ _ _ r h => PySem.W.isinstance_str_data r h
theorem isa_tuple : CallR X (.builtin "isinstance") (rIsa X.K "tuple" PyData.isTuple) := cr_isa fun _ _ _ _ _ _ _ _ _ r h => PySem.W.isinstance_tuple_data r h
theorem isa_list : CallR X (.builtin "isinstance") (rIsa X.K "list" PyData.isList) := cr_isa fun _ _ _ _ _ _ _ _ _ r h => PySem.W.isinstance_list_data r h
end

/-! ### slices -/
structure DO (X : Cx) (W : WX) (e : Option Expr) (f : En → R (Option Int)) : Prop where
  ex : ∃ t, PO X e t ∧ ∀ H0 O0 O ρ σ H Q, Rel X.K H0 O0 O H ρ σ → OutP X W O σ H (f ρ) Q → t σ H Q
def oN : En → R (Option Int) := fun _ => .ok none
def oS (f : En → R PD) : En → R (Option Int) := fun ρ => (f ρ).bind fun d => match d with
  | .int i => .ok (some i)
  | _ => .bad
def cutL {α : Type} (xs : List α) (lo hi : Option Int) : List α := (xs.drop (HT.sIx xs.length 0 lo)).take (HT.sIx xs.length xs.length hi - HT.sIx xs.length 0 lo)
def slD (d : PD) (lo hi : Option Int) : R PD := match d with
  | .list ds => .ok (.list (cutL ds lo hi))
  | .tuple ds => .ok (.tuple (cutL ds lo hi))
  | .str z => chk (decide (z.length ≤ big)) (.ok (.str (cutS z lo hi)))
  | _ => .bad
def cSl (f : En → R PD) (l h : En → R (Option Int)) : En → R PD := fun ρ => (f ρ).bind fun d => (l ρ).bind fun a => (h ρ).bind fun b => slD d a b
section
variable {X : Cx} {W : WX} {e : Expr} {lo hi : Option Expr} {f : En → R PD} {l h : En → R (Option Int)} {pos p2 : Pos}
theorem do_n : DO X W none oN := ⟨_, po_none, fun H0 O0 O ρ σ H Q rl o => o H (Same.refl H)⟩
theorem do_s (he : DE X W e f) : DO X W (some e) (oS f) := by
  obtain ⟨t, pt, qt⟩ := he.ex
  refine ⟨_, po_some pt, fun H0 O0 O ρ σ H Q rl o => ?_⟩
  refine qt H0 O0 O ρ σ H _ rl (o.bind.imp fun d H1 e1 o1 v hv => ?_)
  cases d with
  | int i => cases hv.sc_int; exact ⟨i, rfl, o1 H1 (Same.refl H1)⟩
  | _ => exact o1.elim
theorem all_cut {K : PySem.W.Frag} {G : Hp} {vs : List V} {ds : List PD} (hv : DqAll K G vs ds) (a b : Option Int) : DqAll K G (cutV vs a b) (cutL ds a b) := by
  unfold cutV cutL
  rw [hv.length]
  exact (hv.drop _).take _
theorem de_sl (he : DV X W e f) (hl : DO X W lo l) (hh : DO X W hi h) : DE X W (.Subscript e (.Slice lo hi none p2) pos) (cSl f l h) := by
  obtain ⟨te, pe, qe⟩ := he.ex
  obtain ⟨tl, pl, ql⟩ := hl.ex
  obtain ⟨th, ph, qh⟩ := hh.ex
  refine ⟨_, pe_slice (sl_list.or (sl_tupA.or sl_str)) pe pl ph, fun H0 O0 O ρ σ H Q rl o => ?_⟩
  refine qe H0 O0 O ρ σ H _ rl (o.bind.imp fun d H1 e1 o1 v hv => ?_)
  refine ql H0 O0 O ρ σ H1 _ (rl.grow e1) (o1.bind.imp fun a H2 e2 o2 => ?_)
  refine qh H0 O0 O ρ σ H2 _ ((rl.grow e1).grow e2) (o2.bind.imp fun b H3 e3 o3 => ?_)
  have r3 := ((rl.grow e1).grow e2).grow e3
  have hv := hv.mono (e2.trans e3)
  cases d with
  | list ds =>
    obtain ⟨x, vs, rfl, k1, k2⟩ := hv.list
    exact .inl ⟨x, vs, rfl, .inl k1, fun p np => o3 _ (Same.updNew np) _ (.lst (.inl (wo_new (r3.fresh np))) (all_grow np (all_cut k2 a b)))⟩
  | tuple ds =>
    obtain ⟨x, vs, rfl, k1, k2⟩ := hv.tuple
    have k1' : SqT X.K H3 x vs := Same.seqT wo_self k1
    refine .inr (.inl ⟨x, vs, rfl, k1', fun hw => ?_, fun hw p np => o3 _ (Same.updNew np) _ (.tup (.inl (.inl (wo_new (r3.fresh np)))) (all_grow np (all_cut k2 a b)))⟩)
    have hl := k2.length
    have ec : cutL ds a b = ds := by
      unfold cutL
      rw [← hl, hw.1, hw.2, List.drop_zero, Nat.sub_zero, hl, List.take_length]
    rw [slD, ec] at o3
    exact o3 H3 (Same.refl H3) _ (.tup k1 k2)
  | str z =>
    cases hv.sc_str
    obtain ⟨c, o3⟩ := OutP.chk o3
    exact .inr (.inr ⟨z, rfl, big_line (of_decide_eq_true c), o3 H3 (Same.refl H3) _ (.str _)⟩)
  | _ => exact o3.elim
/-- a list's slice, new -/
def cSlF (f : En → R PD) (l h : En → R (Option Int)) : En → R (List PD) := fun ρ => (f ρ).bind fun d => (l ρ).bind fun a => (h ρ).bind fun b => match d with
  | .list ds => .ok (cutL ds a b)
  | _ => .bad
theorem df_sl (he : DV X W e f) (hl : DO X W lo l) (hh : DO X W hi h) : DF X W (.Subscript e (.Slice lo hi none p2) pos) (cSlF f l h) := by
  obtain ⟨te, pe, qe⟩ := he.ex
  obtain ⟨tl, pl, ql⟩ := hl.ex
  obtain ⟨th, ph, qh⟩ := hh.ex
  refine ⟨_, pe_slice sl_list pe pl ph, fun H0 O0 O ρ σ H Q rl o => ?_⟩
  refine qe H0 O0 O ρ σ H _ rl (o.bind.imp fun d H1 e1 o1 v hv => ?_)
  refine ql H0 O0 O ρ σ H1 _ (rl.grow e1) (o1.bind.imp fun a H2 e2 o2 => ?_)
  refine qh H0 O0 O ρ σ H2 _ ((rl.grow e1).grow e2) (o2.bind.imp fun b H3 e3 o3 => ?_)
  have hv := hv.mono (e2.trans e3)
  cases d with
  | list ds =>
    obtain ⟨x, vs, rfl, k1, k2⟩ := hv.list
    exact ⟨x, vs, rfl, .inl k1, fun p np => o3 H3 (Same.refl H3) p _ _ np (all_cut k2 a b) rfl⟩
  | _ => exact o3.elim
end

/-! ### x[i] = e, x.extend(e), of an own list -/
def sSetI (i : Nat) (f g : En → R PD) : En → Fl := fun ρ => match ρ[i]? with
  | some (.ol ds) => toS ρ (f ρ) fun d => toS ρ (g ρ) fun j => match j with
    | .int k => match ixN ds.length k with
      | some n => .nx (ρ.set i (.ol (ds.set n d)))
      | none => .bad
    | _ => .bad
  | _ => .bad
section
variable {X : Cx} {W : WX} {a b e : Expr} {f g : En → R PD} {i : Nat} {pos p1 : Pos}
theorem ds_setI (hx : PE X a (tVar i)) (he : DE X W e f) (hb : DE X W b g)
    (ha : ∀ v, assign (.Subscript a b p1) X.env v = (do
      let ov ← holding [v] (eval a X.env)
      let iv ← holding [v, ov] (eval b X.env)
      standAt p1
      holding [v, ov, iv] (setItem ov iv v)
      release [v, ov, iv] []) := by intro _; rfl)
    (hs : swapsWithSole [.Subscript a b p1] e pos.line X.env = pure false := by rfl) (hw : swappedStores [.Subscript a b p1] e X.env = pure none := by rfl)
    (h1 : (assignEach [.Subscript a b p1] X.env).map (·.2) = [assign (.Subscript a b p1) X.env] := by rfl) : DS X W (.Assign [.Subscript a b p1] e pos) (sSetI i f g) := by
  obtain ⟨t, pt, qt⟩ := he.ex
  obtain ⟨u, pu, qu⟩ := hb.ex
  refine ⟨_, ps_asg pt (pg_sub hx pu set_list ha) hs hw h1, fun H0 O0 O ρ σ H D rl o => ?_⟩
  unfold sSetI at o
  cases q : ρ[i]? with
  | none => rw [q] at o; exact o.elim
  | some s =>
    cases s with
    | ol ds =>
      rw [q] at o
      refine qt H0 O0 O ρ σ H _ rl ((OutS.ofR rl o).imp fun d H1 e1 o1 v hv => ?_)
      have r1 := rl.grow e1
      obtain ⟨p, vs, e2, m1, m2, m3, m4⟩ := r1.sl i _ q
      refine ⟨_, e2, qu H0 O0 O ρ σ H1 _ r1 ((OutS.ofR r1 o1).imp fun j H2 e3 o2 w hw2 => ?_)⟩
      cases j with
      | int k =>
        cases hw2.sc_int
        cases hk : ixN ds.length k with
        | none => simp only [hk] at o2; exact o2.elim
        | some n =>
          simp only [hk] at o2
          have m5 := m4.mono (same_wo (O := O) e3)
          refine ⟨p, vs, k, n, rfl, rfl, e3 _ _ m3, by rw [m4.length]; exact hk, ?_⟩
          refine o2 O _ σ ((r1.grow e3).updO q rfl rfl e2 ⟨p, vs.set n v, rfl, m1, m2, upd_same, ?_⟩)
          rw [wo_upd m1]
          exact m5.set (hv.mono (same_wo e3)) n
      | _ => exact o2.elim
    | _ => rw [q] at o; exact o.elim
/-- what x.extend(e) does, e a list that is read -/
def rExtP : V → List V → Hp → VK → Prop := fun x vs H Q => ∃ l b xs zs, x = .ref l ∧ vs = [.ref b] ∧ H l = some (.lst xs) ∧ Rd H b (.lst zs) ∧ xs.length + zs.length ≤ sizeLine ∧ Q .non (upd H l (.lst (xs ++ zs)))
theorem mt_extP : MtR X "list.extend" rExtP := by
  intro pins s σ H x xs v us Q I rx rv h
  obtain ⟨l, b, ys, zs, rfl, rfl, hH, hB, hz, q⟩ := h
  cases rx
  obtain ⟨u, rfl, ru⟩ := vals1' rv
  cases ru
  obtain ⟨_, its, n, r, e⟩ := I.hok l _ hH
  obtain ⟨_, its2, n2, r2, e2⟩ := hB.ok I.hok
  have hl := r.length
  have hl2 := r2.length
  have z1 : its.toArray.size = ys.length := by rw [List.size_toArray, hl]
  have z2 : its2.toArray.size = zs.length := by rw [List.size_toArray, hl2]
  refine call_meets F.slot_list_extend ⟨_, e, rfl⟩ F.entry_list_extend (F.args_list_extend_2 _ _)
    (AutoSeq1.list_extend_list_list_0 l its.toArray n b its2.toArray n2 (by rw [notLongL (by omega), Bool.and_false]; decide) (by omega) (by omega)) ⟨e, e2, ?_⟩
  exact ⟨.non, _, I.lset (its' := its ++ its2) hH e (by simp) (r.append r2) (by rw [List.length_append]; omega), rfl, q⟩
def sExt (i : Nat) (f : En → R PD) : En → Fl := fun ρ => match ρ[i]? with
  | some (.ol ds) => toS ρ (f ρ) fun d => match d with
    | .list es => if ds.length + es.length ≤ big then .nx (ρ.set i (.ol (ds ++ es))) else .bad
    | _ => .bad
  | _ => .bad
theorem ds_ext {apos cpos : Pos} (hx : PE X a (tVar i)) (he : DE X W e f) (hs : swapsWith (.Call (.Attribute a "extend" apos) [e] [] cpos) none pos.line X.env = pure false := by rfl)
    (hbase : attributeBase a "extend" X.env (eval a X.env) = eval a X.env := by rfl)
    (hfew : ((backTo cpos (starEach [e] X.env)).all (fun x => !x.1) && (backToKw cpos (keywordEach [] X.env)).all (fun x => x.1.isSome)
      && decide (([e] : List Expr).length + ([] : List Keyword).length + (if ([] : List Keyword).isEmpty then 0 else 1) < 30)) = true := by rfl)
    (hline : (apos.endLine == cpos.line) = true := by rfl) (hst : starEach [e] X.env = (false, eval e X.env) :: starEach [] X.env := by rfl) (hplain : (backTo cpos (starEach [] X.env)).any (·.1) = false := by rfl) :
    DS X W (.Expr (.Call (.Attribute a "extend" apos) [e] [] cpos) pos) (sExt i f) := by
  obtain ⟨t, pt, qt⟩ := he.ex
  refine ⟨_, ps_expr (pe_bm PySem.F.plainAttrs_list PySem.F.slot_list_extend PySem.F.type_list_extend mt_extP hx (pa_cons pt pa_nil hst) hbase hfew hline hst hplain) hs, fun H0 O0 O ρ σ H D rl o => ?_⟩
  unfold sExt at o
  cases q : ρ[i]? with
  | none => rw [q] at o; exact o.elim
  | some s =>
    rw [q] at o
    cases s with
    | ol ds =>
      obtain ⟨p, vs, e1, m1, m2, m3, m4⟩ := rl.sl i _ q
      refine ⟨_, e1, .inl ⟨rfl, vs, .inl (.inl m3)⟩, ?_⟩
      refine qt H0 O0 O ρ σ H _ rl ((OutS.ofR rl o).imp fun d H1 ex o1 v hv => ?_)
      cases hv with
      | lst k1 k2 =>
        rename_i b ws es
        simp only at o1
        by_cases hz : ds.length + es.length ≤ big
        · rw [if_pos hz] at o1
          have m5 := m4.mono (same_wo (O := O) ex)
          refine ⟨p, b, vs, ws, rfl, rfl, ex _ _ m3, rd_mono wo_self k1, by rw [m4.length, k2.length]; exact big_line hz, ?_⟩
          refine o1 O _ σ ((rl.grow ex).updO q rfl rfl e1 ⟨p, vs ++ ws, rfl, m1, m2, upd_same, ?_⟩)
          rw [wo_upd m1]
          exact m5.append k2
        · rw [if_neg hz] at o1; exact o1.elim
      | _ => exact o1.elim
    | _ => exact o.elim
end

/-! ### enumerate -/
/-- the tuple at a, each item in a new pair with its number -/
def IteT (K : PySem.W.Frag) (a : Addr) : It :=
  ⟨fun i H => ∃ (xs : List V) (x : V), SqT K H a xs ∧ xs[i]? = some x, fun i H v H' => ∃ T x, v = .ref T ∧ H T = none ∧ H' = upd H T (.tup [.int (i : Nat), x]) ∧ ∀ xs, SqT K H a xs → xs[i]? = some x, fun i H => ∃ xs : List V, SqT K H a xs ∧ xs.length ≤ i⟩
theorem enum_draws {P : Program} {w : World} {A : Around} (hh : A.handled = none) {it a : Addr} (hne : a ≠ it) (items : Array Value) : Draws P w A it [it, a] items.size (fun i v => items[i]? = some v) (fun i h => h.IsTupleIter it a i ∧ h.IsTuple a items) := .tuple hh it a hne items
/-- at the end the tuple's iterator tells that it is done -/
theorem enum_at {P : Program} {w : World} {A : Around} (hh : A.handled = none) {it a : Addr} {n : Nat} (items : Array Value) (hn : items[n]? = none) : Draws P w A it [it, a] n (fun _ _ => True) (fun i h => h.IsTupleIter it a i ∧ h.IsTuple a items ∧ n ≤ i) where
  live := fun i h ⟨⟨o, ho, _⟩, _⟩ => ⟨o, ho⟩
  frame := fun i h h' ⟨h1, h2, h3⟩ hk => ⟨h1.at fun o e => hk it List.mem_cons_self o e, h2.at fun o e => hk a (List.mem_cons_of_mem _ List.mem_cons_self) o e, h3⟩
  item := fun i s Q E hi st hQ => absurd hi (Nat.not_lt.mpr st.2.2)
  done := fun s Q E st hE => wpAny_nextOf_tuple_end hh st.1 st.2.1 hn hE
theorem turn_enumT {P : Program} {w : World} {K : PySem.W.Frag} {elts : List Expr} {kk : Nat} {tpos : Pos} (a e it : Addr) :
    Turn P w K (.Tuple elts kk tpos) (IteT K a) [e, it] e (fun i h => (∃ old, IsEnum h e it ((i : Nat) : Int) old) ∧ h.IsTupleIter it a i ∧ e ≠ it ∧ e ≠ a ∧ a ≠ it) where
  mem := List.mem_cons_self
  obj := fun i h ⟨⟨old, he⟩, ⟨o, ho, hc, hd⟩, _⟩ b hb => by
    rcases List.mem_cons.mp hb with z | z
    · rw [z]; exact ⟨_, he, fun v q => nomatch q⟩
    · rw [List.mem_singleton.mp z]; exact ⟨o, ho, fun v q => by rw [hd] at q; cases q⟩
  keep := fun i h h' ⟨⟨old, he⟩, hi, hr⟩ k => ⟨⟨old, k e List.mem_cons_self _ he⟩, hi.at fun o q => k it (List.mem_cons_of_mem _ List.mem_cons_self) o q, hr⟩
  item := fun X hP hw hK hc i pins s σ H E I hf ⟨⟨old, he⟩, hit, hne, hea, hai⟩ hg => by
    subst hP hw hK
    obtain ⟨xs, x, hq, hx⟩ := hg
    obtain ⟨its, rv, p, hz⟩ := I.tuple hq
    obtain ⟨u, hu, ru⟩ := rv.get hx
    have hit2 : i < its.toArray.size := by rw [List.size_toArray]; exact (List.getElem?_eq_some_iff.mp hu).1
    have hel : e < s.heap.objs.size := Heap.lt_size he
    have hil : it < s.heap.objs.size := by obtain ⟨_, q, _⟩ := hit; exact Heap.lt_size q
    refine wpAny_pyNext_enum_itemC (enum_draws (A := X.A.in1) (I.ok.hd hc) hai its.toArray) he ⟨hit, p⟩ hit2 hne (fun z => ?_) fun y h' tk hy ho st' hT hsz hk => ?_
    · rcases List.mem_cons.mp z with z | z
      · exact hne z
      · exact hea (List.mem_singleton.mp z)
    have ey : y = u := by
      have hu2 : its.toArray[i]? = some u := by simpa using hu
      exact Option.some.inj (hy.symm.trans hu2)
    subst ey
    refine ⟨_, rfl, wpAny_letOwnedTupleGo_enum (s := { s with heap := h', toks := tk + 1 }) ho fun h2 he2 sb => ?_⟩
    have hT2 : h2.get? s.heap.objs.size = some { cls := .type "tuple", data := .seq #[.int i tk, y] } := (sb.2 _ (Nat.ne_of_gt hel)).trans hT
    have new : ObjOk X.prog X.w (upd H s.heap.objs.size (.tup [.int (i : Nat), x])) h2 s.heap.objs.size (.tup [.int (i : Nat), x]) :=
      ⟨by show 2 ≤ sizeLine; decide, [.int i tk, y], .cons ⟨_, rfl⟩ (.cons ru .nil), ⟨_, hT2, rfl, _, rfl⟩⟩
    have I1 := I.turnedNew (h' := h2) (t' := tk + 1) (ch := [e, it]) (fun b ob hb q => (sb.2 b (fun z => hb (by rw [z]; exact List.mem_cons_self))).trans (hk b ob (fun z => hb (by rw [z]; exact List.mem_cons_self)) (fun z => hb (by rw [z]; exact List.mem_cons_of_mem _ List.mem_cons_self)) q)) hf (Nat.le_refl _) new
    refine ⟨.ref s.heap.objs.size, _, I1, rfl, ⟨_, x, rfl, I.hok.fresh (Nat.le_refl _), rfl, fun ys hy => by rw [I.tuple_inj hy hq]; exact hx⟩, ⟨⟨y, ?_⟩, st'.1.at fun o q => (sb.2 it (Ne.symm hne)).trans q, hne, hea, hai⟩, fun b hb => ?_⟩
    · have e1 : ((i + 1 : Nat) : Int) = (i : Int) + 1 := by omega
      rw [e1]; exact he2
    · have hlt : b < s.heap.objs.size := by
        rcases List.mem_cons.mp hb with z | z
        · rw [z]; exact hel
        · rw [List.mem_singleton.mp z]; exact hil
      rw [upd_ne (Nat.ne_of_lt hlt)]
      exact (hf b hb).1
  done := fun X hP hw hK hc i pins s σ H E I hf ⟨⟨old, he⟩, hit, hne, hea, hai⟩ hg => by
    subst hP hw hK
    obtain ⟨xs, hq, hx⟩ := hg
    obtain ⟨its, rv, p, hz⟩ := I.tuple hq
    obtain ⟨f0, f1, f2, f3, f4, f5⟩ := hf it (List.mem_cons_of_mem _ List.mem_cons_self)
    have hl := rv.length
    have hn : its.toArray[i]? = none := by rw [List.getElem?_toArray]; exact List.getElem?_eq_none (by omega)
    exact wpAny_pyNext_enum_endD (enum_at (A := X.A.in1) (I.ok.hd hc) (it := it) (a := a) (n := i) its.toArray hn) he ⟨hit, p, Nat.le_refl _⟩ fun h' eb => ⟨rfl, I.turned (t' := s.toks) (fun b ob hb q => eb b ob hb q) f0 f1 f3 f4 f5⟩
  self := fun A i s Q E ⟨⟨_, he⟩, _⟩ h => wpAny_pyIter_enum he h
theorem new_enumB {v : Value} {o : Obj} {G : Heap → Prop} (B : Begins v o G) :
    Meets (Builtin.«enumerate.__new__» ⟨[.type "enumerate", v], []⟩) (fun _ R s => G s.heap ∧
      R (.ok (.ret (.ref (s.heap.push o).objs.size))) { s with heap := (s.heap.push o).push { cls := .type "enumerate", data := .fields #[.none, .bool false, .ref s.heap.objs.size, rawInt 0, .none, .none] } }) :=
  .of_wp fun prog w A R s h => by
    obtain ⟨hp, g, d, tk, os⟩ := s; obtain ⟨h1, h⟩ := h
    have hsub := sub_enumerate
    have q1 : ∀ {A' : Around} {E : Value → Shared → Prop} {Q : Value → Shared → Prop}, Q (.ref hp.objs.size) ⟨hp.push o, g, d, tk, os⟩ → wpAny (model prog w) A' (pyIter v) Q E ⟨hp, g, d, tk, os⟩ :=
      fun q => B.iter prog w _ _ ⟨hp, g, d, tk, os⟩ _ h1 q
    wp_walk using q1
    refine wpAny_stack_any fun st => wpAny_pure ?_
    split
    · rename_i c _ _ _ _ _
      cases (c == Value.type "enumerate")
      all_goals wp_walk using q1
      all_goals exact ⟨_, rfl, h⟩
    · wp_walk using q1
      exact ⟨_, rfl, h⟩
section
variable {prog : Program} {w : World} {A : Around} {E : Value → Shared → Prop} {s : Shared}
theorem enum_made {v : Value} {o : Obj} {G : Heap → Prop} {Q : Value → Shared → Prop} (B : Begins v o G) (h1 : G s.heap)
    (h : ∀ h', IsEnum h' (s.heap.objs.size + 1) s.heap.objs.size 0 .none → h'.get? s.heap.objs.size = some o → h'.objs.size = s.heap.objs.size + 2 →
      (∀ b o, s.heap.get? b = some o → h'.get? b = some o) → Q (.ref (s.heap.objs.size + 1)) { s with heap := h' }) :
    wpAny (model prog w) A (call (.type "enumerate") [v]) Q E s := by
  refine callType_new F.called_enumerate (by decide) (F.typeCall_enumerate_1 _) (F.newCall_enumerate_1 _) (fun obj => F.args_object_init_2 obj _) F.entry_enumerate_new (new_enumB B) ⟨h1, ?_⟩
  have hz : (s.heap.push o).objs.size = s.heap.objs.size + 1 := Heap.size_push ..
  show _ ∧ _
  rw [hz]
  have he : IsEnum ((s.heap.push o).push { cls := .type "enumerate", data := .fields #[.none, .bool false, .ref s.heap.objs.size, rawInt 0, .none, .none] }) (s.heap.objs.size + 1) s.heap.objs.size 0 .none := by
    have := Heap.get?_push_size (s.heap.push o) (o := { cls := .type "enumerate", data := .fields #[.none, .bool false, .ref s.heap.objs.size, rawInt 0, .none, .none] }) rfl
    rw [hz] at this; exact this
  exact ⟨⟨_, he, rfl⟩, h _ he (Heap.get?_push_of_some _ (Heap.get?_push_size _ B.free)) (by rw [Heap.size_push, hz]) fun b o x => Heap.get?_push_of_some _ (Heap.get?_push_of_some _ x)⟩
end
def iEnumA (K : PySem.W.Frag) (ta : TA) : TI := fun σ H R => ta σ H fun vs H1 => ∃ a xs, vs = [.ref a] ∧ ((SqL K H1 a xs ∧ R (Ite K a) H1) ∨ (SqT K H1 a xs ∧ R (IteT K a) H1))
theorem pi_enumA {X : Cx} {e : Expr} {ta : TA} {p pos tpos : Pos} {elts : List Expr} {kk : Nat} (hg : Gl X "enumerate") (hm : X.mg "enumerate" = none) (ha : PA X [e] ta) (hs : starEach [e] X.env = [(false, eval e X.env)] := by rfl) :
    PI X (.Tuple elts kk tpos) (.Call (.Name "enumerate" p) [e] [] pos) (iEnumA X.K ta) := by
  refine ⟨fun pins s σ H R I h => ?_⟩
  refine PyProof.Rows.Call_ (ld_blt I hg hm PyProof.Rows.boot_enumerate (PyProof.Rows.callWith_type1 (thn (ha.run pos pins s σ H _ I h) fun us s1 ⟨vs, H1, I1, r1, q1⟩ => ?_) hs rfl))
  obtain ⟨a, xs, ex, q1⟩ := q1
  subst ex
  cases r1 with
  | cons r rr =>
    cases rr
    cases r
    have fr : ∀ b ∈ [s1.heap.objs.size + 1, s1.heap.objs.size], FpOk X pins H1 b := fun b hb => by
      have hle : s1.heap.objs.size ≤ b := by
        rcases List.mem_cons.mp hb with z | z
        · rw [z]; exact Nat.le_add_right _ _
        · rw [List.mem_singleton.mp z]; exact Nat.le_refl _
      exact I1.fpOk hle (I1.hok.fresh hle)
    rcases q1 with ⟨hq, q⟩ | ⟨hq, q⟩
    · obtain ⟨its, rv, p', hz⟩ := I1.list hq
      refine call_enumerate_list p'.isList fun h' he hit hsz hk => wpAny_pyIter_enum he ?_
      exact ⟨s1.heap.objs.size + 1, [s1.heap.objs.size + 1, s1.heap.objs.size], _, _, H1, rfl, I1.kept (t' := s1.toks) hk, turn_enum a (s1.heap.objs.size + 1) s1.heap.objs.size, ⟨⟨.none, he⟩, hit, Nat.succ_ne_self _⟩, fr, q⟩
    · obtain ⟨its, rv, p', hz⟩ := I1.tuple hq
      obtain ⟨o1, ho1, _⟩ := id p'
      have al : a < s1.heap.objs.size := Heap.lt_size ho1
      refine enum_made (begins_tuple a its.toArray) p' fun h' he hit hsz hk => wpAny_pyIter_enum he ?_
      exact ⟨s1.heap.objs.size + 1, [s1.heap.objs.size + 1, s1.heap.objs.size], _, _, H1, rfl, I1.kept (t' := s1.toks) hk, turn_enumT a (s1.heap.objs.size + 1) s1.heap.objs.size,
        ⟨⟨.none, he⟩, ⟨_, hit, rfl, rfl⟩, Nat.succ_ne_self _, Nat.ne_of_gt (Nat.lt_succ_of_lt al), Nat.ne_of_lt al⟩, fr, q⟩

/-! ### enumerate and zip as sources -/
def enumL : Nat → List PD → List PD
  | _, [] => []
  | i, d :: ds => .tuple [.int (i : Nat), d] :: enumL (i + 1) ds
theorem enumL_get : ∀ (ds : List PD) (i j : Nat), (enumL i ds)[j]? = (ds[j]?).map fun d => .tuple [.int ((i + j : Nat) : Int), d]
  | [], i, j => by simp [enumL]
  | d :: ds, i, 0 => by simp [enumL]
  | d :: ds, i, j + 1 => by
    rw [enumL, List.getElem?_cons_succ, enumL_get ds (i + 1) j, List.getElem?_cons_succ]
    congr 1; funext d; rw [show i + 1 + j = i + (j + 1) by omega]
theorem enumL_len : ∀ (ds : List PD) (i : Nat), (enumL i ds).length = ds.length
  | [], i => rfl
  | d :: ds, i => by rw [enumL, List.length_cons, List.length_cons, enumL_len]
def zipL : List PD → List PD → List PD
  | d :: ds, e :: es => .tuple [d, e] :: zipL ds es
  | _, _ => []
theorem zipL_eq (ds es : List PD) : zipL ds es = List.zipWith (fun d e => .tuple [d, e]) ds es := by
  induction ds generalizing es with
  | nil => cases es <;> rfl
  | cons d ds ih => cases es with
    | nil => rfl
    | cons e es => rw [zipL, List.zipWith_cons_cons, ih]
section
variable {K : PySem.W.Frag} {G : Hp} {a b : Addr} {vs ws : List V} {ds es : List PD}
theorem wo_upd_new {H : Hp} {O : Addr → Prop} {T : Addr} {u : HO} (hO : ¬ O T) : wo (upd H T u) O = upd (wo H O) T u := by
  funext q
  by_cases e : q = T
  · subst e; unfold wo; rw [if_neg hO, upd_same, upd_same]
  · rw [upd_ne e]; unfold wo; rw [upd_ne e]
theorem wk_enum {R : It} (hgo : ∀ i H, Same G H → i < ds.length → R.go i H) (hst : ∀ i H, Same G H → ds.length ≤ i → R.stop i H)
    (hy : ∀ i H x H', Same G H → R.yld i H x H' → ∃ T y, x = .ref T ∧ H T = none ∧ H' = upd H T (.tup [.int (i : Nat), y]) ∧ vs[i]? = some y) (h2 : DqAll K G vs ds) : Wk K R (enumL 0 ds) G where
  go := fun i H e hi => hgo i H e (by rw [enumL_len] at hi; exact hi)
  stop := fun i H e hi => hst i H e (by rw [enumL_len] at hi; exact hi)
  yld := fun i H x H' e q => by
    obtain ⟨T, y, rfl, hT, rfl, hv⟩ := hy i H x H' e q
    refine ⟨Same.updNew hT, fun d hd O eo nO => ?_⟩
    obtain ⟨d', k1, k2⟩ := h2.getV hv
    rw [enumL_get, k1] at hd
    simp only [Option.map_some, Nat.zero_add, Option.some.injEq] at hd
    subst hd
    have hO := nO T hT
    rw [wo_upd_new hO]
    have hn : wo H O T = none := by unfold wo; rw [if_neg hO]; exact hT
    exact .tup (.inl (.inl upd_same)) (.cons (.int _) (.cons ((k2.mono eo).mono (Same.updNew hn)) .nil))
end
section
variable {X : Cx} {W : WX} {e a b : Expr} {f g : En → R PD} {pos p tpos : Pos} {elts : List Expr} {kk : Nat}
def iEnm (f : En → R PD) : En → R (List PD) := fun ρ => (f ρ).bind fun d => (itD d).bind fun ds => .ok (enumL 0 ds)
theorem di_enum (hg : Gl X "enumerate") (hm : X.mg "enumerate" = none) (h : DE X W e f) (h1 : starEach [e] X.env = (false, eval e X.env) :: starEach [] X.env := by rfl) (hs : starEach [e] X.env = [(false, eval e X.env)] := by rfl) :
    DI X W (.Tuple elts kk tpos) (.Call (.Name "enumerate" p) [e] [] pos) (iEnm f) := by
  obtain ⟨t, pt, qt⟩ := h.ex
  refine ⟨_, pi_enumA hg hm (pa_cons pt pa_nil h1) hs, fun H0 O0 O ρ σ H Rr rl o => ?_⟩
  refine qt H0 O0 O ρ σ H _ rl (o.bind.imp fun d H1 e1 o1 v hv => ?_)
  cases hv with
  | lst k1 k2 =>
    rename_i b vs ds
    exact ⟨b, vs, rfl, .inl ⟨.inl (rd_mono wo_self k1), o1 H1 (Same.refl H1) _ (wk_enum (fun i H e hi => ⟨vs, vs[i]'(by rw [k2.length]; exact hi), e.seq (.inl k1), List.getElem?_eq_getElem _⟩)
      (fun i H e hi => ⟨vs, e.seq (.inl k1), by rw [k2.length]; exact hi⟩) (fun i H x H' e ⟨T, y, ex, hT, eH, q⟩ => ⟨T, y, ex, hT, eH, q vs (e.seq (.inl k1))⟩) k2)⟩⟩
  | tup k1 k2 =>
    rename_i b vs ds
    exact ⟨b, vs, rfl, .inr ⟨Same.seqT wo_self k1, o1 H1 (Same.refl H1) _ (wk_enum (fun i H e hi => ⟨vs, vs[i]'(by rw [k2.length]; exact hi), Same.seqT e k1, List.getElem?_eq_getElem _⟩)
      (fun i H e hi => ⟨vs, Same.seqT e k1, by rw [k2.length]; exact hi⟩) (fun i H x H' e ⟨T, y, ex, hT, eH, q⟩ => ⟨T, y, ex, hT, eH, q vs (Same.seqT e k1)⟩) k2)⟩⟩
  | _ => exact o1.elim
end
end DL
namespace DL
open PySem PySem.Spec L2

/-! ### -e -/
def negD (d : PD) : R PD := match d with
  | .int i => .ok (.int (-i))
  | _ => .bad
theorem und_neg {X : Cx} : UnD X (unaryOp .USub) negD :=
  ⟨_, un_neg, fun W O σ H x d Q nf hd o => by
    cases d with
    | int i => cases hd.sc_int; exact ⟨i, rfl, o H (Same.refl H) _ (.int _)⟩
    | _ => exact o.elim⟩

section
variable {X : Cx} {W : WX} {k n : Nat} {f : Addr} {fd : FuncData} {ps : List Str} {F : List PD → R PD} {x : Str} {p pos : Pos} {e : Expr} {es : List Expr} {g : En → R (List PD)}
theorem de_cl (G : FnD X.prog X.w X.K X.mg X.base k f fd ps F) (hr : Room k X.A) (hg : Gl X x) (hm : X.mg x = some (.ref f)) (hk : PySem.W.keepIn X.K (.ref f) = true) (hb : Binds X.K fd ps []) (tk : Takes X W)
    (ha : DC X W (e :: es) g) (hn : ps.length = n := by rfl) (hdb : (x == ("__debug__" : Str)) = false := by decide) (he : starEach (e :: es) X.env = (false, eval e X.env) :: starEach es X.env := by rfl) (hpl : (backTo pos (starEach es X.env)).any (·.1) = false := by rfl) :
    DE X W (.Call (.Name x p) (e :: es) [] pos) (cCall n F g) := hn ▸ de_call G hr hg hm hk hb tk ha hdb he hpl
end
/-- a constant of the module -/
theorem pe_mc {X : Cx} {x : Str} {pos : Pos} {v : V} (hg : Gl X x) (h : ∃ u, X.mg x = some u ∧ RelV v u) (hd : (x == ("__debug__" : Str)) = false := by decide) : PE X (.Name x pos) (tC v) :=
  let ⟨_, e, r⟩ := h
  pe_glob hg e r hd

/-! ### methods of lists that leave them as they are -/
def MtL (X : Cx) (id : String) (F : List PD → List PD → R PD) : Prop :=
  ∃ r, MtR X id r ∧ ∀ W O σ H a vs ds xs es Q, (∀ p, H p = none → ¬ O p) → Rd H a (.lst vs) → Dq X.K H (.ref a) (.list ds) → DqAll X.K (wo H O) vs ds → DqAll X.K (wo H O) xs es → OutP X W O σ H (F ds es) (fun d H' => ∀ v, Dq X.K (wo H' O) v d → Q v H') → r (.ref a) xs H Q
def cMt (F : List PD → List PD → R PD) (f : En → R PD) (g : En → R (List PD)) : En → R PD := fun ρ => (f ρ).bind fun d => match d with
  | .list ds => (g ρ).bind fun es => F ds es
  | _ => .bad
theorem wo_wo {H : Hp} {O : Addr → Prop} : Same (wo H O) H := wo_self
section
variable {X : Cx} {W : WX} {o e : Expr} {es : List Expr} {f : En → R PD} {g : En → R (List PD)} {F : List PD → List PD → R PD} {name : Str} {apos cpos : Pos} {id : String}
theorem de_lm (slot : Slot "list" name id) (hty : typeOf (.builtin id) = pure (.type "method_descriptor")) (hm : MtL X id F) (ho : DV X W o f) (ha : DC X W (e :: es) g)
    (hbase : attributeBase o name X.env (eval o X.env) = eval o X.env := by rfl)
    (hfew : ((backTo cpos (starEach (e :: es) X.env)).all (fun x => !x.1) &&
        (backToKw cpos (keywordEach [] X.env)).all (fun x => x.1.isSome) && decide ((e :: es).length + ([] : List Keyword).length + (if ([] : List Keyword).isEmpty then 0 else 1) < 30)) = true := by rfl)
    (hline : (apos.endLine == cpos.line) = true := by rfl) (hs : starEach (e :: es) X.env = (false, eval e X.env) :: starEach es X.env := by rfl) (hplain : (backTo cpos (starEach es X.env)).any (·.1) = false := by rfl) :
    DE X W (.Call (.Attribute o name apos) (e :: es) [] cpos) (cMt F f g) := by
  obtain ⟨t, pt, qt⟩ := ho.ex
  obtain ⟨u, pu, qu⟩ := ha.ex
  obtain ⟨r, hr, hF⟩ := hm
  refine ⟨_, pe_bm PySem.F.plainAttrs_list slot hty hr pt pu hbase hfew hline hs hplain, fun H0 O0 O ρ σ H Q rl o => ?_⟩
  refine qt H0 O0 O ρ σ H _ rl (o.bind.imp fun d H1 e1 o1 v hv => ?_)
  cases d with
  | list ds =>
    obtain ⟨a, vs, rfl, k1, k2⟩ := hv.list
    refine ⟨.inl ⟨rfl, vs, .inl k1⟩, ?_⟩
    refine qu H0 O0 O ρ σ H1 _ (rl.grow e1) (o1.bind.imp fun es H2 e2 o2 xs hx => ?_)
    have k1' := rd_mono e2 k1
    have r2 := (rl.grow e1).grow e2
    exact hF W O σ H2 a vs ds xs es Q (fun p n => r2.fresh n) k1' (hv.mono e2).dp (k2.mono (same_wo e2)) hx o2
  | _ => exact o1.elim
end
def findI (d : PD) : List PD → Option Nat
  | [] => none
  | x :: xs => if PyData.eqv x d = true then some 0 else (findI d xs).map (· + 1)
theorem findI_some : ∀ (d : PD) (ds : List PD) (j : Nat), findI d ds = some j → ∃ z, ds[j]? = some z ∧ PyData.eqv z d = true ∧ ∀ (m : Nat) (z' : PyData), m < j → ds[m]? = some z' → PyData.eqv z' d = false
  | d, [], j, h => by cases h
  | d, x :: xs, j, h => by
    unfold findI at h
    by_cases e : PyData.eqv x d = true
    · rw [if_pos e] at h; cases h
      exact ⟨x, rfl, e, fun m z' hm => absurd hm (Nat.not_lt_zero _)⟩
    · rw [if_neg e] at h
      cases q : findI d xs with
      | none => rw [q] at h; cases h
      | some i =>
        rw [q] at h; cases h
        obtain ⟨z, h1, h2, h3⟩ := findI_some d xs i q
        refine ⟨z, by simpa using h1, h2, fun m z' hm hz => ?_⟩
        cases m with
        | zero =>
          simp only [List.getElem?_cons_zero, Option.some.injEq] at hz
          subst hz; simpa using e
        | succ m => exact h3 m z' (Nat.lt_of_succ_lt_succ hm) (by simpa using hz)
def indexD (ds es : List PD) : R PD := match es with
  | [d] => chk (SeqAt.shaped (.list ds) && SeqAt.shaped d) (match findI d ds with | some j => .ok (.int (j : Nat)) | none => .bad)
  | _ => .bad
theorem ml_index {X : Cx} (hu : Deep X) : MtL X "list.index" indexD :=
  ⟨_, mt_indexD (Nat.lt_of_le_of_lt (by omega) hu), fun W O σ H a vs ds xs es Q nf k1 kd k2 hx o => by
    unfold indexD at o
    cases hx with
    | cons r t =>
      cases t with
      | cons _ _ => exact o.elim
      | nil =>
        rename_i y d
        obtain ⟨c, o⟩ := OutP.chk o
        rw [Bool.and_eq_true] at c
        cases q : findI d ds with
        | none => rw [q] at o; exact o.elim
        | some j =>
          rw [q] at o
          obtain ⟨z, h1, h2, h3⟩ := findI_some d ds j q
          exact ⟨a, y, d, ds, j, z, rfl, rfl, kd.dp, (r.mono wo_self).dp, c.1, c.2, h1, h2, h3, o H (Same.refl H) _ (.int _)⟩
    | nil => exact o.elim⟩

/-! ### the script -/
def cScr (i : Nat) (n : Int) : En → R (List PD) := fun ρ => match ρ[i]? with
  | some (.sc ns) => .ok (cutL (ns.map PyData.int) none (some n))
  | _ => .bad
theorem cut_map {α β : Type} (f : α → β) (xs : List α) (a b : Option Int) : cutL (xs.map f) a b = (cutL xs a b).map f := by
  unfold cutL
  rw [List.map_take, List.map_drop, List.length_map]
theorem ints_all {K : PySem.W.Frag} {H : Hp} : ∀ ns : List Int, DqAll K H (ns.map V.int) (ns.map PyData.int)
  | [] => .nil
  | _ :: r => .cons (.int _) (ints_all r)
section
variable {X : Cx} {W : WX} {a : Expr} {i : Nat} {n : Int} {j : Nat} {pos p2 p3 : Pos}
theorem df_scr (hx : PE X a (tVar i)) : DF X W (.Subscript a (.Slice none (some (.Constant (.int n) j p3)) none p2) pos) (cScr i n) := by
  refine ⟨_, pe_slice sl_list hx po_none (po_some pe_int), fun H0 O0 O ρ σ H Q rl o => ?_⟩
  unfold cScr at o
  cases q : ρ[i]? with
  | none => rw [q] at o; exact o.elim
  | some s =>
    rw [q] at o
    cases s with
    | sc ns =>
      obtain ⟨b, e1, e2⟩ := rl.sl i _ q
      refine ⟨_, e1, n, rfl, b, ns.map V.int, rfl, Same.seq wo_self e2, fun p np => o H (Same.refl H) p _ _ np ?_ rfl⟩
      unfold cutV
      have := ints_all (K := X.K) (H := wo H O) (cutL ns none (some n))
      rw [cut_map] 
      unfold cutL at this ⊢
      rwa [List.length_map, ← List.map_drop, ← List.map_take]
    | _ => exact o.elim
end
/-- a def whose first argument is the script -/
def spScr (K : PySem.W.Frag) (F : List Int → Int → R PD) : Sp := fun vs H Q E => ∃ O a ns m, (∀ p, O p → H p ≠ none) ∧ vs = [.ref a, .int m] ∧ SqL K (wo H O) a (ns.map V.int) ∧
  match F ns m with
  | .ok d => ∀ v H', Same H H' → Dq K (wo H' O) v d → Q v H'
  | _ => False
def spLaw (K : PySem.W.Frag) (F : List Int → R PD) : Sp := fun vs H Q E => ∃ a ns, vs = [.ref a] ∧ SqL K H a (ns.map V.int) ∧
  match F ns with
  | .ok d => ∀ v H', Same H H' → Dq K H' v d → Q v H'
  | _ => False
theorem wo_noO {H : Hp} : (wo H fun _ => False) = H := by funext b; unfold wo; rw [if_neg (fun h => h)]
theorem scr_rel {K : PySem.W.Frag} {H : Hp} {O : Addr → Prop} {a : Addr} {ns : List Int} {vs : List V} {ds : List PD} {N : List Str} (al : ∀ p, O p → H p ≠ none) (h : SqL K (wo H O) a (ns.map V.int)) (hd : DqAll K (wo H O) vs ds) :
    Rel K H O O H (.sc ns :: (ds.map Sl.va ++ List.replicate (N.length - (ds.length + 1)) .un)) (L2.start N (.ref a :: vs)) := by
  have hl := hd.length
  refine ⟨Same.refl H, fun _ z => z, fun _ z => .inl z, al, by simp [L2.start, hl], fun i s q => ?_, fun i j s s' p hij q q' n1 n2 _ => ?_⟩
  · cases i with
    | zero => cases q; exact ⟨a, rfl, h⟩
    | succ i =>
      rw [List.getElem?_cons_succ] at q
      by_cases hi : i < ds.length
      · rw [List.getElem?_append_left (by simpa using hi), List.getElem?_map] at q
        cases hq : ds[i]? with
        | none => rw [hq] at q; cases q
        | some d =>
          rw [hq] at q; cases q
          obtain ⟨v, h1, h2⟩ := hd.get hq
          refine ⟨v, ?_, h2⟩
          unfold L2.start
          rw [List.map_cons, List.cons_append, List.getElem?_cons_succ, List.getElem?_append_left (by simpa [hl] using hi), List.getElem?_map, h1]
          rfl
      · rw [List.getElem?_append_right (by simpa using hi), List.getElem?_replicate] at q
        split at q
        · cases q; trivial
        · cases q
  · exfalso
    have own : ∀ (i : Nat) (s : Sl), (Sl.sc ns :: (ds.map Sl.va ++ List.replicate (N.length - (ds.length + 1)) .un))[i]? = some s → Sl.own s = false := fun i s q => by
      cases i with
      | zero => cases q; rfl
      | succ i =>
        rw [List.getElem?_cons_succ] at q
        have m := List.mem_of_getElem? q
        rcases List.mem_append.mp m with m | m
        · obtain ⟨d, _, rfl⟩ := List.mem_map.mp m; rfl
        · rw [(List.mem_replicate.mp m).2]; rfl
    rw [own i s q] at n1
    cases n1
section
variable {P : Program} {w : World} {K : PySem.W.Frag} {mg : Str → Option Value} {base : Heap}
theorem fnScr_of {x qual : Str} {st : Stmt} {f : Addr} {fd : FuncData} {N ps : List Str} {k : Nat} {g : En → Fl} (F : Fun K x qual st f fd) (S : FnScope N ps (defScope st)) (hps : ps.length = 2)
    (hbody : ∀ (cdv : Value) (A : Around) (outer : List PySem.Env) (s : Shared) (H : Hp) (E : XK), Room k (A.deeper (PyProof.Rows.envOfC qual (defScope st) s.heap.objs.size f cdv)) →
      DSs (cxOf (L2.CX P w) P w K mg base N qual (defScope st) f cdv A outer s H E) (WofE E) (defBody st) g) :
    FnOk P w K mg base (L2.CX P w) (k + 1) f fd ps (spScr K fun ns m => fin (g (.sc ns :: .va (.int m) :: List.replicate (N.length - 2) .un))) := by
  refine F.okX S (fun vs H Q E h => ?_) (fun cdv A outer s H vs Q E hr h => ?_)
  · obtain ⟨_, _, _, _, _, rfl, _⟩ := h; exact hps.symm
  · obtain ⟨O, a, ns, m, al, rfl, hS, o⟩ := h
    obtain ⟨t, pt, qt⟩ := (hbody cdv A outer s H E hr).ex
    refine ⟨t, pt, qt H O O _ _ H _ (scr_rel (vs := [.int m]) (ds := [.int m]) al hS (.one (.int m))) ?_⟩
    show OutS K mg (WofE E) H O _ (g (.sc ns :: .va (.int m) :: List.replicate (N.length - 2) .un))
    have o : (match fin (g (.sc ns :: .va (.int m) :: List.replicate (N.length - 2) .un)) with
      | .ok d => ∀ v H', Same H H' → Dq K (wo H' O) v d → Q v H'
      | _ => False) := o
    cases q : g (.sc ns :: .va (.int m) :: List.replicate (N.length - 2) .un) with
    | nx ρ => rw [q] at o; exact fun O' H' σ' r => o .non H' r.fr .non
    | rt d => rw [q] at o; exact fun v H' e hv => o v H' e hv
    | bk ρ => rw [q] at o; exact o.elim
    | ct ρ => rw [q] at o; exact o.elim
    | ex c pl ρ => rw [q] at o; exact o.elim
    | bad => rw [q] at o; exact o.elim
theorem fnLaw_of {x qual : Str} {st : Stmt} {f : Addr} {fd : FuncData} {N ps : List Str} {k : Nat} {g : En → Fl} (F : Fun K x qual st f fd) (S : FnScope N ps (defScope st)) (hps : ps.length = 1)
    (hbody : ∀ (cdv : Value) (A : Around) (outer : List PySem.Env) (s : Shared) (H : Hp) (E : XK), Room k (A.deeper (PyProof.Rows.envOfC qual (defScope st) s.heap.objs.size f cdv)) →
      DSs (cxOf (L2.CX P w) P w K mg base N qual (defScope st) f cdv A outer s H E) (WofE E) (defBody st) g) :
    FnOk P w K mg base (L2.CX P w) (k + 1) f fd ps (spLaw K fun ns => fin (g (.sc ns :: List.replicate (N.length - 1) .un))) := by
  refine F.okX S (fun vs H Q E h => ?_) (fun cdv A outer s H vs Q E hr h => ?_)
  · obtain ⟨_, _, rfl, _⟩ := h; exact hps.symm
  · obtain ⟨a, ns, rfl, hS, o⟩ := h
    obtain ⟨t, pt, qt⟩ := (hbody cdv A outer s H E hr).ex
    have hS' : SqL K (wo H fun _ => False) a (ns.map V.int) := by rw [wo_noO]; exact hS
    refine ⟨t, pt, qt H _ _ _ _ H _ (scr_rel (vs := []) (ds := []) (fun p z => z.elim) hS' .nil) ?_⟩
    show OutS K mg (WofE E) H (fun _ => False) _ (g (.sc ns :: List.replicate (N.length - 1) .un))
    have o : (match fin (g (.sc ns :: List.replicate (N.length - 1) .un)) with
      | .ok d => ∀ v H', Same H H' → Dq K H' v d → Q v H'
      | _ => False) := o
    cases q : g (.sc ns :: List.replicate (N.length - 1) .un) with
    | nx ρ => rw [q] at o; exact fun O' H' σ' r => o .non H' r.fr .non
    | rt d => rw [q] at o; exact fun v H' e hv => o v H' e (by rwa [wo_noO] at hv)
    | bk ρ => rw [q] at o; exact o.elim
    | ct ρ => rw [q] at o; exact o.elim
    | ex c pl ρ => rw [q] at o; exact o.elim
    | bad => rw [q] at o; exact o.elim
end
def cDr (F : List Int → Int → R PD) (i : Nat) (m : Int) : En → R PD := fun ρ => match ρ[i]? with
  | some (.sc ns) => match F ns m with
    | .ok d => .ok d
    | _ => .bad
  | _ => .bad
section
variable {X : Cx} {W : WX} {k : Nat} {f : Addr} {fd : FuncData} {ps : List Str} {F : List Int → Int → R PD} {x : Str} {p p2 pos : Pos} {a : Expr} {i j : Nat} {m : Int}
theorem de_dr (G : FnOk X.prog X.w X.K X.mg X.base (L2.CX X.prog X.w) k f fd ps (spScr X.K F)) (hr : Room k X.A) (hg : Gl X x) (hm : X.mg x = some (.ref f)) (hk : PySem.W.keepIn X.K (.ref f) = true) (hb : Binds X.K fd ps []) (tk : Takes X W)
    (hx : PE X a (tVar i)) (hdb : (x == ("__debug__" : Str)) = false := by decide) (he : starEach [a, .Constant (.int m) j p2] X.env = (false, eval a X.env) :: starEach [.Constant (.int m) j p2] X.env := by rfl)
    (he2 : starEach [.Constant (.int m) j p2] X.env = (false, eval (.Constant (.int m) j p2) X.env) :: starEach [] X.env := by rfl) (hpl : (backTo pos (starEach [.Constant (.int m) j p2] X.env)).any (·.1) = false := by rfl) :
    DE X W (.Call (.Name x p) [a, .Constant (.int m) j p2] [] pos) (cDr F i m) := by
  refine ⟨_, pe_callS (E := WE W) G hr hg hm hk hb (fun σ => passAt tk σ) (pa_cons hx (pa_cons pe_int pa_nil he2) he) hdb he hpl, fun H0 O0 O ρ σ H Q rl o => ?_⟩
  unfold cDr at o
  cases q : ρ[i]? with
  | none => rw [q] at o; exact o.elim
  | some s =>
    rw [q] at o
    cases s with
    | sc ns =>
      obtain ⟨b, e1, e2⟩ := rl.sl i _ q
      refine ⟨_, e1, O, b, ns, m, rl.al, rfl, e2, ?_⟩
      cases r : F ns m with
      | ok d => simp only [r] at o; exact fun v H' e' hd => o H' e' v hd
      | ex c pl => simp only [r] at o; exact o.elim
      | bad => simp only [r] at o; exact o.elim
    | _ => exact o.elim
end

/-! ### the law's own end -/
theorem exm_by {K : PySem.W.Frag} {t : Value} {S : Addr} {b : Bool} (h1 : PySem.W.subIn K (.ref S) (.type "BaseException") = some true) (h2 : PySem.W.isClsIn K S = true) (h3 : PySem.W.typeIn K (.ref S) = some (.type "type")) (h4 : PySem.W.subIn K t (.ref S) = some b) :
    PySem.W.exmOne K t (.ref S) = some b := by
  have e2 : (PySem.W.clsIn K S).isSome = true := h2
  unfold PySem.W.exmOne PySem.W.kitCls
  rw [h1, if_pos (beq_self_eq_true _)]
  simp only [e2, h3, Bool.true_and, beq_self_eq_true, if_true]
  exact h4
theorem apart_go {K : PySem.W.Frag} {mg : Str → Option Value} {c c' : Str} {C C' D D' : Addr} (g : mg c = some (.ref C)) (g' : mg c' = some (.ref C')) (h : mg c = some (.ref D)) (h' : mg c' = some (.ref D')) (e : PySem.W.exmOne K (.ref C) (.ref C') = some (c == c')) : PySem.W.exmOne K (.ref D) (.ref D') = some (c == c') := by
  cases g.symm.trans h
  cases g'.symm.trans h'
  exact e
theorem walk_law {l : PySem.W.OpenLaw} {k : Nat} {q : Program} {loose : List Str} {XP : (Str → Option Value) → Heap → Prop} {YP : World → Heap → Prop} {d : DefRec} {K : Params → PySem.W.Frag} {F : List Int → R PD} (hn : l.most = some 63) (hdf : d.params.defaults = []) (hr : Room k callerA)
    (hY : ∀ (w : World) (h : Heap), YP w h → (K w.params).In h) (hF : ∀ ns : List Int, ns.length ≤ 63 → F ns = .ok (.bool true))
    (Fk : ∀ (w : World) (mg : Str → Option Value) (fa : Addr) (h : Heap), (K w.params).In h → h.Ns mainGlobals mg → mg d.name = some (.ref fa) →
      ∃ fd : FuncData, (∀ (s : Shared) (u : Value), BindsTo s fd ⟨[u], []⟩ [("script", u)]) ∧ ∀ base : Heap, (K w.params).In base → base.Ns mainGlobals mg → FnOk l.prog w (K w.params) mg base (L2.CX l.prog w) k fa fd ["script"] (spLaw (K w.params) F)) :
    PySem.W.WalkO q loose XP YP l.row.toRowW d [] (fun f vs => PySem.call f vs) :=
  L2.walk_of (n := 63) (k := k) (x := "script") (CX := fun w => L2.CX l.prog w) (sp := fun w => spLaw (K w.params) F) hn (by decide) hdf hr hY Fk (fun w H a ns hl _ hS => ⟨a, ns, rfl, hS, by rw [hF ns hl]; exact fun v H' e hv => hv.sc_bl⟩)
    fun w H s e s' h => by obtain ⟨_, _, _, _, _, _, _, _, _, _, _, _, z⟩ := h; exact z
end DL
namespace DL
open PySem PySem.Spec L2

/-! ### constants of the module, tuples too -/
def McD (K : PySem.W.Frag) (mg : Str → Option Value) (x : Str) (d : PD) : Prop := ∃ v u, mg x = some u ∧ RelV v u ∧ ∀ H, Dq K H v d
section
variable {X : Cx} {W : WX} {x : Str} {d : PD} {pos : Pos}
theorem de_mc (h : McD X.K X.mg x d) (hg : Gl X x) (hd : (x == ("__debug__" : Str)) = false := by decide) : DE X W (.Name x pos) (cK d) := by
  obtain ⟨v, u, e, r, q⟩ := h
  exact ⟨_, pe_glob hg e r hd, fun H0 O0 O ρ σ H Q rl o => o H (Same.refl H) v (q _)⟩
end
section
variable {K : PySem.W.Frag} {mg : Str → Option Value} {x : Str}
theorem mc_int {n : Int} {t : Tok} (h : mg x = some (.int n t)) : McD K mg x (.int n) := ⟨.int n, _, h, ⟨_, rfl⟩, fun H => .int n⟩
theorem mc_str {n : Str} {t : Tok} (h : mg x = some (.str n t)) : McD K mg x (.str n) := ⟨.str n, _, h, ⟨_, rfl⟩, fun H => .str n⟩
/-- flat items -/
inductive FlatAre : List Value → List PD → Prop
  | nil : FlatAre [] []
  | int {n : Int} {t : Tok} {us : List Value} {ds : List PD} (r : FlatAre us ds) : FlatAre (.int n t :: us) (.int n :: ds)
  | str {n : Str} {t : Tok} {us : List Value} {ds : List PD} (r : FlatAre us ds) : FlatAre (.str n t :: us) (.str n :: ds)
theorem FlatAre.vals {H : Hp} : ∀ {us : List Value} {ds : List PD}, FlatAre us ds → ∃ vs, Vals vs us ∧ DqAll K H vs ds
  | _, _, .nil => ⟨[], .nil, .nil⟩
  | _, _, .int (n := n) r => let ⟨vs, a, b⟩ := FlatAre.vals (H := H) r; ⟨.int n :: vs, .cons ⟨_, rfl⟩ a, .cons (.int _) b⟩
  | _, _, .str (n := n) r => let ⟨vs, a, b⟩ := FlatAre.vals (H := H) r; ⟨.str n :: vs, .cons ⟨_, rfl⟩ a, .cons (.str _) b⟩
theorem mc_tup {a : Addr} {od : Option Addr} {us : Array Value} {n : Nat} {sl : Array (Option Value)} {ds : List PD} (h : mg x = some (.ref a)) (l : K.lookup a = some ⟨.type "tuple", od, .seq us n, sl⟩) (hf : FlatAre us.toList ds) (hs : us.size ≤ sizeLine) : McD K mg x (.tuple ds) :=
  ⟨.ref a, _, h, rfl, fun H => by
    obtain ⟨vs, v1, v2⟩ := hf.vals (K := K) (H := H)
    exact .tup (.inr ⟨_, us, n, l, rfl, rfl, hs, v1⟩) v2⟩
end

/-! ### zip -/
theorem zipL_get : ∀ (ds es : List PD) (j : Nat) (d : PD), (zipL ds es)[j]? = some d → ∃ a b, ds[j]? = some a ∧ es[j]? = some b ∧ d = .tuple [a, b]
  | [], es, j, d, h => by simp [zipL] at h
  | _ :: _, [], j, d, h => by simp [zipL] at h
  | a :: ds, b :: es, 0, d, h => by simp [zipL] at h; exact ⟨a, b, rfl, rfl, h.symm⟩
  | a :: ds, b :: es, j + 1, d, h => by simp [zipL] at h; simpa using zipL_get ds es j d h
theorem zipL_len : ∀ (ds es : List PD), (zipL ds es).length = min ds.length es.length
  | [], es => by simp [zipL]
  | _ :: _, [] => by simp [zipL]
  | a :: ds, b :: es => by simp [zipL, zipL_len ds es]
section
variable {K : PySem.W.Frag} {G : Hp} {a b : Addr} {vs ws : List V} {ds es : List PD}
theorem wk_zip {R : It} (h1 : DqAll K G vs ds) (h2 : DqAll K G ws es) (hgo : ∀ i H, Same G H → i < ds.length → i < es.length → R.go i H) (hst : ∀ i H, Same G H → (ds.length ≤ i ∨ es.length ≤ i) → R.stop i H)
    (hy : ∀ i H x H', Same G H → R.yld i H x H' → ∃ T y z, x = .ref T ∧ H T = none ∧ H' = upd H T (.tup [y, z]) ∧ vs[i]? = some y ∧ ws[i]? = some z) : Wk K R (zipL ds es) G where
  go := fun i H e hi => by rw [zipL_len] at hi; exact hgo i H e (by omega) (by omega)
  stop := fun i H e hi => by rw [zipL_len] at hi; exact hst i H e (by omega)
  yld := fun i H x H' e q => by
    obtain ⟨T, y, z, rfl, hT, rfl, hv, hw⟩ := hy i H x H' e q
    refine ⟨Same.updNew hT, fun d hd O eo nO => ?_⟩
    obtain ⟨d1, d2, k1, k2, rfl⟩ := zipL_get _ _ _ _ hd
    obtain ⟨e1, l1, l2⟩ := h1.getV hv
    obtain ⟨e2, m1, m2⟩ := h2.getV hw
    rw [k1] at l1; cases l1
    rw [k2] at m1; cases m1
    have hO := nO T hT
    rw [wo_upd_new hO]
    have hn : wo H O T = none := by unfold wo; rw [if_neg hO]; exact hT
    exact .tup (.inl (.inl upd_same)) (.cons ((l2.mono eo).mono (Same.updNew hn)) (.cons ((m2.mono eo).mono (Same.updNew hn)) .nil))
end
def zpD (d e : PD) : R (List PD) := match d, e with
  | .list ds, .list es => .ok (zipL ds es)
  | .tuple ds, .tuple es => .ok (zipL ds es)
  | _, _ => .bad
def iZp (f g : En → R PD) : En → R (List PD) := fun ρ => (f ρ).bind fun d => (g ρ).bind fun e => zpD d e
section
variable {X : Cx} {W : WX} {e e2 : Expr} {f g : En → R PD} {pos p tpos : Pos} {elts : List Expr} {kk : Nat}
theorem di_zip (hg : Gl X "zip") (hm : X.mg "zip" = none) (h : DE X W e f) (h' : DE X W e2 g) (h1 : starEach [e, e2] X.env = (false, eval e X.env) :: starEach [e2] X.env := by rfl) (h2 : starEach [e2] X.env = (false, eval e2 X.env) :: starEach [] X.env := by rfl) (hpl : (backTo pos (starEach [e2] X.env)).any (·.1) = false := by rfl) :
    DI X W (.Tuple elts kk tpos) (.Call (.Name "zip" p) [e, e2] [] pos) (iZp f g) := by
  obtain ⟨t, pt, qt⟩ := h.ex
  obtain ⟨u, pu, qu⟩ := h'.ex
  refine ⟨_, RZ.pi_zipA hg hm (pa_cons pt (pa_cons pu pa_nil h2) h1) h1 hpl, fun H0 O0 O ρ σ H Rr rl o => ?_⟩
  refine qt H0 O0 O ρ σ H _ rl (o.bind.imp fun d H1 e1 o1 v hv => ?_)
  refine qu H0 O0 O ρ σ H1 _ (rl.grow e1) (o1.bind.imp fun d' H2 e2 o2 v' hv' => ?_)
  have hv := hv.mono (same_wo e2)
  cases hv with
  | lst k1 k2 =>
    cases hv' with
    | lst m1 m2 =>
      rename_i b1 vs ds b2 ws es
      exact ⟨b1, b2, vs, ws, rfl, .inl ⟨.inl (rd_mono wo_self k1), .inl (rd_mono wo_self m1), o2 H2 (Same.refl H2) _ (wk_zip k2 m2 (fun i H e hi hj => ⟨vs, ws, vs[i]'(by rw [k2.length]; exact hi), ws[i]'(by rw [m2.length]; exact hj), e.seq (.inl k1), e.seq (.inl m1), List.getElem?_eq_getElem _, List.getElem?_eq_getElem _⟩)
        (fun i H e hi => ⟨vs, ws, e.seq (.inl k1), e.seq (.inl m1), by rw [k2.length, m2.length]; exact hi⟩) (fun i H x H' e ⟨T, y, z, ex, hT, eH, q1, q2⟩ => ⟨T, y, z, ex, hT, eH, q1 vs (e.seq (.inl k1)), q2 ws (e.seq (.inl m1))⟩))⟩⟩
    | _ => exact o2.elim
  | tup k1 k2 =>
    cases hv' with
    | tup m1 m2 =>
      rename_i b1 vs ds b2 ws es
      exact ⟨b1, b2, vs, ws, rfl, .inr ⟨Same.seqT wo_self k1, Same.seqT wo_self m1, o2 H2 (Same.refl H2) _ (wk_zip k2 m2 (fun i H e hi hj => ⟨vs, ws, vs[i]'(by rw [k2.length]; exact hi), ws[i]'(by rw [m2.length]; exact hj), Same.seqT e k1, Same.seqT e m1, List.getElem?_eq_getElem _, List.getElem?_eq_getElem _⟩)
        (fun i H e hi => ⟨vs, ws, Same.seqT e k1, Same.seqT e m1, by rw [k2.length, m2.length]; exact hi⟩) (fun i H x H' e ⟨T, y, z, ex, hT, eH, q1, q2⟩ => ⟨T, y, z, ex, hT, eH, q1 vs (Same.seqT e k1), q2 ws (Same.seqT e m1)⟩))⟩⟩
    | _ => exact o2.elim
  | _ => cases hv' <;> exact o2.elim
end

/-! ### list(range(..)), tuple(range(..)) -/
structure DRg (X : Cx) (W : WX) (e : Expr) (f : En → R (Int × Int)) : Prop where
  ex : ∃ t, PRg X e t ∧ ∀ H0 O0 O ρ σ H (Q : Int → Int → Hp → Prop), Rel X.K H0 O0 O H ρ σ → OutP X W O σ H (f ρ) (fun d H' => Q d.1 d.2 H') → t σ H Q
def rgI1 (d : PD) : R (Int × Int) := match d with
  | .int n => .ok (0, n)
  | _ => .bad
def rgI2 (d e : PD) : R (Int × Int) := match d, e with
  | .int m, .int n => .ok (m, n)
  | _, _ => .bad
def xR1 (f : En → R PD) : En → R (Int × Int) := fun ρ => (f ρ).bind rgI1
def xR2 (f g : En → R PD) : En → R (Int × Int) := fun ρ => (f ρ).bind fun d => (g ρ).bind fun e => rgI2 d e
def rgOk (d : Int × Int) : Bool := decide (-1000000000000000 ≤ d.1 ∧ d.1 ≤ 1000000000000000 ∧ -1000000000000000 ≤ d.2 ∧ d.2 ≤ 1000000000000000 ∧ (d.2 - d.1).toNat ≤ big)
theorem rgOk_of {d : Int × Int} (h : rgOk d = true) : L2.RgOk d.1 d.2 := by
  have c := of_decide_eq_true h
  unfold big at c
  exact ⟨by omega, by omega, by omega, by omega, by omega⟩
def cRgL (f : En → R (Int × Int)) : En → R (List PD) := fun ρ => (f ρ).bind fun d => chk (rgOk d) (.ok (rangeL d.1 (d.2 - d.1).toNat))
def cRgT (f : En → R (Int × Int)) : En → R PD := fun ρ => (f ρ).bind fun d => chk (rgOk d) (.ok (.tuple (rangeL d.1 (d.2 - d.1).toNat)))
theorem rg_all {K : PySem.W.Frag} {H : Hp} (a : Int) : ∀ l : List Nat, DqAll K H (l.map fun (i : Nat) => V.int (a + (i : Nat))) (l.map fun (i : Nat) => PyData.int (a + (i : Int)))
  | [] => .nil
  | _ :: r => .cons (.int _) (rg_all a r)
section
variable {X : Cx} {W : WX} {a b e : Expr} {f g : En → R PD} {h : En → R (Int × Int)} {pos p : Pos}
theorem drg_1 (hg : Gl X "range") (hm : X.mg "range" = none) (ha : DE X W a f) (na : starEach [a] X.env = (false, eval a X.env) :: starEach [] X.env := by rfl) : DRg X W (.Call (.Name "range" p) [a] [] pos) (xR1 f) := by
  obtain ⟨t, pt, qt⟩ := ha.ex
  refine ⟨_, prg_1 hg hm pt na, fun H0 O0 O ρ σ H Q rl o => ?_⟩
  refine qt H0 O0 O ρ σ H _ rl (o.bind.imp fun d H1 e1 o1 v hv => ?_)
  cases d with
  | int n => cases hv.sc_int; exact ⟨n, rfl, o1 H1 (Same.refl H1)⟩
  | _ => exact o1.elim
theorem drg_2 (hg : Gl X "range") (hm : X.mg "range" = none) (ha : DE X W a f) (hb : DE X W b g) (na : starEach [a, b] X.env = (false, eval a X.env) :: starEach [b] X.env := by rfl)
    (nb : starEach [b] X.env = (false, eval b X.env) :: starEach [] X.env := by rfl) (hp : (backTo pos (starEach [b] X.env)).any (·.1) = false := by rfl) : DRg X W (.Call (.Name "range" p) [a, b] [] pos) (xR2 f g) := by
  obtain ⟨t, pt, qt⟩ := ha.ex
  obtain ⟨u, pu, qu⟩ := hb.ex
  refine ⟨_, prg_2 hg hm pt pu na nb hp, fun H0 O0 O ρ σ H Q rl o => ?_⟩
  refine qt H0 O0 O ρ σ H _ rl (o.bind.imp fun d H1 e1 o1 v hv => ?_)
  refine qu H0 O0 O ρ σ H1 _ (rl.grow e1) (o1.bind.imp fun d' H2 e2 o2 v' hv' => ?_)
  cases d with
  | int m =>
    cases d' with
    | int n => cases hv.sc_int; cases hv'.sc_int; exact ⟨m, n, rfl, rfl, o2 H2 (Same.refl H2)⟩
    | _ => exact o2.elim
  | _ => cases d' <;> exact o2.elim
theorem df_rgL (hc : X.calm = true) (hg : Gl X "list") (hm : X.mg "list" = none) (he : DRg X W e h) (na : starEach [e] X.env = (false, eval e X.env) :: starEach [] X.env := by rfl) : DF X W (.Call (.Name "list" p) [e] [] pos) (cRgL h) := by
  obtain ⟨t, pt, qt⟩ := he.ex
  refine ⟨_, pe_listRg hc hg hm pt na, fun H0 O0 O ρ σ H Q rl o => ?_⟩
  refine qt H0 O0 O ρ σ H _ rl (o.bind.imp fun d H1 e1 o1 => ?_)
  obtain ⟨c, o1⟩ := OutP.chk o1
  exact ⟨rgOk_of c, fun q nq => o1 H1 (Same.refl H1) q _ _ nq (rg_all d.1 _) rfl⟩
theorem de_rgT (hc : X.calm = true) (hg : Gl X "tuple") (hm : X.mg "tuple" = none) (he : DRg X W e h) (na : starEach [e] X.env = (false, eval e X.env) :: starEach [] X.env := by rfl) : DE X W (.Call (.Name "tuple" p) [e] [] pos) (cRgT h) := by
  obtain ⟨t, pt, qt⟩ := he.ex
  refine ⟨_, pe_tupRg hc hg hm pt na, fun H0 O0 O ρ σ H Q rl o => ?_⟩
  refine qt H0 O0 O ρ σ H _ rl (o.bind.imp fun d H1 e1 o1 => ?_)
  obtain ⟨c, o1⟩ := OutP.chk o1
  exact ⟨rgOk_of c, fun q nq => o1 _ (Same.updNew nq) _ (.tup (.inl (.inl (wo_new ((rl.grow e1).fresh nq)))) (all_grow nq (rg_all d.1 _)))⟩
end

/-! ### x += e, x -= e, of ints -/
def IpD (X : Cx) (op : Operator) (F : PD → PD → R PD) : Prop :=
  ∃ r, PIp X op r ∧ ∀ W O σ H x y d e Q, (∀ p, H p = none → ¬ O p) → Dq X.K (wo H O) x d → Dt X.K O H y e → OutP X W O σ H (F d e) (fun d H' => ∀ v, Dq X.K (wo H' O) v d → Q v H') → r x y H Q
def sAug (i : Nat) (F : PD → PD → R PD) (f : En → R PD) : En → Fl := fun ρ => match ρ[i]? with
  | some (.va d) => toS ρ (f ρ) fun e => toS ρ (F d e) fun z => .nx (ρ.set i (.va z))
  | _ => .bad
def iaddD (d e : PD) : R PD := match d, e with
  | .int i, .int j => .ok (.int (i + j))
  | _, _ => .bad
def isubD (d e : PD) : R PD := match d, e with
  | .int i, .int j => .ok (.int (i - j))
  | _, _ => .bad
section
variable {X : Cx} {W : WX} {e : Expr} {f : En → R PD} {i : Nat} {x : Str} {pos pos' : Pos} {op : Operator} {F : PD → PD → R PD}
theorem ipd_add : IpD X .Add iaddD := ⟨_, ip_add, fun W O σ H x y d e Q nO hx hy o => by
  cases d with
  | int i =>
    cases e with
    | int j => cases hx.sc_int; cases hy.sc_int; exact ⟨i, j, rfl, rfl, o H (Same.refl H) _ (.int _)⟩
    | _ => exact o.elim
  | _ => cases e <;> exact o.elim⟩
theorem ipd_sub : IpD X .Sub isubD := ⟨_, ip_sub, fun W O σ H x y d e Q nO hx hy o => by
  cases d with
  | int i =>
    cases e with
    | int j => cases hx.sc_int; cases hy.sc_int; exact ⟨i, j, rfl, rfl, o H (Same.refl H) _ (.int _)⟩
    | _ => exact o.elim
  | _ => cases e <;> exact o.elim⟩
theorem ds_aug (ho : IpD X op F) (hN : X.N.Nodup) (hi : X.N[i]? = some x) (hx : Loc X.env.scope x) (he : DV X W e f) (hf : X.fn x = true ∨ X.env.scope.names.lookup x = some .local := by first | exact .inl rfl | exact .inr rfl | assumption) :
    DS X W (.AugAssign (.Name x pos') op e pos) (sAug i F f) := by
  obtain ⟨t, pt, qt⟩ := he.ex
  obtain ⟨r, p1, p2⟩ := ho
  refine ⟨_, ps_aug hN hi hx pt p1 hf, fun H0 O0 O ρ σ H D rl o => ?_⟩
  unfold sAug at o
  cases q : ρ[i]? with
  | none => rw [q] at o; exact o.elim
  | some s =>
    rw [q] at o
    cases s with
    | va d =>
      obtain ⟨v, e1, e2⟩ := rl.sl i _ q
      refine ⟨v, e1, qt H0 O0 O ρ σ H _ rl ((OutS.ofR rl o).imp fun d' H1 ex o1 y hy => ?_)⟩
      have r1 := rl.grow ex
      refine p2 W O σ H1 v y d d' _ (fun p n => r1.fresh n) (e2.mono (same_wo ex)) hy ((OutS.ofR r1 o1).imp fun z H2 ex2 o2 w hw => ?_)
      exact o2 O H2 _ ((r1.grow ex2).setV hw i)
    | _ => exact o.elim
end
end DL
namespace DL
open PySem PySem.Spec L2

/-! ### a, b, c = x, y, z -/
def sPar3 (i j l : Nat) (f g h : En → R PD) : En → Fl := fun ρ => toS ρ (f ρ) fun d => toS ρ (g ρ) fun d' => toS ρ (h ρ) fun d'' => .nx (((ρ.set i (.va d)).set j (.va d')).set l (.va d''))
section
variable {X : Cx} {W : WX} {x y z : Str} {i j l : Nat} {a b c : Expr} {f g h : En → R PD} {px py pz pt pos : Pos} {kt k2 : Nat} {pt2 : Pos}
theorem ds_par3 (hc : X.calm = true) (hN : X.N.Nodup) (hi : X.N[i]? = some x) (hj : X.N[j]? = some y) (hl : X.N[l]? = some z) (hij : i ≠ j) (hil : i ≠ l) (hjl : j ≠ l)
    (hx : X.env.scope.names.lookup x = some .local) (hy : X.env.scope.names.lookup y = some .local) (hz : X.env.scope.names.lookup z = some .local) (ha : DE X W a f) (hb : DE X W b g) (hd : DE X W c h)
    (hw : swappedStores [.Tuple [.Name x px, .Name y py, .Name z pz] kt pt] (.Tuple [a, b, c] k2 pt2) X.env = pure (some [x, y, z]))
    (hs : swapsWithSole [.Tuple [.Name x px, .Name y py, .Name z pz] kt pt] (.Tuple [a, b, c] k2 pt2) pos.line X.env = pure false := by rfl)
    (h1 : starEach [a, b, c] X.env = (false, eval a X.env) :: starEach [b, c] X.env := by rfl) (h2 : starEach [b, c] X.env = (false, eval b X.env) :: starEach [c] X.env := by rfl) (h3 : starEach [c] X.env = (false, eval c X.env) :: starEach [] X.env := by rfl) :
    DS X W (.Assign [.Tuple [.Name x px, .Name y py, .Name z pz] kt pt] (.Tuple [a, b, c] k2 pt2) pos) (sPar3 i j l f g h) := by
  obtain ⟨t, pt, qt⟩ := ha.ex
  obtain ⟨u, pu, qu⟩ := hb.ex
  obtain ⟨w, pw, qw⟩ := hd.ex
  refine ⟨_, ps_par3 hc hN hi hj hl hij hil hjl hx hy hz (pa_cons pt (pa_cons pu (pa_cons pw pa_nil h3) h2) h1) hw hs, fun H0 O0 O ρ σ H D rl o => ?_⟩
  refine qt H0 O0 O ρ σ H _ rl ((OutS.ofR rl o).imp fun d H1 e1 o1 v hv => ?_)
  refine qu H0 O0 O ρ σ H1 _ (rl.grow e1) ((OutS.ofR (rl.grow e1) o1).imp fun d' H2 e2 o2 v' hv' => ?_)
  have r2 := (rl.grow e1).grow e2
  refine qw H0 O0 O ρ σ H2 _ r2 ((OutS.ofR r2 o2).imp fun d'' H3 e3 o3 v'' hv'' => ?_)
  have e13 := e2.trans e3
  refine ⟨v, v', v'', rfl, ?_⟩
  have k := o3 O H3 _ ((((r2.grow e3).setV (hv.mono (same_wo e13)) i).setV (hv'.mono (same_wo e3)) j).setV hv'' l)
  first
    | exact k
    | (have c1 : ∀ (σ : L2.St) (a b c : Option V), ((σ.set i a).set j b).set l c = ((σ.set l c).set j b).set i a := fun σ a b c => by
        rw [List.set_comm _ _ hij, List.set_comm _ _ hil, List.set_comm _ _ hjl]
       rw [← c1]; exact k)
end

/-! ### the turns that a while loop may take: enough, and no more is known -/
@[irreducible] def fuel : Nat := 1000000000
theorem fuel_ge : 1000000000 ≤ fuel := by unfold fuel; exact Nat.le_refl _
theorem whL_mono {p : En → R Bool} {g : En → Fl} : ∀ (n m : Nat) (ρ : En) (o : Fl), n ≤ m → whL p g n ρ = o → o ≠ .bad → whL p g m ρ = o
  | 0, m, ρ, o, _, e, nb => absurd e.symm nb
  | n + 1, 0, ρ, o, h, _, _ => absurd h (Nat.not_succ_le_zero _)
  | n + 1, m + 1, ρ, o, h, e, nb => by
    have ih := fun ρ2 e => whL_mono (p := p) (g := g) n m ρ2 o (Nat.le_of_succ_le_succ h) e nb
    rw [whL] at e ⊢
    cases hp : p ρ with
    | ex c pl => rw [hp] at e; exact e
    | bad => rw [hp] at e; exact absurd e.symm nb
    | ok b =>
      rw [hp] at e
      simp only [toS] at e ⊢
      cases b with
      | false => exact e
      | true =>
        rw [if_pos rfl] at e ⊢
        cases hg : g ρ with
        | nx ρ2 => simp only [hg] at e ⊢; exact ih ρ2 e
        | ct ρ2 => simp only [hg] at e ⊢; exact ih ρ2 e
        | bk ρ2 => simp only [hg] at e ⊢; exact e
        | rt d => simp only [hg] at e ⊢; exact e
        | ex c pl ρ2 => simp only [hg] at e ⊢; exact e
        | bad => simp only [hg] at e ⊢; exact e
theorem whL_fuel {p : En → R Bool} {g : En → Fl} {n : Nat} {ρ : En} {o : Fl} (h : n ≤ 1000000000) (e : whL p g n ρ = o) (nb : o ≠ .bad) : whL p g fuel ρ = o := whL_mono n fuel ρ o (Nat.le_trans h fuel_ge) e nb
end DL
namespace DL
open PySem PySem.Spec L2

/-! ### the data functions, applied -/
section
variable {i j n : Nat} {ρ : En} {d e : PD} {f g h : En → R PD} {fs gs : En → R (List PD)} {p q : En → R Bool} {k : Int} {ds : List PD} {α : Type}
@[simp] theorem a_cV : cV i ρ = (match ρ[i]? with | some (.va d) => .ok d | _ => .bad) := rfl
@[simp] theorem a_cW : cW i ρ = (match ρ[i]? with | some (.va d) => .ok d | some (.ol ds) => .ok (.list ds) | _ => .bad) := rfl
@[simp] theorem a_cK : cK d ρ = .ok d := rfl
@[simp] theorem a_c2 (F : PD → PD → R PD) : c2 F f g ρ = (f ρ).bind fun x => (g ρ).bind fun y => F x y := rfl
@[simp] theorem a_c1 (F : PD → R PD) : c1 F f ρ = (f ρ).bind F := rfl
@[simp] theorem a_cNil : cNil ρ = .ok [] := rfl
@[simp] theorem a_cCons : cCons f fs ρ = (f ρ).bind fun d => (fs ρ).bind fun ds => .ok (d :: ds) := rfl
@[simp] theorem a_cTup : cTup fs ρ = (fs ρ).bind mkT := rfl
@[simp] theorem a_cLst : cLst fs ρ = (fs ρ).bind mkL := rfl
@[simp] theorem a_cL : cL fs ρ = (fs ρ).bind fun ds => .ok (.list ds) := rfl
@[simp] theorem a_cCl (F : List PD → R PD) : cCl F fs ρ = (fs ρ).bind F := rfl
@[simp] theorem a_cClF (F : List PD → R (List PD)) : cClF F fs ρ = (fs ρ).bind F := rfl
@[simp] theorem a_cCall (F : List PD → R PD) : cCall n F fs ρ = (fs ρ).bind fun ds => chk (ds.length == n) (F ds) := rfl
@[simp] theorem a_isaD (F : PD → Bool) : isaD F f ρ = (f ρ).bind fun d => .ok (.bool (F d)) := rfl
@[simp] theorem a_cAnd : cAnd f g ρ = (f ρ).bind fun d => (tru d).bind fun b => if b = true then g ρ else .ok d := rfl
@[simp] theorem a_cOr : cOr f g ρ = (f ρ).bind fun d => (tru d).bind fun b => if b = true then .ok d else g ρ := rfl
@[simp] theorem a_cNot : cNot f ρ = (f ρ).bind fun d => (tru d).bind fun b => .ok (.bool (!b)) := rfl
@[simp] theorem a_cIf : cIf p f g ρ = (p ρ).bind fun b => if b = true then f ρ else g ρ := rfl
@[simp] theorem a_cChain (F G : PD → PD → R PD) : cChain F G f g h ρ = (f ρ).bind fun x => (g ρ).bind fun y => (F x y).bind fun z => (asB z).bind fun k => if k = true then (h ρ).bind fun u => G y u else .ok (.bool false) := rfl
@[simp] theorem a_bChain (F G : PD → PD → R PD) : bChain F G f g h ρ = (cChain F G f g h ρ).bind asB := rfl
@[simp] theorem a_bT : bT f ρ = (f ρ).bind tru := rfl
@[simp] theorem a_bC (F : PD → PD → R PD) : bC F f g ρ = (c2 F f g ρ).bind asB := rfl
@[simp] theorem a_bAnd : bAnd p q ρ = (p ρ).bind fun b => if b = true then q ρ else .ok false := rfl
@[simp] theorem a_bOr : bOr p q ρ = (p ρ).bind fun b => if b = true then .ok true else q ρ := rfl
@[simp] theorem a_bNot : bNot p ρ = (p ρ).bind fun b => .ok (!b) := rfl
@[simp] theorem a_bYes : bYes ρ = .ok true := rfl
@[simp] theorem a_iSeq : iSeq f ρ = (f ρ).bind itD := rfl
@[simp] theorem a_iR1 : iR1 f ρ = (f ρ).bind rg1 := rfl
@[simp] theorem a_iR2 : iR2 f g ρ = (f ρ).bind fun d => (g ρ).bind fun e => rg2 d e := rfl
@[simp] theorem a_iEnm : iEnm f ρ = (f ρ).bind fun d => (itD d).bind fun ds => .ok (enumL 0 ds) := rfl
@[simp] theorem a_cLc (own : List Nat) (src : En → R (List PD)) (tgt : PD → En → R En) : cLc own src tgt p f ρ = (src ρ).bind fun items => chk (decide (items.length ≤ big)) (compL tgt p f (wipeE ρ own) items) := rfl
@[simp] theorem a_wipe0 : wipeE ρ [] = ρ := rfl
@[simp] theorem a_wipe1 (v : Nat) (vs : List Nat) : wipeE ρ (v :: vs) = (wipeE ρ vs).set v .un := rfl
@[simp] theorem a_gN : gN i d ρ = .ok (ρ.set i (.va d)) := rfl
@[simp] theorem a_gZ : gZ [] ρ = .ok ρ := rfl
@[simp] theorem a_sNx : sNx ρ = .nx ρ := rfl
@[simp] theorem a_sSeq (g h : En → Fl) : sSeq g h ρ = (match g ρ with | .nx ρ' => h ρ' | .rt d => .rt d | .bk ρ' => .bk ρ' | .ct ρ' => .ct ρ' | .ex c pl ρ' => .ex c pl ρ' | .bad => .bad) := rfl
@[simp] theorem a_toS_ok (a : α) (c : α → Fl) : toS ρ (.ok a) c = c a := rfl
@[simp] theorem a_toS_ex (x : Str) (pl : List (Str × PD)) (c : α → Fl) : toS ρ (.ex x pl) c = .ex x pl ρ := rfl
@[simp] theorem a_sSet : sSet i f ρ = toS ρ (f ρ) fun d => .nx (ρ.set i (.va d)) := rfl
@[simp] theorem a_sSetL : sSetL i fs ρ = toS ρ (fs ρ) fun ds => .nx (ρ.set i (.ol ds)) := rfl
@[simp] theorem a_sDrop : sDrop f ρ = toS ρ (f ρ) fun _ => .nx ρ := rfl
@[simp] theorem a_sRet : sRet f ρ = toS ρ (f ρ) fun d => .rt d := rfl
@[simp] theorem a_sIf (g h : En → Fl) : sIf p g h ρ = toS ρ (p ρ) fun b => if b = true then g ρ else h ρ := rfl
@[simp] theorem a_sFrz (g : En → Fl) : sFrz i g ρ = g (frz i ρ) := rfl
@[simp] theorem a_frz : frz i ρ = (match ρ[i]? with | some (.ol ds) => ρ.set i (.va (.list ds)) | _ => ρ) := rfl
@[simp] theorem a_sApp : sApp i f ρ = (match ρ[i]? with | some (.ol ds) => toS ρ (f ρ) fun d => if ds.length < big then .nx (ρ.set i (.ol (ds ++ [d]))) else .bad | _ => .bad) := rfl
@[simp] theorem a_sExt : sExt i f ρ = (match ρ[i]? with
  | some (.ol ds) => toS ρ (f ρ) fun d => match d with
    | .list es => if ds.length + es.length ≤ big then .nx (ρ.set i (.ol (ds ++ es))) else .bad
    | _ => .bad
  | _ => .bad) := rfl
@[simp] theorem a_sSetI : sSetI i f g ρ = (match ρ[i]? with
  | some (.ol ds) => toS ρ (f ρ) fun d => toS ρ (g ρ) fun j => match j with
    | .int k => match ixN ds.length k with
      | some n => .nx (ρ.set i (.ol (ds.set n d)))
      | none => .bad
    | _ => .bad
  | _ => .bad) := rfl
@[simp] theorem a_sAsg (g : PD → En → R En) : sAsg f g ρ = toS ρ (f ρ) fun d => (match g d ρ with | .ok ρ' => .nx ρ' | _ => .bad) := rfl
@[simp] theorem a_sPar : sPar i j f g ρ = toS ρ (f ρ) fun d => toS ρ (g ρ) fun d' => .nx ((ρ.set i (.va d)).set j (.va d')) := rfl
@[simp] theorem a_sFor (src : En → R (List PD)) (tgt : PD → En → R En) (body : En → Fl) : sFor src tgt body ρ = toS ρ (src ρ) fun items => forL tgt body items ρ := rfl
@[simp] theorem a_fin_rt : fin (.rt d) = .ok d := rfl
@[simp] theorem a_fin_nx : fin (.nx ρ) = .ok .none := rfl
@[simp] theorem a_fin_ex (x : Str) (pl : List (Str × PD)) : fin (.ex x pl ρ) = .ex x pl := rfl
@[simp] theorem a_gC (a : PD → En → R En) (b : List PD → En → R En) : gC a b (d :: ds) ρ = (match a d ρ with | .ok ρ' => b ds ρ' | _ => .bad) := rfl
@[simp] theorem a_gT (a : List PD → En → R En) : gT n a (.tuple ds) ρ = chk (ds.length == n) (a ds ρ) := rfl
@[simp] theorem a_mkT : mkT ds = chk (decide (ds.length ≤ big)) (.ok (.tuple ds)) := rfl
@[simp] theorem a_mkL : mkL ds = chk (decide (ds.length ≤ big)) (.ok ds) := rfl
@[simp] theorem a_itT : itD (.tuple ds) = .ok ds := rfl
@[simp] theorem a_itL : itD (.list ds) = .ok ds := rfl
@[simp] theorem a_asB (b : Bool) : asB (.bool b) = .ok b := rfl
@[simp] theorem a_truB (b : Bool) : tru (.bool b) = .ok b := rfl
@[simp] theorem a_truI (i : Int) : tru (.int i) = .ok (i != 0) := rfl
@[simp] theorem a_truN : tru .none = .ok false := rfl
@[simp] theorem a_truL : tru (.list ds) = .ok (!ds.isEmpty) := rfl
@[simp] theorem a_truT : tru (.tuple ds) = .ok (!ds.isEmpty) := rfl
@[simp] theorem a_addI (i j : Int) : addD (.int i) (.int j) = .ok (.int (i + j)) := rfl
@[simp] theorem a_addT (xs ys : List PD) : addD (.tuple xs) (.tuple ys) = chk (decide (xs.length + ys.length ≤ big)) (.ok (.tuple (xs ++ ys))) := rfl
@[simp] theorem a_addL (xs ys : List PD) : addD (.list xs) (.list ys) = chk (decide (xs.length + ys.length ≤ big)) (.ok (.list (xs ++ ys))) := rfl
@[simp] theorem a_subI (i j : Int) : subD (.int i) (.int j) = .ok (.int (i - j)) := rfl
@[simp] theorem a_modI (i j : Int) : modD (.int i) (.int j) = chk (decide (0 < j)) (.ok (.int (i % j))) := rfl
@[simp] theorem a_divI (i j : Int) : fdivD (.int i) (.int j) = chk (decide (0 < j ∧ j < 1073741824)) (.ok (.int (i / j))) := rfl
@[simp] theorem a_mulI (i j : Int) : mulD (.int i) (.int j) = chk (decide ((-18446744073709551616 < i ∧ i < 18446744073709551616) ∨ (-18446744073709551616 < j ∧ j < 18446744073709551616))) (.ok (.int (i * j))) := rfl
@[simp] theorem a_powI (i j : Int) : powD (.int i) (.int j) = chk (decide (0 ≤ j ∧ j ≤ 1000000 ∧ i.natAbs < 18446744073709551616)) (.ok (.int (i ^ j.toNat))) := rfl
@[simp] theorem a_negI (i : Int) : negD (.int i) = .ok (.int (-i)) := rfl
@[simp] theorem a_ltI (i j : Int) : ltD (.int i) (.int j) = .ok (.bool (decide (i < j))) := rfl
@[simp] theorem a_leI (i j : Int) : leD (.int i) (.int j) = .ok (.bool (decide (i ≤ j))) := rfl
@[simp] theorem a_gtI (i j : Int) : gtD (.int i) (.int j) = .ok (.bool (decide (j < i))) := rfl
@[simp] theorem a_geI (i j : Int) : geD (.int i) (.int j) = .ok (.bool (decide (j ≤ i))) := rfl
@[simp] theorem dp_int (i : Int) : PyData.depth (.int i) = 0 := rfl
@[simp] theorem dp_bool (i : Bool) : PyData.depth (.bool i) = 0 := rfl
@[simp] theorem dp_str (i : Str) : PyData.depth (.str i) = 0 := rfl
@[simp] theorem dp_none : PyData.depth .none = 0 := rfl
@[simp] theorem a_eqI (i j : Int) : eqD (.int i) (.int j) = .ok (.bool (decide (i = j))) := by
  unfold eqD dOk
  simp [PyData.eqv]
  by_cases h : i = j <;> simp [h]
@[simp] theorem a_neI (i j : Int) : neD (.int i) (.int j) = .ok (.bool (decide (i ≠ j))) := by
  unfold neD dOk
  simp [PyData.eqv]
  by_cases h : i = j <;> simp [h]
@[simp] theorem a_lenL : lenD [.list ds] = .ok (.int ds.length) := rfl
@[simp] theorem a_lenT : lenD [.tuple ds] = .ok (.int ds.length) := rfl
@[simp] theorem a_abs (i : Int) : absD [.int i] = .ok (.int (if i < 0 then -i else i)) := rfl
@[simp] theorem a_int (i : Int) : intD [.int i] = .ok (.int i) := rfl
@[simp] theorem a_tupT : tupD [.tuple ds] = .ok (.tuple ds) := rfl
@[simp] theorem a_tupL : tupD [.list ds] = .ok (.tuple ds) := rfl
@[simp] theorem a_itemsT : items1 [.tuple ds] = .ok ds := rfl
@[simp] theorem a_itemsL : items1 [.list ds] = .ok ds := rfl
@[simp] theorem a_max2 (i j : Int) : maxD1 [PyData.int i, .int j] = .ok (.int (max i j)) := by
  show R.ok (PyData.int (mx2 i j)) = _
  unfold mx2
  by_cases h : i < j
  · rw [if_pos h]; congr; omega
  · rw [if_neg h]; congr; omega
@[simp] theorem a_min2 (i j : Int) : minD1 [PyData.int i, .int j] = .ok (.int (min i j)) := by
  show R.ok (PyData.int (mn2 i j)) = _
  unfold mn2
  by_cases h : j < i
  · rw [if_pos h]; congr; omega
  · rw [if_neg h]; congr; omega
@[simp] theorem a_all : allD [.list ds] = chk (ds.all flat1) (.ok (.bool (ds.all PyData.truthy))) := rfl
@[simp] theorem a_any : anyD [.list ds] = chk (ds.all flat1) (.ok (.bool (ds.any PyData.truthy))) := rfl
@[simp] theorem a_rg1 (n : Int) : rg1 (.int n) = chk (decide (-1000000000000000 ≤ n ∧ n ≤ 1000000000000000)) (.ok (rangeL 0 n.toNat)) := rfl
@[simp] theorem a_rg2 (m n : Int) : rg2 (.int m) (.int n) = chk (decide (-1000000000000000 ≤ m ∧ m ≤ 1000000000000000 ∧ -1000000000000000 ≤ n ∧ n ≤ 1000000000000000)) (.ok (rangeL m (n - m).toNat)) := rfl
@[simp] theorem a_iZp : iZp f g ρ = (f ρ).bind fun d => (g ρ).bind fun e => zpD d e := rfl
@[simp] theorem a_zpL (xs ys : List PD) : zpD (.list xs) (.list ys) = .ok (zipL xs ys) := rfl
@[simp] theorem a_zpT (xs ys : List PD) : zpD (.tuple xs) (.tuple ys) = .ok (zipL xs ys) := rfl
@[simp] theorem a_xR1 : xR1 f ρ = (f ρ).bind rgI1 := rfl
@[simp] theorem a_xR2 : xR2 f g ρ = (f ρ).bind fun d => (g ρ).bind fun e => rgI2 d e := rfl
@[simp] theorem a_rgI1 (n : Int) : rgI1 (.int n) = .ok (0, n) := rfl
@[simp] theorem a_rgI2 (m n : Int) : rgI2 (.int m) (.int n) = .ok (m, n) := rfl
@[simp] theorem a_cRgL (h : En → R (Int × Int)) : cRgL h ρ = (h ρ).bind fun d => chk (rgOk d) (.ok (rangeL d.1 (d.2 - d.1).toNat)) := rfl
@[simp] theorem a_cRgT (h : En → R (Int × Int)) : cRgT h ρ = (h ρ).bind fun d => chk (rgOk d) (.ok (.tuple (rangeL d.1 (d.2 - d.1).toNat))) := rfl
@[simp] theorem a_sAug (F : PD → PD → R PD) : sAug i F f ρ = (match ρ[i]? with | some (.va d) => toS ρ (f ρ) fun e => toS ρ (F d e) fun z => .nx (ρ.set i (.va z)) | _ => .bad) := rfl
@[simp] theorem a_iaddI (i j : Int) : iaddD (.int i) (.int j) = .ok (.int (i + j)) := rfl
@[simp] theorem a_isubI (i j : Int) : isubD (.int i) (.int j) = .ok (.int (i - j)) := rfl
@[simp] theorem a_sPar3 (l : Nat) : sPar3 i j l f g h ρ = toS ρ (f ρ) fun d => toS ρ (g ρ) fun d' => toS ρ (h ρ) fun d'' => .nx (((ρ.set i (.va d)).set j (.va d')).set l (.va d'')) := rfl
@[simp] theorem a_ixL (i : Int) : ixD (.list ds) (.int i) = (match atI ds i with | some d => .ok d | none => .bad) := rfl
@[simp] theorem a_ixT (i : Int) : ixD (.tuple ds) (.int i) = (match atI ds i with | some d => .ok d | none => .bad) := rfl
end
theorem ixN_nn {n : Nat} {i : Nat} (h : i < n) : ixN n (i : Int) = some i := by
  unfold ixN
  rw [if_pos (by omega), if_pos (by omega), Int.toNat_natCast]
theorem ixN_last {n : Nat} (h : 0 < n) : ixN n (-1) = some (n - 1) := by
  unfold ixN
  rw [if_neg (by omega), if_pos (by omega)]
  congr 1; omega
theorem atI_nn {α : Type} {xs : List α} {i : Nat} : atI xs (i : Int) = xs[i]? := by
  unfold atI
  by_cases h : i < xs.length
  · rw [ixN_nn h]; rfl
  · have : ixN xs.length (i : Int) = none := by
      unfold ixN
      rw [if_pos (by omega), if_neg (by omega)]
    rw [this, List.getElem?_eq_none (by omega)]; rfl
@[simp] theorem atI_z {α : Type} (x : α) (xs : List α) : atI (x :: xs) 0 = some x := by
  have := atI_nn (xs := x :: xs) (i := 0)
  simpa using this
@[simp] theorem atI_o {α : Type} (x y : α) (xs : List α) : atI (x :: y :: xs) 1 = some y := by
  have := atI_nn (xs := x :: y :: xs) (i := 1)
  simpa using this
@[simp] theorem atI_2 {α : Type} (x y z : α) (xs : List α) : atI (x :: y :: z :: xs) 2 = some z := by
  have := atI_nn (xs := x :: y :: z :: xs) (i := 2)
  simpa using this
theorem atI_end {α : Type} (xs : List α) (x : α) : atI (xs ++ [x]) (-1) = some x := by
  unfold atI
  rw [ixN_last (by simp)]
  simp

/-! ### equal data -/
mutual
/-- no dict in it -/
def nod : PD → Bool
  | .list xs => nodAll xs
  | .tuple xs => nodAll xs
  | .dict _ => false
  | .none => true
  | .bool _ => true
  | .int _ => true
  | .str _ => true
def nodAll : List PD → Bool
  | [] => true
  | x :: xs => nod x && nodAll xs
end
mutual
theorem eqv_self : ∀ d : PD, nod d = true → PyData.eqv d d = true
  | .list xs, h => by rw [PyData.eqv]; exact eqvAll_self xs (by rw [nod] at h; exact h)
  | .tuple xs, h => by rw [PyData.eqv]; exact eqvAll_self xs (by rw [nod] at h; exact h)
  | .dict _, h => by rw [nod] at h; cases h
  | .none, _ => by rw [PyData.eqv]
  | .bool b, _ => by rw [PyData.eqv]; exact beq_self_eq_true b
  | .int b, _ => by rw [PyData.eqv]; exact beq_self_eq_true b
  | .str b, _ => by rw [PyData.eqv]; exact beq_self_eq_true b
theorem eqvAll_self : ∀ ds : List PD, nodAll ds = true → PyData.eqvAll ds ds = true
  | [], _ => by rw [PyData.eqvAll]
  | x :: xs, h => by
    rw [nodAll, Bool.and_eq_true] at h
    rw [PyData.eqvAll, eqv_self x h.1, eqvAll_self xs h.2]; rfl
end
theorem nodAll_of : ∀ ds : List PD, (∀ d ∈ ds, nod d = true) → nodAll ds = true
  | [], _ => by rw [nodAll]
  | x :: xs, h => by rw [nodAll, h x List.mem_cons_self, nodAll_of xs fun d hd => h d (List.mem_cons_of_mem _ hd)]; rfl
theorem depthAll_le : ∀ (ds : List PD) (n : Nat), (∀ d ∈ ds, d.depth ≤ n) → PyData.depthAll ds ≤ n
  | [], n, _ => by rw [PyData.depthAll]; exact Nat.zero_le _
  | x :: xs, n, h => by
    rw [PyData.depthAll]
    have := h x List.mem_cons_self
    have := depthAll_le xs n fun d hd => h d (List.mem_cons_of_mem _ hd)
    omega
/-- equal data -/
theorem eqD_self {d : PD} (h : nod d = true) (hd : d.depth ≤ 100) : eqD d d = .ok (.bool true) := by
  unfold eqD dOk
  rw [chk_of (by rw [decide_eq_true_eq]; omega), eqv_self d h]
theorem neD_self {d : PD} (h : nod d = true) (hd : d.depth ≤ 100) : neD d d = .ok (.bool false) := by
  unfold neD dOk
  rw [chk_of (by rw [decide_eq_true_eq]; omega), eqv_self d h]; rfl

/-! ### loops -/
section
variable {α β : Type} {tgt : PD → En → R En} {body : En → Fl}
theorem forL_go (P : Nat → β → En → Prop) (step : β → α → β) (enc : α → PD) : ∀ (ys : List α) (i : Nat) (s : β) (ρ : En),
    (∀ j y s ρ, ys[j]? = some y → P (i + j) s ρ → ∃ ρ1 ρ2, tgt (enc y) ρ = .ok ρ1 ∧ (body ρ1 = .nx ρ2 ∨ body ρ1 = .ct ρ2) ∧ P (i + j + 1) (step s y) ρ2) → P i s ρ →
    ∃ ρ', forL tgt body (ys.map enc) ρ = .nx ρ' ∧ P (i + ys.length) (ys.foldl step s) ρ'
  | [], i, s, ρ, _, h => ⟨ρ, rfl, h⟩
  | y :: ys, i, s, ρ, hs, h => by
    obtain ⟨ρ1, ρ2, e1, e2, h2⟩ := hs 0 y s ρ rfl h
    obtain ⟨ρ', e3, h3⟩ := forL_go P step enc ys (i + 1) (step s y) ρ2 (fun j y s ρ e p => by
      have := hs (j + 1) y s ρ (by simpa using e) (by rwa [show i + (j + 1) = i + 1 + j by omega])
      rwa [show i + (j + 1) = i + 1 + j by omega] at this) h2
    refine ⟨ρ', ?_, by rwa [show i + (y :: ys).length = i + 1 + ys.length by rw [List.length_cons]; omega]⟩
    rw [List.map_cons, forL, e1]
    rcases e2 with e2 | e2
    · simp only [e2]; exact e3
    · simp only [e2]; exact e3
/-- a loop whose body goes on: the state by a fold -/
theorem forL_fold (P : Nat → β → En → Prop) (step : β → α → β) (enc : α → PD) (ys : List α) {s : β} {ρ : En} (h0 : P 0 s ρ)
    (hs : ∀ j y s ρ, ys[j]? = some y → P j s ρ → ∃ ρ1 ρ2, tgt (enc y) ρ = .ok ρ1 ∧ (body ρ1 = .nx ρ2 ∨ body ρ1 = .ct ρ2) ∧ P (j + 1) (step s y) ρ2) :
    ∃ ρ', forL tgt body (ys.map enc) ρ = .nx ρ' ∧ P ys.length (ys.foldl step s) ρ' := by
  have := forL_go (i := 0) P step enc ys s ρ (fun j y s ρ e p => by rw [Nat.zero_add] at p ⊢; exact hs j y s ρ e p) h0
  rwa [Nat.zero_add] at this
/-- a loop by an invariant alone -/
theorem forL_inv (P : Nat → En → Prop) (enc : α → PD) (ys : List α) {ρ : En} (h0 : P 0 ρ)
    (hs : ∀ j y ρ, ys[j]? = some y → P j ρ → ∃ ρ1 ρ2, tgt (enc y) ρ = .ok ρ1 ∧ (body ρ1 = .nx ρ2 ∨ body ρ1 = .ct ρ2) ∧ P (j + 1) ρ2) :
    ∃ ρ', forL tgt body (ys.map enc) ρ = .nx ρ' ∧ P ys.length ρ' :=
  forL_fold (fun j (_ : Unit) ρ => P j ρ) (fun s _ => s) enc ys (s := ()) h0 fun j y _ ρ e p => hs j y ρ e p
theorem compL_map {γ : Type} (enc : α → PD) {p : En → R Bool} {f : En → R PD} {ρ : En} (b : α → Bool) (r : α → γ) (dec : γ → PD) : ∀ (ys : List α),
    (∀ y ∈ ys, ∃ ρ1, tgt (enc y) ρ = .ok ρ1 ∧ p ρ1 = .ok (b y) ∧ (b y = true → f ρ1 = .ok (dec (r y)))) → compL tgt p f ρ (ys.map enc) = .ok (((ys.filter b).map r).map dec)
  | [], _ => rfl
  | y :: ys, h => by
    obtain ⟨ρ1, e1, e2, e3⟩ := h y List.mem_cons_self
    have ih := compL_map enc b r dec ys (fun z hz => h z (List.mem_cons_of_mem _ hz))
    rw [List.map_cons, compL, e1, R.ok_nx, R.ok_bind, e2, R.ok_nx, R.ok_bind]
    cases hb : b y with
    | true =>
      rw [if_pos rfl, e3 hb, R.ok_nx, R.ok_bind, ih, R.ok_bind, List.filter_cons_of_pos hb]; rfl
    | false => rw [if_neg Bool.false_ne_true, ih, List.filter_cons_of_neg (by rw [hb]; exact Bool.false_ne_true)]
/-- without ifs -/
theorem compL_all {γ : Type} (enc : α → PD) {f : En → R PD} {ρ : En} (r : α → γ) (dec : γ → PD) (ys : List α)
    (h : ∀ y ∈ ys, ∃ ρ1, tgt (enc y) ρ = .ok ρ1 ∧ f ρ1 = .ok (dec (r y))) : compL tgt bYes f ρ (ys.map enc) = .ok ((ys.map r).map dec) := by
  rw [compL_map (p := bYes) enc (fun _ => true) r dec ys (fun y hy => let ⟨ρ1, a, b⟩ := h y hy; ⟨ρ1, a, rfl, fun _ => b⟩)]
  rw [List.filter_eq_self.mpr (fun _ _ => rfl)]
end
def intsP (ns : List Int) : List PD := ns.map PyData.int
def rng (lo : Int) (n : Nat) : List Int := (List.range n).map fun (i : Nat) => lo + (i : Int)
theorem rangeL_rng (lo : Int) (n : Nat) : rangeL lo n = (rng lo n).map PyData.int := by
  unfold rangeL rng
  rw [List.map_map]; rfl
theorem rng_len (lo : Int) (n : Nat) : (rng lo n).length = n := by simp [rng]
theorem mem_rng {lo : Int} {n : Nat} {i : Int} : i ∈ rng lo n ↔ lo ≤ i ∧ i < lo + n := by
  unfold rng
  rw [List.mem_map]
  constructor
  · rintro ⟨k, hk, rfl⟩
    have := List.mem_range.mp hk
    omega
  · rintro ⟨h1, h2⟩
    exact ⟨(i - lo).toNat, List.mem_range.mpr (by omega), by omega⟩
theorem rng_get {lo : Int} {n i : Nat} (h : i < n) : (rng lo n)[i]? = some (lo + (i : Int)) := by
  unfold rng
  rw [List.getElem?_map, List.getElem?_range h]; rfl
end DL
namespace DL
open PySem PySem.Spec L2
/-! ## readings with names in place of frames: what stands behind a statement is a function of the values -/
def sBrk : En → Fl := fun ρ => .bk ρ
def sCnt : En → Fl := fun ρ => .ct ρ
def sRtN : En → Fl := fun _ => .rt .none
def sExc (c : Str) : En → Fl := fun ρ => .ex c [] ρ

/-! ### targets -/
def tR {α : Type} (tgt : PD → En → R En) (z : α) (d : PD) (ρ : En) (F : En → α) : α := match tgt d ρ with
  | .ok ρ1 => F ρ1
  | _ => z
def un2 {α : Type} (z : α) (d : PD) (k : PD → PD → α) : α := match d with
  | .tuple [a, b] => k a b
  | .list [a, b] => k a b
  | _ => z
def un3 {α : Type} (z : α) (d : PD) (k : PD → PD → PD → α) : α := match d with
  | .tuple [a, b, c] => k a b c
  | .list [a, b, c] => k a b c
  | _ => z
def un4 {α : Type} (z : α) (d : PD) (k : PD → PD → PD → PD → α) : α := match d with
  | .tuple [a, b, c, e] => k a b c e
  | .list [a, b, c, e] => k a b c e
  | _ => z
section
variable {α : Type} {z : α} {a b c e : PD} {d : PD} {ρ : En} {F : En → α} {t1 t2 t3 t4 : PD → En → R En} {i : Nat}
@[simp] theorem un2_t (k : PD → PD → α) : un2 z (.tuple [a, b]) k = k a b := rfl
@[simp] theorem un3_t (k : PD → PD → PD → α) : un3 z (.tuple [a, b, c]) k = k a b c := rfl
@[simp] theorem un4_t (k : PD → PD → PD → PD → α) : un4 z (.tuple [a, b, c, e]) k = k a b c e := rfl
@[simp] theorem un2_l (k : PD → PD → α) : un2 z (.list [a, b]) k = k a b := rfl
@[simp] theorem un3_l (k : PD → PD → PD → α) : un3 z (.list [a, b, c]) k = k a b c := rfl
theorem tR_n : tR (gN i) z d ρ F = F (ρ.set i (.va d)) := rfl
theorem tR_2 : tR (gT 2 (gC t1 (gC t2 gZ))) z d ρ F = un2 z d fun a b => tR t1 z a ρ fun ρ1 => tR t2 z b ρ1 F := by
  simp only [tR, gT, gC, gZ, un2]
  rcases d with _|_|_|_|ds|ds|_ <;> try rfl
  all_goals
    rcases ds with _|⟨a, _|⟨b, _|⟨c, ds⟩⟩⟩ <;> try rfl
    · show (match (match t1 a ρ with | .ok ρ' => (match t2 b ρ' with | .ok ρ' => R.ok ρ' | _ => R.bad) | _ => R.bad) with | .ok ρ1 => F ρ1 | _ => z) = (match t1 a ρ with | .ok ρ1 => (match t2 b ρ1 with | .ok ρ2 => F ρ2 | _ => z) | _ => z)
      cases h1 : t1 a ρ with
      | ok ρ1 => cases h2 : t2 b ρ1 <;> simp [h2]
      | ex c pl => rfl
      | bad => rfl
theorem tR_3 : tR (gT 3 (gC t1 (gC t2 (gC t3 gZ)))) z d ρ F = un3 z d fun a b c => tR t1 z a ρ fun ρ1 => tR t2 z b ρ1 fun ρ2 => tR t3 z c ρ2 F := by
  simp only [tR, gT, gC, gZ, un3]
  rcases d with _|_|_|_|ds|ds|_ <;> try rfl
  all_goals
    rcases ds with _|⟨a, _|⟨b, _|⟨c, _|⟨e, ds⟩⟩⟩⟩ <;> try rfl
    · show (match (match t1 a ρ with | .ok ρ' => (match t2 b ρ' with | .ok ρ' => (match t3 c ρ' with | .ok ρ' => R.ok ρ' | _ => R.bad) | _ => R.bad) | _ => R.bad) with | .ok ρ1 => F ρ1 | _ => z) = (match t1 a ρ with | .ok ρ1 => (match t2 b ρ1 with | .ok ρ2 => (match t3 c ρ2 with | .ok ρ3 => F ρ3 | _ => z) | _ => z) | _ => z)
      cases h1 : t1 a ρ with
      | ok ρ1 =>
        cases h2 : t2 b ρ1 with
        | ok ρ2 => cases h3 : t3 c ρ2 <;> simp [h1, h2, h3]
        | ex c pl => simp [h1, h2]
        | bad => simp [h1, h2]
      | ex c pl => simp [h1]
      | bad => simp [h1]
theorem tR_4 : tR (gT 4 (gC t1 (gC t2 (gC t3 (gC t4 gZ))))) z d ρ F = un4 z d fun a b c e => tR t1 z a ρ fun ρ1 => tR t2 z b ρ1 fun ρ2 => tR t3 z c ρ2 fun ρ3 => tR t4 z e ρ3 F := by
  simp only [tR, gT, gC, gZ, un4]
  rcases d with _|_|_|_|ds|ds|_ <;> try rfl
  all_goals
    rcases ds with _|⟨a, _|⟨b, _|⟨c, _|⟨e, _|⟨e', ds⟩⟩⟩⟩⟩ <;> try rfl
    · show (match (match t1 a ρ with | .ok ρ' => (match t2 b ρ' with | .ok ρ' => (match t3 c ρ' with | .ok ρ' => (match t4 e ρ' with | .ok ρ' => R.ok ρ' | _ => R.bad) | _ => R.bad) | _ => R.bad) | _ => R.bad) with | .ok ρ1 => F ρ1 | _ => z) = (match t1 a ρ with | .ok ρ1 => (match t2 b ρ1 with | .ok ρ2 => (match t3 c ρ2 with | .ok ρ3 => (match t4 e ρ3 with | .ok ρ4 => F ρ4 | _ => z) | _ => z) | _ => z) | _ => z)
      cases h1 : t1 a ρ with
      | ok ρ1 =>
        cases h2 : t2 b ρ1 with
        | ok ρ2 =>
          cases h3 : t3 c ρ2 with
          | ok ρ3 => cases h4 : t4 e ρ3 <;> simp [h1, h2, h3, h4]
          | ex c pl => simp [h1, h2, h3]
          | bad => simp [h1, h2, h3]
        | ex c pl => simp [h1, h2]
        | bad => simp [h1, h2]
      | ex c pl => simp [h1]
      | bad => simp [h1]
end
/-- a target's shape, whatever stands behind -/
abbrev TgK := (β : Type) → β → PD → En → (En → β) → β
def TgEq (tgt : PD → En → R En) (k : TgK) : Prop := ∀ (β : Type) (z : β) (d : PD) (ρ : En) (F : En → β), tR tgt z d ρ F = k β z d ρ F
def kN (i : Nat) : TgK := fun _ _ d ρ F => F (ρ.set i (.va d))
def k2 (a b : TgK) : TgK := fun β z d ρ F => un2 z d fun x y => a β z x ρ fun ρ1 => b β z y ρ1 F
def k3 (a b c : TgK) : TgK := fun β z d ρ F => un3 z d fun x y u => a β z x ρ fun ρ1 => b β z y ρ1 fun ρ2 => c β z u ρ2 F
def k4 (a b c e : TgK) : TgK := fun β z d ρ F => un4 z d fun x y u v => a β z x ρ fun ρ1 => b β z y ρ1 fun ρ2 => c β z u ρ2 fun ρ3 => e β z v ρ3 F
theorem tge_n {i : Nat} : TgEq (gN i) (kN i) := fun _ _ _ _ _ => rfl
theorem tge_2 {a b : PD → En → R En} {x y : TgK} (h1 : TgEq a x) (h2 : TgEq b y) : TgEq (gT 2 (gC a (gC b gZ))) (k2 x y) := fun β z d ρ F => by
  rw [tR_2]
  show _ = un2 z d fun a b => x β z a ρ fun ρ1 => y β z b ρ1 F
  simp only [h1 β, h2 β]
theorem tge_3 {a b c : PD → En → R En} {x y u : TgK} (h1 : TgEq a x) (h2 : TgEq b y) (h3 : TgEq c u) : TgEq (gT 3 (gC a (gC b (gC c gZ)))) (k3 x y u) := fun β z d ρ F => by
  rw [tR_3]
  show _ = un3 z d fun a b c => x β z a ρ fun ρ1 => y β z b ρ1 fun ρ2 => u β z c ρ2 F
  simp only [h1 β, h2 β, h3 β]
theorem tge_4 {a b c e : PD → En → R En} {x y u v : TgK} (h1 : TgEq a x) (h2 : TgEq b y) (h3 : TgEq c u) (h4 : TgEq e v) : TgEq (gT 4 (gC a (gC b (gC c (gC e gZ))))) (k4 x y u v) := fun β z d ρ F => by
  rw [tR_4]
  show _ = un4 z d fun a b c e => x β z a ρ fun ρ1 => y β z b ρ1 fun ρ2 => u β z c ρ2 fun ρ3 => v β z e ρ3 F
  simp only [h1 β, h2 β, h3 β, h4 β]

/-! ### comprehensions -/
def compP (q : PD → R (Option PD)) : List PD → R (List PD)
  | [] => .ok []
  | x :: xs => (q x).bind fun o => match o with
    | some d => (compP q xs).bind fun r => .ok (d :: r)
    | none => compP q xs
def lcP (items : List PD) (q : PD → R (Option PD)) : R (List PD) := chk (decide (items.length ≤ big)) (compP q items)
def R.sm (r : R PD) : R (Option PD) := r.nx.bind fun x => .ok (some x)
def R.whn (r : R Bool) (k : R (Option PD)) : R (Option PD) := r.nx.bind fun b => if b = true then k else .ok none
@[simp] theorem R.ok_sm (d : PD) : (R.ok d).sm = .ok (some d) := rfl
@[simp] theorem R.t_whn (k : R (Option PD)) : (R.ok true).whn k = k := rfl
@[simp] theorem R.f_whn (k : R (Option PD)) : (R.ok false).whn k = .ok none := rfl
theorem R.ok_whn (b : Bool) (k : R (Option PD)) : (R.ok b).whn k = if b = true then k else .ok none := rfl
def cLcK (own : List Nat) (src : En → R (List PD)) (tgt : TgK) (p : En → R Bool) (f : En → R PD) : En → R (List PD) := fun ρ => (src ρ).bind fun items => lcP items fun d => tgt _ .bad d (wipeE ρ own) fun ρ1 => (p ρ1).whn (f ρ1).sm
theorem compL_P (tgt : PD → En → R En) (k : TgK) (h : TgEq tgt k) (p : En → R Bool) (f : En → R PD) (ρ : En) : ∀ items, compL tgt p f ρ items = compP (fun d => k _ .bad d ρ fun ρ1 => (p ρ1).whn (f ρ1).sm) items
  | [] => rfl
  | x :: xs => by
    rw [compL, compP, compL_P tgt k h p f ρ xs, ← h (R (Option PD)) .bad x ρ]
    unfold tR
    cases tgt x ρ with
    | ok ρ1 =>
      simp only [R.ok_nx, R.ok_bind, R.whn, R.sm]
      cases p ρ1 with
      | ok b =>
        cases b with
        | true => cases f ρ1 <;> simp
        | false => simp
      | ex c pl => rfl
      | bad => rfl
    | ex c pl => rfl
    | bad => rfl
theorem cLc_K {own : List Nat} {src : En → R (List PD)} {tgt : PD → En → R En} {k : TgK} {p : En → R Bool} {f : En → R PD} (h : TgEq tgt k) : cLc own src tgt p f = cLcK own src k p f := by
  funext ρ
  unfold cLc cLcK lcP
  simp only [compL_P tgt k h]
theorem df_K {X : Cx} {W : WX} {e : Expr} {f g : En → R (List PD)} (h : f = g) (a : DF X W e f) : DF X W e g := h ▸ a
theorem ds_K {X : Cx} {W : WX} {e : Stmt} {f g : En → Fl} (h : f = g) (a : DS X W e f) : DS X W e g := h ▸ a

/-! ### what becomes of a statement's end -/
structure Kt (α : Type) where
  k : Fl → R α
  ret : PD → R α
  hrt : ∀ d, k (.rt d) = ret d
  hex : ∀ c pl ρ, k (.ex c pl ρ) = .ex c pl
  hbad : k .bad = .bad
def Kt.top : Kt PD := ⟨fin, .ok, fun _ => rfl, fun _ _ _ => rfl, rfl⟩
def Kt.seq {α : Type} (K : Kt α) (h : En → Fl) : Kt α := ⟨fun o => match o with
  | .nx ρ => K.k (h ρ)
  | .rt d => K.ret d
  | .bk ρ => K.k (.bk ρ)
  | .ct ρ => K.k (.ct ρ)
  | .ex c pl _ => .ex c pl
  | .bad => .bad, K.ret, fun _ => rfl, fun _ _ _ => rfl, rfl⟩
def Kt.loop {α : Type} (K : Kt α) (go : En → Fl) : Kt α := ⟨fun o => match o with
  | .nx ρ => K.k (go ρ)
  | .ct ρ => K.k (go ρ)
  | .rt d => K.ret d
  | .bk ρ => K.k (.nx ρ)
  | .ex c pl _ => .ex c pl
  | .bad => .bad, K.ret, fun _ => rfl, fun _ _ _ => rfl, rfl⟩
theorem R.bind_ok {α : Type} (r : R α) : r.bind R.ok = r := by cases r <;> rfl
section
variable {α β : Type} {K : Kt α} {g h : En → Fl} {ρ : En} {P A B : R α} {i : Nat} {f : En → R PD} {fs : En → R (List PD)} {a : PD} {l : List PD} {e : R PD} {el : R (List PD)} {c : En → R Bool} {eb : R Bool}
theorem k_toS (r : R β) (k : β → Fl) : K.k (toS ρ r k) = r.bind fun a => K.k (k a) := by
  cases r with
  | ok a => rfl
  | ex c pl => exact K.hex c pl ρ
  | bad => exact K.hbad
theorem q_seq (e : (K.seq h).k (g ρ) = P) : K.k (sSeq g h ρ) = P := by
  rw [← e]
  unfold sSeq Kt.seq
  cases g ρ with
  | nx _ => rfl
  | rt d => exact K.hrt d
  | bk _ => rfl
  | ct _ => rfl
  | ex c pl ρ => exact K.hex c pl ρ
  | bad => exact K.hbad
theorem bind_congr {γ : Type} {r : R β} {p q : β → R γ} (h : ∀ a, p a = q a) : r.bind p = r.bind q := by rw [funext h]
theorem q_setB {p : PD → R α} (e1 : f ρ = e) (h : ∀ a, K.k (.nx (ρ.set i (.va a))) = p a) : K.k (sSet i f ρ) = e.bind p := by
  unfold sSet; rw [k_toS, e1]; exact bind_congr h
theorem q_set (a : PD) (e1 : f ρ = .ok a) (h : K.k (.nx (ρ.set i (.va a))) = P) : K.k (sSet i f ρ) = P := by
  unfold sSet; rw [k_toS, e1]; exact h
theorem q_setLB {p : List PD → R α} (e1 : fs ρ = el) (h : ∀ a, K.k (.nx (ρ.set i (.ol a))) = p a) : K.k (sSetL i fs ρ) = el.bind p := by
  unfold sSetL; rw [k_toS, e1]; exact bind_congr h
theorem q_setL (a : List PD) (e1 : fs ρ = .ok a) (h : K.k (.nx (ρ.set i (.ol a))) = P) : K.k (sSetL i fs ρ) = P := by
  unfold sSetL; rw [k_toS, e1]; exact h
theorem q_drop (e1 : f ρ = e) (h : K.k (.nx ρ) = P) : K.k (sDrop f ρ) = e.bind fun _ => P := by
  unfold sDrop; rw [k_toS, e1]; exact bind_congr fun _ => h
theorem q_ret (hr : K.ret = fun d => A) (e1 : f ρ = .ok a) : True := trivial
theorem q_retT {K : Kt PD} (hr : K.ret = .ok) (e1 : f ρ = e) : K.k (sRet f ρ) = e := by
  unfold sRet; rw [k_toS, e1]
  have : (fun a => K.k (.rt a)) = .ok := by funext a; rw [K.hrt, hr]
  rw [this, R.bind_ok]
theorem q_retS {K : Kt (Option PD)} (hr : K.ret = fun d => .ok (some d)) (e1 : f ρ = e) : K.k (sRet f ρ) = e.bind fun d => .ok (some d) := by
  unfold sRet; rw [k_toS, e1]
  refine bind_congr fun a => ?_
  rw [K.hrt, hr]
theorem q_rtnT {K : Kt PD} (hr : K.ret = .ok) : K.k (sRtN ρ) = .ok .none := by
  show K.k (.rt .none) = _
  rw [K.hrt, hr]
theorem q_exc (x : Str) : K.k (sExc x ρ) = .ex x [] := K.hex x [] ρ
theorem q_if (e1 : c ρ = eb) (h1 : K.k (g ρ) = A) (h2 : K.k (h ρ) = B) : K.k (sIf c g h ρ) = eb.bind fun b => if b = true then A else B := by
  unfold sIf; rw [k_toS, e1]
  refine bind_congr fun b => ?_
  cases b with
  | true => exact h1
  | false => exact h2
theorem q_frz (h : K.k (g (frz i ρ)) = P) : K.k (sFrz i g ρ) = P := h
def appK {α : Type} (l : List PD) (d : PD) (k : List PD → R α) : R α := if l.length < big then k (l ++ [d]) else .bad
def extK {α : Type} (l : List PD) (d : PD) (k : List PD → R α) : R α := match d with
  | .list es => if l.length + es.length ≤ big then k (l ++ es) else .bad
  | _ => .bad
def setK {α : Type} (l : List PD) (d j : PD) (k : List PD → R α) : R α := match j with
  | .int n => match ixN l.length n with
    | some m => k (l.set m d)
    | none => .bad
  | _ => .bad
theorem appK_lt {l : List PD} {d : PD} {k : List PD → R α} (h : l.length < big) : appK l d k = k (l ++ [d]) := if_pos h
theorem q_appB {p : PD → List PD → R α} (hl : ρ[i]? = some (.ol l)) (e1 : f ρ = e) (h : ∀ d l', K.k (.nx (ρ.set i (.ol l'))) = p d l') : K.k (sApp i f ρ) = e.bind fun d => appK l d (p d) := by
  unfold sApp; rw [hl]
  show K.k (toS ρ (f ρ) fun d => if l.length < big then .nx (ρ.set i (.ol (l ++ [d]))) else .bad) = _
  rw [k_toS, e1]
  refine bind_congr fun d => ?_
  unfold appK
  split
  · exact h d _
  · exact K.hbad
theorem q_app {p : List PD → R α} (hl : ρ[i]? = some (.ol l)) (e1 : f ρ = .ok a) (h : ∀ l', K.k (.nx (ρ.set i (.ol l'))) = p l') : K.k (sApp i f ρ) = appK l a p := by
  have := q_appB (K := K) (p := fun _ => p) hl e1 fun _ => h
  exact this
theorem q_ext {p : List PD → R α} (hl : ρ[i]? = some (.ol l)) (e1 : f ρ = e) (h : ∀ l', K.k (.nx (ρ.set i (.ol l'))) = p l') : K.k (sExt i f ρ) = e.bind fun d => extK l d p := by
  unfold sExt; rw [hl]
  show K.k (toS ρ (f ρ) _) = _
  rw [k_toS, e1]
  refine bind_congr fun d => ?_
  unfold extK
  cases d with
  | list es => show K.k (if _ then _ else _) = if _ then _ else _; split; exact h _; exact K.hbad
  | _ => exact K.hbad
theorem q_setI {p : List PD → R α} {f2 : En → R PD} {e2 : R PD} (hl : ρ[i]? = some (.ol l)) (h1 : f ρ = e) (h2 : f2 ρ = e2) (h : ∀ l', K.k (.nx (ρ.set i (.ol l'))) = p l') : K.k (sSetI i f f2 ρ) = e.bind fun d => e2.bind fun j => setK l d j p := by
  unfold sSetI; rw [hl]
  show K.k (toS ρ (f ρ) _) = _
  rw [k_toS, h1]
  refine bind_congr fun d => ?_
  show K.k (toS ρ (f2 ρ) _) = _
  rw [k_toS, h2]
  refine bind_congr fun j => ?_
  unfold setK
  cases j with
  | int n =>
    show K.k (match ixN l.length n with | some m => .nx (ρ.set i (.ol (l.set m d))) | none => .bad) = match ixN l.length n with | some m => p (l.set m d) | none => .bad
    cases ixN l.length n with
    | some m => exact h _
    | none => exact K.hbad
  | _ => exact K.hbad
theorem q_aug {F : PD → PD → R PD} {p : PD → R α} {d : PD} (hv : ρ[i]? = some (.va d)) (e1 : f ρ = e) (h : ∀ z, K.k (.nx (ρ.set i (.va z))) = p z) : K.k (sAug i F f ρ) = (e.bind fun x => F d x).bind p := by
  unfold sAug; rw [hv]
  show K.k (toS ρ (f ρ) _) = _
  rw [k_toS, e1, R.bind_assoc]
  refine bind_congr fun x => ?_
  show K.k (toS ρ (F d x) _) = _
  rw [k_toS]
  exact bind_congr h
theorem q_asg {tgt : PD → En → R En} {p : PD → R α} {k : TgK} (ht : TgEq tgt k) (e1 : f ρ = e) (h : ∀ d, k _ .bad d ρ (fun ρ1 => K.k (.nx ρ1)) = p d) : K.k (sAsg f tgt ρ) = e.bind p := by
  unfold sAsg; rw [k_toS, e1]
  refine bind_congr fun d => ?_
  rw [← h d, ← ht]
  unfold tR
  cases tgt d ρ with
  | ok ρ1 => rfl
  | ex c pl => exact K.hbad
  | bad => exact K.hbad
theorem q_par {f2 : En → R PD} {e2 : R PD} {j : Nat} {p : PD → PD → R α} (h1 : f ρ = e) (h2 : f2 ρ = e2) (h : ∀ a b, K.k (.nx ((ρ.set i (.va a)).set j (.va b))) = p a b) : K.k (sPar i j f f2 ρ) = e.bind fun a => e2.bind fun b => p a b := by
  unfold sPar; rw [k_toS, h1]
  refine bind_congr fun a => ?_
  show K.k (toS ρ (f2 ρ) _) = _
  rw [k_toS, h2]
  exact bind_congr (h a)
theorem q_par3 {f2 f3 : En → R PD} {e2 e3 : R PD} {j m : Nat} {p : PD → PD → PD → R α} (h1 : f ρ = e) (h2 : f2 ρ = e2) (h3 : f3 ρ = e3) (h : ∀ a b c, K.k (.nx (((ρ.set i (.va a)).set j (.va b)).set m (.va c))) = p a b c) : K.k (sPar3 i j m f f2 f3 ρ) = e.bind fun a => e2.bind fun b => e3.bind fun c => p a b c := by
  unfold sPar3; rw [k_toS, h1]
  refine bind_congr fun a => ?_
  show K.k (toS ρ (f2 ρ) _) = _
  rw [k_toS, h2]
  refine bind_congr fun b => ?_
  show K.k (toS ρ (f3 ρ) _) = _
  rw [k_toS, h3]
  exact bind_congr (h a b)

/-! ### loops -/
def forK {S α : Type} (body : PD → S → (S → R α) → (S → R α) → R α) : List PD → S → (S → R α) → R α
  | [], s, k => k s
  | d :: ds, s, k => body d s (fun s' => forK body ds s' k) k
def whK {S α : Type} (c : S → R Bool) (body : S → (S → R α) → (S → R α) → R α) : Nat → S → (S → R α) → R α
  | 0, _, _ => .bad
  | n + 1, s, k => (c s).bind fun b => if b = true then body s (fun s' => whK c body n s' k) k else k s
variable {S : Type} {ret : PD → R α}
theorem for_sim (Fr : S → En → Prop) {tgt : PD → En → R En} {tk : TgK} {body : En → Fl} {bodyP : PD → S → (S → R α) → (S → R α) → R α} (ht : TgEq tgt tk)
    (hb : ∀ (K' : Kt α), K'.ret = ret → ∀ (d : PD) (s : S) (ρ : En) (next brk : S → R α), Fr s ρ → (∀ s' ρ', Fr s' ρ' → K'.k (.nx ρ') = next s') → (∀ s' ρ', Fr s' ρ' → K'.k (.ct ρ') = next s') → (∀ s' ρ', Fr s' ρ' → K'.k (.bk ρ') = brk s') →
      tk _ .bad d ρ (fun ρ1 => K'.k (body ρ1)) = bodyP d s next brk)
    (hr : K.ret = ret) {k : S → R α} (hk : ∀ s ρ, Fr s ρ → K.k (.nx ρ) = k s) : ∀ (items : List PD) (s : S) (ρ : En), Fr s ρ → K.k (forL tgt body items ρ) = forK bodyP items s k
  | [], s, ρ, h => hk s ρ h
  | d :: ds, s, ρ, h => by
    have ih := for_sim Fr ht hb hr hk ds
    have := hb (K.loop (forL tgt body ds)) hr d s ρ (fun s' => forK bodyP ds s' k) k h (fun s' ρ' hf => ih s' ρ' hf) (fun s' ρ' hf => ih s' ρ' hf) (fun s' ρ' hf => hk s' ρ' hf)
    rw [forK, ← this, ← ht, forL]
    unfold tR
    cases tgt d ρ with
    | ok ρ1 =>
      show K.k (match body ρ1 with | .nx ρ2 => forL tgt body ds ρ2 | .ct ρ2 => forL tgt body ds ρ2 | .bk ρ2 => .nx ρ2 | .rt d => .rt d | .ex c pl ρ2 => .ex c pl ρ2 | .bad => .bad) = (K.loop (forL tgt body ds)).k (body ρ1)
      cases body ρ1 with
      | nx _ => rfl
      | ct _ => rfl
      | bk _ => rfl
      | rt d => exact K.hrt d
      | ex c pl ρ2 => exact K.hex c pl ρ2
      | bad => exact K.hbad
    | ex c pl => exact K.hbad
    | bad => exact K.hbad
theorem q_for {src : En → R (List PD)} {tgt : PD → En → R En} {body : En → Fl} {p : List PD → R α} (e1 : src ρ = el) (h : ∀ items, K.k (forL tgt body items ρ) = p items) : K.k (sFor src tgt body ρ) = el.bind p := by
  unfold sFor; rw [k_toS, e1]; exact bind_congr h
theorem wh_sim (Fr : S → En → Prop) {p : En → R Bool} {body : En → Fl} {c : S → R Bool} {bodyP : S → (S → R α) → (S → R α) → R α}
    (hc : ∀ s ρ, Fr s ρ → p ρ = c s)
    (hb : ∀ (K' : Kt α), K'.ret = ret → ∀ (s : S) (ρ : En) (next brk : S → R α), Fr s ρ → (∀ s' ρ', Fr s' ρ' → K'.k (.nx ρ') = next s') → (∀ s' ρ', Fr s' ρ' → K'.k (.ct ρ') = next s') → (∀ s' ρ', Fr s' ρ' → K'.k (.bk ρ') = brk s') →
      K'.k (body ρ) = bodyP s next brk)
    (hr : K.ret = ret) {k : S → R α} (hk : ∀ s ρ, Fr s ρ → K.k (.nx ρ) = k s) : ∀ (n : Nat) (s : S) (ρ : En), Fr s ρ → K.k (whL p body n ρ) = whK c bodyP n s k
  | 0, s, ρ, h => K.hbad
  | n + 1, s, ρ, h => by
    have ih := wh_sim Fr hc hb hr hk n
    have := hb (K.loop (whL p body n)) hr s ρ (fun s' => whK c bodyP n s' k) k h (fun s' ρ' hf => ih s' ρ' hf) (fun s' ρ' hf => ih s' ρ' hf) (fun s' ρ' hf => hk s' ρ' hf)
    rw [whK, ← this, whL, k_toS, hc s ρ h]
    refine bind_congr fun b => ?_
    cases b with
    | false => exact hk s ρ h
    | true =>
      rw [if_pos rfl, if_pos rfl]
      cases body ρ with
      | nx _ => rfl
      | ct _ => rfl
      | bk _ => rfl
      | rt d => exact K.hrt d
      | ex c pl ρ2 => exact K.hex c pl ρ2
      | bad => exact K.hbad

/-! ### try -/
def hdK {α : Type} : List (Str × R α) → Str → List (Str × PD) → R α
  | [], c, pl => .ex c pl
  | (n, r) :: l, c, pl => if (c == n) = true then r else hdK l c pl
def tryK {α : Type} (cs : List Str) (b : R (Option PD)) (hs : List (Str × R α)) (ret : PD → R α) (aft : R α) : R α := match b with
  | .ok none => aft
  | .ok (some d) => ret d
  | .ex c pl => if cs.contains c = true then hdK hs c pl else .bad
  | .bad => .bad
/-- the handlers, whatever the frame -/
inductive HdK (K : Kt α) : List (Str × (En → Fl)) → List (Str × R α) → Prop
  | nil : HdK K [] []
  | cons {x : Str} {g : En → Fl} {r : R α} {l : List (Str × (En → Fl))} {l' : List (Str × R α)} (h : ∀ ρ, K.k (noEx (g ρ)) = r) (t : HdK K l l') : HdK K ((x, g) :: l) ((x, r) :: l')
theorem hdk_ok {hs : List (Str × (En → Fl))} {hs' : List (Str × R α)} (h : HdK K hs hs') : ∀ (c : Str) (pl : List (Str × PD)) (ρ : En), K.k (hdl hs c pl ρ) = hdK hs' c pl := by
  induction h with
  | nil => intro c pl ρ; exact K.hex c pl ρ
  | cons h t ih =>
    rename_i x g r l l'
    intro c pl ρ
    rw [hdl, hdK]
    by_cases hx : (c == x) = true
    · rw [if_pos hx, if_pos hx]; exact h ρ
    · rw [if_neg hx, if_neg hx]
      exact ih c pl ρ
theorem q_try {cs : List Str} {body : En → Fl} {hs : List (Str × (En → Fl))} {hs' : List (Str × R α)} {b : R (Option PD)} (Fr : En → Prop)
    (hB : ∀ K' : Kt (Option PD), (K'.ret = fun d => .ok (some d)) → (∀ ρ', Fr ρ' → K'.k (.nx ρ') = .ok none) → K'.k (body ρ) = b)
    (hN : ∀ ρ', Fr ρ' → K.k (.nx ρ') = P) (hH : HdK K hs hs') (hr : K.ret = ret) :
    K.k (sTry cs body hs ρ) = tryK cs b hs' ret P := by
  classical
  let K1 : R (Option PD) → Kt (Option PD) := fun z => ⟨fun o => match o with
    | .nx ρ' => if Fr ρ' then .ok none else z
    | .rt d => .ok (some d)
    | .ex c pl _ => .ex c pl
    | .bk _ => z
    | .ct _ => z
    | .bad => .bad, fun d => .ok (some d), fun _ => rfl, fun _ _ _ => rfl, rfl⟩
  have h1 := hB (K1 .bad) rfl (fun ρ' h => if_pos h)
  have h2 := hB (K1 (.ok none)) rfl (fun ρ' h => if_pos h)
  unfold sTry
  cases hb : body ρ with
  | nx ρ' =>
    rw [hb] at h1 h2
    by_cases hf : Fr ρ'
    · have : b = .ok none := h1.symm.trans (if_pos hf)
      rw [this]
      exact hN ρ' hf
    · have e1 : b = .bad := h1.symm.trans (if_neg hf)
      have e2 : b = .ok none := h2.symm.trans (if_neg hf)
      rw [e1] at e2; cases e2
  | rt d =>
    rw [hb] at h1
    have : b = .ok (some d) := h1.symm
    rw [this, ← hr]
    exact K.hrt d
  | ex c pl ρ' =>
    rw [hb] at h1
    have : b = .ex c pl := h1.symm
    rw [this]
    show K.k (if cs.contains c = true then hdl hs c pl ρ' else .bad) = if cs.contains c = true then hdK hs' c pl else .bad
    split
    · exact hdk_ok hH c pl ρ'
    · exact K.hbad
  | bk ρ' =>
    rw [hb] at h1 h2
    have e1 : b = .bad := h1.symm
    have e2 : b = .ok none := h2.symm
    rw [e1] at e2; cases e2
  | ct ρ' =>
    rw [hb] at h1 h2
    have e1 : b = .bad := h1.symm
    have e2 : b = .ok none := h2.symm
    rw [e1] at e2; cases e2
  | bad =>
    rw [hb] at h1
    have : b = .bad := h1.symm
    rw [this]
    exact K.hbad
theorem q_retSo {K : Kt (Option PD)} (hr : K.ret = fun d => .ok (some d)) (e1 : f ρ = .ok a) : K.k (sRet f ρ) = .ok (some a) := q_retS hr e1
theorem q_nx (ρ' : En) (e : ρ = ρ') (p : K.k (h ρ') = P) : (K.seq h).k (.nx ρ) = P := by subst e; exact p
theorem q_at (ρ' : En) (e : ρ = ρ') (p : K.k (h ρ') = P) : K.k (h ρ) = P := by subst e; exact p
theorem q_ifo {b : Bool} (e1 : c ρ = .ok b) (h1 : K.k (g ρ) = A) (h2 : K.k (h ρ) = B) : K.k (sIf c g h ρ) = if b = true then A else B := q_if e1 h1 h2
theorem q_foro {src : En → R (List PD)} {tgt : PD → En → R En} {body : En → Fl} (items : List PD) (e1 : src ρ = .ok items) (h : K.k (forL tgt body items ρ) = P) : K.k (sFor src tgt body ρ) = P := by
  unfold sFor; rw [k_toS, e1]; exact h
theorem q_dropo (e1 : f ρ = .ok a) (h : K.k (.nx ρ) = P) : K.k (sDrop f ρ) = P := by
  unfold sDrop; rw [k_toS, e1]; exact h
theorem q_kN {γ : Type} {z : γ} {d : PD} {F : En → γ} {Q : γ} (h : F (ρ.set i (.va d)) = Q) : kN i γ z d ρ F = Q := h
theorem q_k2 {γ : Type} {z : γ} {d : PD} {F : En → γ} {x y : TgK} {p : PD → PD → γ} (h : ∀ a b, x γ z a ρ (fun ρ1 => y γ z b ρ1 F) = p a b) : k2 x y γ z d ρ F = un2 z d p := by
  have : (fun a b => x γ z a ρ (fun ρ1 => y γ z b ρ1 F)) = p := by funext a b; exact h a b
  rw [← this]; rfl
theorem q_k3 {γ : Type} {z : γ} {d : PD} {F : En → γ} {x y u : TgK} {p : PD → PD → PD → γ} (h : ∀ a b c, x γ z a ρ (fun ρ1 => y γ z b ρ1 fun ρ2 => u γ z c ρ2 F) = p a b c) : k3 x y u γ z d ρ F = un3 z d p := by
  have : (fun a b c => x γ z a ρ (fun ρ1 => y γ z b ρ1 fun ρ2 => u γ z c ρ2 F)) = p := by funext a b c; exact h a b c
  rw [← this]; rfl
theorem q_k4 {γ : Type} {z : γ} {d : PD} {F : En → γ} {x y u v : TgK} {p : PD → PD → PD → PD → γ} (h : ∀ a b c e, x γ z a ρ (fun ρ1 => y γ z b ρ1 fun ρ2 => u γ z c ρ2 fun ρ3 => v γ z e ρ3 F) = p a b c e) : k4 x y u v γ z d ρ F = un4 z d p := by
  have : (fun a b c e => x γ z a ρ (fun ρ1 => y γ z b ρ1 fun ρ2 => u γ z c ρ2 fun ρ3 => v γ z e ρ3 F)) = p := by funext a b c e; exact h a b c e
  rw [← this]; rfl
theorem q_asgo {tgt : PD → En → R En} {k : TgK} (d : PD) (ht : TgEq tgt k) (e1 : f ρ = .ok d) (h : k _ .bad d ρ (fun ρ1 => K.k (.nx ρ1)) = P) : K.k (sAsg f tgt ρ) = P := by
  have := q_asg (K := K) (p := fun _ => P) ht (e := .ok d) e1
  unfold sAsg; rw [k_toS, e1, ← h, ← ht]
  unfold tR
  show K.k (match tgt d ρ with | .ok ρ' => .nx ρ' | _ => .bad) = _
  cases tgt d ρ with
  | ok ρ1 => rfl
  | ex c pl => exact K.hbad
  | bad => exact K.hbad
theorem q_paro {f2 : En → R PD} {j : Nat} (a b : PD) (h1 : f ρ = .ok a) (h2 : f2 ρ = .ok b) (h : K.k (.nx ((ρ.set i (.va a)).set j (.va b))) = P) : K.k (sPar i j f f2 ρ) = P := by
  unfold sPar; rw [k_toS, h1]
  show K.k (toS ρ (f2 ρ) _) = _
  rw [k_toS, h2]; exact h
theorem q_augo {F : PD → PD → R PD} {p : PD → R α} {d : PD} (x : PD) (hv : ρ[i]? = some (.va d)) (e1 : f ρ = .ok x) (h : ∀ z, K.k (.nx (ρ.set i (.va z))) = p z) : K.k (sAug i F f ρ) = (F d x).bind p := q_aug hv e1 h
theorem q_bk (p : K.k (.bk ρ) = P) : (K.seq h).k (.bk ρ) = P := p
theorem q_ct (p : K.k (.ct ρ) = P) : (K.seq h).k (.ct ρ) = P := p
theorem K_rt {r : PD → R α} {d : PD} (hr : K.ret = r) : K.k (.rt d) = r d := by rw [K.hrt, hr]
/-- `oS`'s and the others' unnamed parts -/
def optI (d : PD) : R (Option Int) := match d with
  | .int i => .ok (some i)
  | _ => .bad
def mtL (F : List PD → List PD → R PD) (d : PD) (es : R (List PD)) : R PD := match d with
  | .list ds => es.bind fun es => F ds es
  | _ => .bad
def enmL (d : PD) : R (List PD) := (itD d).bind fun ds => .ok (enumL 0 ds)
def rgLst (d : Int × Int) : R (List PD) := chk (rgOk d) (.ok (rangeL d.1 (d.2 - d.1).toNat))
def rgTup (d : Int × Int) : R PD := chk (rgOk d) (.ok (.tuple (rangeL d.1 (d.2 - d.1).toNat)))
def repD (ds : List PD) (d : PD) : R (List PD) := match d with
  | .int k => chk (decide (-1000000 ≤ k ∧ k ≤ 1000000 ∧ ds.length * k.toNat ≤ big)) (.ok (repL k.toNat ds))
  | _ => .bad
@[simp] theorem optI_i (i : Int) : optI (.int i) = .ok (some i) := rfl
end
end DL
namespace DL
open PySem PySem.Spec L2
/-! ### a call without arguments -/
section
variable {X : Cx} {W : WX} {k : Nat} {f : Addr} {fd : FuncData} {ps : List Str} {F : List PD → R PD} {x : Str} {p pos : Pos}
theorem pe_callS0 {sp : Sp} {E : L2.St → XK} {CX : CXT} (F : FnOk X.prog X.w X.K X.mg X.base CX k f fd ps sp) (hr : Room k X.A) (hg : Gl X x) (hm : X.mg x = some (.ref f)) (hk : PySem.W.keepIn X.K (.ref f) = true) (hb : Binds X.K fd ps []) (hx : ∀ σ, PassesAt CX X σ (E σ))
    (hdb : (x == ("__debug__" : Str)) = false := by decide) : PE X (.Call (.Name x p) [] [] pos) (tCallS sp E tNil) := by
  refine ⟨fun pins s σ H Q I h => ?_⟩
  refine wpAny_Call_Name_kw (ld_glob I hg hm ?_ hdb)
  exact PySem.W.callWith_K0 I.kIn hk (run_fnS (us := []) F hr hb (hx σ) I .nil h)
theorem de_cl0 (G : FnD X.prog X.w X.K X.mg X.base k f fd ps F) (hr : Room k X.A) (hg : Gl X x) (hm : X.mg x = some (.ref f)) (hk : PySem.W.keepIn X.K (.ref f) = true) (hb : Binds X.K fd ps []) (tk : Takes X W)
    (hn : ps.length = 0 := by rfl) (hdb : (x == ("__debug__" : Str)) = false := by decide) : DE X W (.Call (.Name x p) [] [] pos) (cCall 0 F cNil) := by
  refine ⟨_, pe_callS0 (E := WE W) G hr hg hm hk hb (fun σ => passAt tk σ) hdb, fun H0 O0 O ρ σ H Q rl o => ?_⟩
  refine ⟨O, [], rl.al, hn.symm, .nil, ?_⟩
  have o : OutP X W O σ H (F []) _ := o
  cases q : F [] with
  | ok d => rw [q] at o; exact fun v H' e' hd => o H' e' v hd
  | ex c pl => rw [q] at o; exact fun cls dx H' e' i => o cls dx H' e' i
  | bad => rw [q] at o; exact o.elim
end

/-! ### a, b = [..], y -/
def sParL (i j : Nat) (f : En → R (List PD)) (g : En → R PD) : En → Fl := fun ρ => toS ρ (f ρ) fun ds => toS ρ (g ρ) fun d' => .nx ((ρ.set i (.ol ds)).set j (.va d'))
section
variable {K : PySem.W.Frag} {H0 H : Hp} {O0 O : Addr → Prop} {ρ : En} {σ : L2.St} {p : Addr} {o : HO}
/-- a new own thing that no slot holds yet -/
theorem Rel.addO (h : Rel K H0 O0 O H ρ σ) (n : H p = none) : Rel K H0 O0 (fun q => O q ∨ q = p) (upd H p o) ρ σ := by
  refine ⟨h.fr.trans (Same.updNew n), fun q z => .inl (h.sub q z), fun q z => ?_, fun q z => ?_, h.len, fun j s q => ?_, h.dj⟩
  · rcases z with z | rfl
    · exact h.nw q z
    · exact .inr (h.fr.free n)
  · by_cases hq : q = p
    · subst hq; rw [upd_same]; exact fun y => nomatch y
    · rw [upd_ne hq]; exact h.al q (z.resolve_right hq)
  · refine (h.sl j s q).move (wo_add n) fun r hr hO hn => .inl ⟨.inl hO, ?_⟩
    rw [upd_ne (fun z => hn (by rw [z]; exact n))]
/-- .. and now one does -/
theorem Rel.setOwn {ds : List PD} {vs : List V} (h : Rel K H0 O0 O H ρ σ) (i : Nat) (hO : O p) (n0 : ¬ O0 p) (hp : H p = some (.lst vs)) (hd : DqAll K (wo H O) vs ds) (hno : ∀ (j : Nat) (s : Sl), ρ[j]? = some s → Sl.own s = true → σ[j]? ≠ some (some (.ref p))) :
    Rel K H0 O0 O H (ρ.set i (.ol ds)) (σ.set i (some (.ref p))) := by
  refine ⟨h.fr, h.sub, h.nw, h.al, by simp [h.len], fun j s q => ?_, fun j l s s2 q hjl g g' ns ns' e e' => ?_⟩
  · rcases get_set q with ⟨rfl, rfl, hi⟩ | ⟨hj, q⟩
    · rw [List.getElem?_set_self (by rw [← h.len]; exact hi)]; exact ⟨p, vs, rfl, hO, n0, hp, hd⟩
    · rw [List.getElem?_set_ne (Ne.symm hj)]; exact h.sl j s q
  · rcases get_set g with ⟨rfl, rfl, hi⟩ | ⟨hj, k1⟩
    · rcases get_set g' with ⟨rfl, rfl, hl⟩ | ⟨hl, k2⟩
      · exact hjl rfl
      · rw [List.getElem?_set_self (by rw [← h.len]; exact hi)] at e
        rw [List.getElem?_set_ne (Ne.symm hl)] at e'
        cases e
        exact hno l s2 k2 ns' e'
    · rw [List.getElem?_set_ne (Ne.symm hj)] at e
      rcases get_set g' with ⟨rfl, rfl, hl⟩ | ⟨hl, k2⟩
      · rw [List.getElem?_set_self (by rw [← h.len]; exact hl)] at e'
        cases e'
        exact hno j s k1 ns e
      · rw [List.getElem?_set_ne (Ne.symm hl)] at e'
        exact h.dj j l s s2 q hjl k1 k2 ns ns' e e'
end
section
variable {X : Cx} {W : WX} {x y : Str} {i j : Nat} {a b : Expr} {fl : En → R (List PD)} {g : En → R PD} {px py pt pos : Pos} {kt k2 : Nat} {pt2 : Pos}
theorem ds_parL (hc : X.calm = true) (hN : X.N.Nodup) (hi : X.N[i]? = some x) (hj : X.N[j]? = some y) (hij : i ≠ j)
    (hx : X.env.scope.names.lookup x = some .local) (hy : X.env.scope.names.lookup y = some .local) (ha : DF X W a fl) (hb : DE X W b g)
    (hw : swappedStores [.Tuple [.Name x px, .Name y py] kt pt] (.Tuple [a, b] k2 pt2) X.env = pure (some [x, y]))
    (hs : swapsWithSole [.Tuple [.Name x px, .Name y py] kt pt] (.Tuple [a, b] k2 pt2) pos.line X.env = pure false := by rfl)
    (h1 : starEach [a, b] X.env = (false, eval a X.env) :: starEach [b] X.env := by rfl) (h2 : starEach [b] X.env = (false, eval b X.env) :: starEach [] X.env := by rfl) :
    DS X W (.Assign [.Tuple [.Name x px, .Name y py] kt pt] (.Tuple [a, b] k2 pt2) pos) (sParL i j fl g) := by
  obtain ⟨t, pt, qt⟩ := ha.ex
  obtain ⟨u, pu, qu⟩ := hb.ex
  refine ⟨_, ps_par hc hN hi hj hij hx hy (pa_cons pt (pa_cons pu pa_nil h2) h1) hw hs, fun H0 O0 O ρ σ H D rl o => ?_⟩
  refine qt H0 O0 O ρ σ H _ rl ((OutS.ofR rl o).imp fun ds H1 e1 o1 p vs H2 np hv e2 => ?_)
  subst e2
  have r1 := rl.grow e1
  have n0 : ¬ O0 p := fun z => r1.al p (r1.sub p z) np
  have nO : ¬ O p := r1.fresh np
  have r2 := r1.addO (o := .lst vs) np
  have hno : ∀ (j : Nat) (s : Sl), ρ[j]? = some s → Sl.own s = true → σ[j]? ≠ some (some (.ref p)) := fun j s q ns e => by
    obtain ⟨r, e1, _, _, e2⟩ := (r1.sl j s q).own_at ns
    rw [e] at e1; cases e1
    exact e2 np
  refine qu H0 O0 _ ρ σ _ _ r2 ((OutS.ofR r2 o1).imp fun d' H3 e3 o3 v' hv' => ?_)
  have r3 := r2.grow e3
  have hp : H3 p = some (.lst vs) := e3 _ _ upd_same
  have r4 := r3.setOwn i (.inr rfl) n0 hp ((hv.mono (wo_add np)).mono (same_wo e3)) hno
  exact ⟨_, v', rfl, o3 _ H3 _ (r4.setV hv' j)⟩
theorem q_parL {α : Type} {K : Kt α} {ρ : En} {f : En → R (List PD)} {f2 : En → R PD} {P : R α} (l : List PD) (b : PD) (h1 : f ρ = .ok l) (h2 : f2 ρ = .ok b) (h : K.k (.nx ((ρ.set i (.ol l)).set j (.va b))) = P) : K.k (sParL i j f f2 ρ) = P := by
  unfold sParL; rw [k_toS, h1]
  show K.k (toS ρ (f2 ρ) _) = _
  rw [k_toS, h2]; exact h
theorem q_parLB {α : Type} {K : Kt α} {ρ : En} {f : En → R (List PD)} {f2 : En → R PD} {e : R (List PD)} {e2 : R PD} {p : List PD → PD → R α} (h1 : f ρ = e) (h2 : f2 ρ = e2) (h : ∀ l b, K.k (.nx ((ρ.set i (.ol l)).set j (.va b))) = p l b) : K.k (sParL i j f f2 ρ) = e.bind fun l => e2.bind fun b => p l b := by
  unfold sParL; rw [k_toS, h1]
  refine bind_congr fun l => ?_
  show K.k (toS ρ (f2 ρ) _) = _
  rw [k_toS, h2]; exact bind_congr (h l)
end
end DL
namespace DL
open PySem PySem.Spec L2
/-! ### comprehensions and loops over things that are told as data -/
@[simp] theorem cp_nil (q : PD → R (Option PD)) : compP q [] = .ok [] := rfl
@[simp] theorem cp_cons (q : PD → R (Option PD)) (x : PD) (xs : List PD) : compP q (x :: xs) = (q x).bind fun o => match o with
    | some d => (compP q xs).bind fun r => .ok (d :: r)
    | none => compP q xs := rfl
theorem big_eq : big = 10000000 := rfl
section
variable {α γ : Type} {q : PD → R (Option PD)}
theorem compP_fm (enc : α → PD) (dec : γ → PD) (b : α → Bool) (g : α → γ) : ∀ (xs : List α), (∀ x ∈ xs, q (enc x) = .ok (if b x = true then some (dec (g x)) else none)) → compP q (xs.map enc) = .ok (((xs.filter b).map g).map dec)
  | [], _ => rfl
  | x :: xs, h => by
    have ih := compP_fm enc dec b g xs fun y hy => h y (List.mem_cons_of_mem _ hy)
    rw [List.map_cons, cp_cons, h x List.mem_cons_self, R.ok_bind]
    cases hb : b x with
    | true => simp [ih, hb]
    | false => simp [ih, hb]
theorem compP_all (enc : α → PD) (dec : γ → PD) (g : α → γ) (xs : List α) (h : ∀ x ∈ xs, q (enc x) = .ok (some (dec (g x)))) : compP q (xs.map enc) = .ok ((xs.map g).map dec) := by
  have := compP_fm (q := q) enc dec (fun _ => true) g xs fun x hx => h x hx
  rwa [List.filter_eq_self.mpr fun _ _ => rfl] at this
theorem lcP_fm (enc : α → PD) (dec : γ → PD) (b : α → Bool) (g : α → γ) (xs : List α) (hl : xs.length ≤ 10000000) (h : ∀ x ∈ xs, q (enc x) = .ok (if b x = true then some (dec (g x)) else none)) : lcP (xs.map enc) q = .ok (((xs.filter b).map g).map dec) := by
  unfold lcP
  rw [List.length_map, chk_of (decide_eq_true (show xs.length ≤ big from hl))]
  exact compP_fm enc dec b g xs h
theorem lcP_all (enc : α → PD) (dec : γ → PD) (g : α → γ) (xs : List α) (hl : xs.length ≤ 10000000) (h : ∀ x ∈ xs, q (enc x) = .ok (some (dec (g x)))) : lcP (xs.map enc) q = .ok ((xs.map g).map dec) := by
  unfold lcP
  rw [List.length_map, chk_of (decide_eq_true (show xs.length ≤ big from hl))]
  exact compP_all enc dec g xs h
/-- only the ones that are good -/
theorem lcP_fil (enc : α → PD) (b : α → Bool) (xs : List α) (hl : xs.length ≤ 10000000) (h : ∀ x ∈ xs, q (enc x) = .ok (if b x = true then some (enc x) else none)) : lcP (xs.map enc) q = .ok ((xs.filter b).map enc) := by
  have := lcP_fm enc enc b id xs hl h
  rwa [List.map_id] at this
end
section
variable {S α γ β : Type} {body : PD → S → (S → R γ) → (S → R γ) → R γ} {k : S → R γ}
theorem forK_skip (enc : α → PD) (s : S) : ∀ (xs : List α), (∀ x ∈ xs, ∀ next brk, body (enc x) s next brk = next s) → forK body (xs.map enc) s k = k s
  | [], _ => rfl
  | x :: xs, h => by
    rw [List.map_cons, forK, h x List.mem_cons_self]
    exact forK_skip enc s xs fun y hy => h y (List.mem_cons_of_mem _ hy)
theorem forK_fold (enc : α → PD) (E : β → S) (step : β → α → β) : ∀ (xs : List α) (b : β), (∀ x ∈ xs, ∀ b next brk, body (enc x) (E b) next brk = next (E (step b x))) → forK body (xs.map enc) (E b) k = k (E (xs.foldl step b))
  | [], _, _ => rfl
  | x :: xs, b, h => by
    rw [List.map_cons, forK, h x List.mem_cons_self]
    exact forK_fold enc E step xs _ fun y hy => h y (List.mem_cons_of_mem _ hy)
theorem forK_go (enc : α → PD) (P : Nat → S → Prop) : ∀ (xs : List α) (i : Nat) (s : S), (∀ j x s next brk, xs[j]? = some x → P (i + j) s → ∃ s', P (i + j + 1) s' ∧ body (enc x) s next brk = next s') → P i s → ∃ s', P (i + xs.length) s' ∧ forK body (xs.map enc) s k = k s'
  | [], i, s, _, h0 => ⟨s, h0, rfl⟩
  | x :: xs, i, s, h, h0 => by
    obtain ⟨s1, p1, e1⟩ := h 0 x s (fun s' => forK body (xs.map enc) s' k) k rfl h0
    obtain ⟨s2, p2, e2⟩ := forK_go enc P xs (i + 1) s1 (fun j y s next brk hj hp => by
      have := h (j + 1) y s next brk hj (by rwa [show i + (j + 1) = i + 1 + j by omega])
      rwa [show i + (j + 1) + 1 = i + 1 + j + 1 by omega] at this) p1
    refine ⟨s2, by rwa [show i + (x :: xs).length = i + 1 + xs.length by rw [List.length_cons]; omega], ?_⟩
    rw [List.map_cons, forK, e1, e2]
theorem forK_inv (enc : α → PD) (P : Nat → S → Prop) (xs : List α) {s : S} (h0 : P 0 s) (h : ∀ j x s next brk, xs[j]? = some x → P j s → ∃ s', P (j + 1) s' ∧ body (enc x) s next brk = next s') : ∃ s', P xs.length s' ∧ forK body (xs.map enc) s k = k s' := by
  have := forK_go (k := k) enc P xs 0 s (fun j x s next brk hj hp => by rw [Nat.zero_add] at hp ⊢; exact h j x s next brk hj hp) h0
  rwa [Nat.zero_add] at this
end
/-- list(range(..)) and the like -/
theorem rg1_rng {n : Nat} (h : n ≤ 10000000) : rg1 (.int (n : Nat)) = .ok ((rng 0 n).map PyData.int) := by
  rw [a_rg1, chk_of (decide_eq_true (by omega)), rangeL_rng, Int.toNat_natCast]
theorem ne_refl {d : PD} (h : nod d = true) (h2 : d.depth ≤ 100) : neD d d = .ok (.bool false) := by
  unfold neD dOk
  rw [eqv_self d h, Nat.min_self]
  simp [h2]
theorem eq_refl' {d : PD} (h : nod d = true) (h2 : d.depth ≤ 100) : eqD d d = .ok (.bool true) := by
  unfold eqD dOk
  rw [eqv_self d h, Nat.min_self]
  simp [h2]
theorem a_eqS (x y : Str) : eqD (.str x) (.str y) = .ok (.bool (x == y)) := by
  unfold eqD dOk
  simp [PyData.eqv]
theorem a_neS (x y : Str) : neD (.str x) (.str y) = .ok (.bool (!(x == y))) := by
  unfold neD dOk
  simp [PyData.eqv]
/-! ### numbers, truth values -/
theorem in_ints (v : Int) (ms : List Int) : inD (.int v) (.list (ms.map PyData.int)) = .ok (.bool (decide (v ∈ ms))) ∧ notinD (.int v) (.list (ms.map PyData.int)) = .ok (.bool (!decide (v ∈ ms))) := by
  have e : ((ms.map PyData.int).any fun y => PyData.eqv y (.int v)) = decide (v ∈ ms) := by
    induction ms with
    | nil => rfl
    | cons x xs ih =>
      rw [List.map_cons, List.any_cons, ih]
      by_cases h : x = v
      · simp [h, PyData.eqv]
      · simp [h, PyData.eqv, Ne.symm h]
  have ok : inOk (.int v) (ms.map PyData.int) = true := by
    unfold inOk
    rw [decide_eq_true_eq, dp_int]; omega
  constructor <;> simp [inD, notinD, ok, e]
theorem best_ints (x : Int) (xs : List Int) : (alikes ((x :: xs).map PyData.int) && decide (PyData.depthAll ((x :: xs).map PyData.int) ≤ 100)) = true := by
  rw [Bool.and_eq_true, decide_eq_true_eq]
  constructor
  · unfold alikes
    rw [List.all_eq_true]
    intro a ha
    obtain ⟨p, _, rfl⟩ := List.mem_map.mp ha
    rw [Bool.and_eq_true]
    refine ⟨?_, rfl⟩
    rw [List.all_eq_true]
    intro b hb
    obtain ⟨q, _, rfl⟩ := List.mem_map.mp hb
    simp [PySem.W.alike]
  · refine depthAll_le _ _ fun d hd => ?_
    obtain ⟨p, _, rfl⟩ := List.mem_map.mp hd
    simp
theorem min_ints (x : Int) (xs : List Int) : minD1 [.list (.int x :: xs.map PyData.int)] = .ok (.int (xs.foldl min x)) := by
  have e : minD1 [.list (.int x :: xs.map PyData.int)] = chk (alikes ((x :: xs).map PyData.int) && decide (PyData.depthAll ((x :: xs).map PyData.int) ≤ 100)) (.ok (PySem.W.minD (.int x) (xs.map PyData.int))) := rfl
  rw [e, chk_of (best_ints x xs), PySem.W.minD_ints]
theorem max_ints (x : Int) (xs : List Int) : maxD1 [.list (.int x :: xs.map PyData.int)] = .ok (.int (xs.foldl max x)) := by
  have e : maxD1 [.list (.int x :: xs.map PyData.int)] = chk (alikes ((x :: xs).map PyData.int) && decide (PyData.depthAll ((x :: xs).map PyData.int) ≤ 100)) (.ok (PySem.W.maxD (.int x) (xs.map PyData.int))) := rfl
  rw [e, chk_of (best_ints x xs), PySem.W.maxD_ints]
theorem foldl_max_mem : ∀ (xs : List Int) (x : Int), xs.foldl max x ∈ x :: xs ∧ ∀ y ∈ x :: xs, y ≤ xs.foldl max x
  | [], x => ⟨List.mem_cons_self, fun y hy => by rw [List.mem_singleton.mp hy]; exact Int.le_refl _⟩
  | z :: xs, x => by
    obtain ⟨h1, h2⟩ := foldl_max_mem xs (max x z)
    rw [List.foldl_cons]
    refine ⟨?_, fun y hy => ?_⟩
    · rcases List.mem_cons.mp h1 with h1 | h1
      · rw [h1]
        rcases Int.le_total x z with h | h
        · rw [Int.max_eq_right h]; exact List.mem_cons_of_mem _ List.mem_cons_self
        · rw [Int.max_eq_left h]; exact List.mem_cons_self
      · exact List.mem_cons_of_mem _ (List.mem_cons_of_mem _ h1)
    · have h3 := h2 (max x z) List.mem_cons_self
      rcases List.mem_cons.mp hy with rfl | hy
      · omega
      · rcases List.mem_cons.mp hy with rfl | hy
        · omega
        · exact h2 y (List.mem_cons_of_mem _ hy)
theorem foldl_min_mem : ∀ (xs : List Int) (x : Int), xs.foldl min x ∈ x :: xs ∧ ∀ y ∈ x :: xs, xs.foldl min x ≤ y
  | [], x => ⟨List.mem_cons_self, fun y hy => by rw [List.mem_singleton.mp hy]; exact Int.le_refl _⟩
  | z :: xs, x => by
    obtain ⟨h1, h2⟩ := foldl_min_mem xs (min x z)
    rw [List.foldl_cons]
    refine ⟨?_, fun y hy => ?_⟩
    · rcases List.mem_cons.mp h1 with h1 | h1
      · rw [h1]
        rcases Int.le_total x z with h | h
        · rw [Int.min_eq_left h]; exact List.mem_cons_self
        · rw [Int.min_eq_right h]; exact List.mem_cons_of_mem _ List.mem_cons_self
      · exact List.mem_cons_of_mem _ (List.mem_cons_of_mem _ h1)
    · have h3 := h2 (min x z) List.mem_cons_self
      rcases List.mem_cons.mp hy with rfl | hy
      · omega
      · rcases List.mem_cons.mp hy with rfl | hy
        · omega
        · exact h2 y (List.mem_cons_of_mem _ hy)
theorem max_is {xs : List Int} {c : Int} (hc : c ∈ xs) (hm : ∀ y ∈ xs, y ≤ c) : maxD1 [.list (xs.map PyData.int)] = .ok (.int c) := by
  cases xs with
  | nil => cases hc
  | cons x xs =>
    obtain ⟨h1, h2⟩ := foldl_max_mem xs x
    have : xs.foldl max x = c := Int.le_antisymm (hm _ h1) (h2 _ hc)
    rw [List.map_cons, max_ints, this]
theorem min_is {xs : List Int} {c : Int} (hc : c ∈ xs) (hm : ∀ y ∈ xs, c ≤ y) : minD1 [.list (xs.map PyData.int)] = .ok (.int c) := by
  cases xs with
  | nil => cases hc
  | cons x xs =>
    obtain ⟨h1, h2⟩ := foldl_min_mem xs x
    have : xs.foldl min x = c := Int.le_antisymm (h2 _ hc) (hm _ h1)
    rw [List.map_cons, min_ints, this]
theorem find_is (c : Int) : ∀ (xs : List Int) (j : Nat), xs[j]? = some c → (∀ m : Nat, m < j → xs[m]? ≠ some c) → findI (.int c) (xs.map PyData.int) = some j
  | [], j, h, _ => by simp at h
  | x :: xs, j, h, hn => by
    rw [List.map_cons, findI]
    cases j with
    | zero =>
      simp at h; subst h
      simp [PyData.eqv]
    | succ j =>
      have e : x ≠ c := by simpa using hn 0 (by omega)
      rw [if_neg (by simp [PyData.eqv, e]), find_is c xs j (by simpa using h) fun m hm => by simpa using hn (m + 1) (by omega)]; rfl
theorem all_bools (bs : List Bool) : allD [.list (bs.map PyData.bool)] = .ok (.bool (bs.all id)) := by
  rw [a_all, chk_of (by rw [List.all_eq_true]; intro d hd; obtain ⟨b, _, rfl⟩ := List.mem_map.mp hd; rfl), List.all_map]; rfl
theorem any_bools (bs : List Bool) : anyD [.list (bs.map PyData.bool)] = .ok (.bool (bs.any id)) := by
  rw [a_any, chk_of (by rw [List.all_eq_true]; intro d hd; obtain ⟨b, _, rfl⟩ := List.mem_map.mp hd; rfl), List.any_map]; rfl
section
variable {α : Type} (enc : α → PD)
theorem cutL_drop {β : Type} (xs : List β) (k : Nat) : cutL xs (some (k : Int)) none = xs.drop k := by
  unfold cutL
  rw [HT.sIx_none, HT.sIx_nat]
  by_cases h : k ≤ xs.length
  · rw [Nat.min_eq_left h, List.take_of_length_le (by rw [List.length_drop]; exact Nat.le_refl _)]
  · rw [Nat.min_eq_right (by omega), List.drop_of_length_le (Nat.le_refl _), List.drop_of_length_le (by omega)]; simp
theorem cutL_take {β : Type} (xs : List β) (k : Nat) : cutL xs none (some (k : Int)) = xs.take k := by
  unfold cutL
  rw [HT.sIx_none, HT.sIx_nat, List.drop_zero, Nat.sub_zero]
  by_cases h : k ≤ xs.length
  · rw [Nat.min_eq_left h]
  · rw [Nat.min_eq_right (by omega), List.take_of_length_le (Nat.le_refl _), List.take_of_length_le (by omega)]
theorem sl_dropL (xs : List α) (k : Nat) : slD (.list (xs.map enc)) (some (k : Int)) none = .ok (.list ((xs.drop k).map enc)) := by
  show R.ok (PyData.list (cutL _ _ _)) = _
  rw [cutL_drop, List.map_drop]
theorem sl_dropT (xs : List α) (k : Nat) : slD (.tuple (xs.map enc)) (some (k : Int)) none = .ok (.tuple ((xs.drop k).map enc)) := by
  show R.ok (PyData.tuple (cutL _ _ _)) = _
  rw [cutL_drop, List.map_drop]
theorem sl_takeL (xs : List α) (k : Nat) : slD (.list (xs.map enc)) none (some (k : Int)) = .ok (.list ((xs.take k).map enc)) := by
  show R.ok (PyData.list (cutL _ _ _)) = _
  rw [cutL_take, List.map_take]
theorem sl_takeT (xs : List α) (k : Nat) : slD (.tuple (xs.map enc)) none (some (k : Int)) = .ok (.tuple ((xs.take k).map enc)) := by
  show R.ok (PyData.tuple (cutL _ _ _)) = _
  rw [cutL_take, List.map_take]
theorem ix_L {xs : List α} {i : Nat} {x : α} (h : xs[i]? = some x) : ixD (.list (xs.map enc)) (.int (i : Nat)) = .ok (enc x) := by
  rw [a_ixL, atI_nn, List.getElem?_map, h]; rfl
theorem ix_T {xs : List α} {i : Nat} {x : α} (h : xs[i]? = some x) : ixD (.tuple (xs.map enc)) (.int (i : Nat)) = .ok (enc x) := by
  rw [a_ixT, atI_nn, List.getElem?_map, h]; rfl
theorem ix_lastL (xs : List α) (x : α) : ixD (.list ((xs ++ [x]).map enc)) (.int (-1)) = .ok (enc x) := by
  rw [a_ixL, List.map_append, List.map_cons, List.map_nil, atI_end]
theorem ix_lastT (xs : List α) (x : α) : ixD (.tuple ((xs ++ [x]).map enc)) (.int (-1)) = .ok (enc x) := by
  rw [a_ixT, List.map_append, List.map_cons, List.map_nil, atI_end]
end
theorem dr_ix {ds : List Int} {n : Nat} (hl : ds.length = n) (ho : ∀ d ∈ ds, 0 ≤ d ∧ d < 65521) (i : Int) (h : 0 ≤ i ∧ i < n) : ∃ v : Int, ixD (.list (ds.map PyData.int)) (.int i) = .ok (.int v) ∧ 0 ≤ v ∧ v < 65521 := by
  obtain ⟨k, rfl⟩ : ∃ k : Nat, i = (k : Int) := ⟨i.toNat, by omega⟩
  have hk : k < ds.length := by omega
  exact ⟨ds[k], ix_L _ (List.getElem?_eq_getElem hk), ho _ (List.getElem_mem hk)⟩
theorem forK_pre {S α γ : Type} {body : PD → S → (S → R γ) → (S → R γ) → R γ} {k : S → R γ} (enc : α → PD) (s : S) (ys : List PD) : ∀ (xs : List α), (∀ x ∈ xs, ∀ next brk, body (enc x) s next brk = next s) → forK body (xs.map enc ++ ys) s k = forK body ys s k
  | [], _ => rfl
  | x :: xs, h => by
    rw [List.map_cons, List.cons_append, forK, h x List.mem_cons_self]
    exact forK_pre enc s ys xs fun y hy => h y (List.mem_cons_of_mem _ hy)
theorem index_is {c : Int} {xs : List Int} {j : Nat} (h : xs[j]? = some c) (hn : ∀ m : Nat, m < j → xs[m]? ≠ some c) : indexD (xs.map PyData.int) [.int c] = .ok (.int (j : Nat)) := by
  have sh : SeqAt.shaped (.list (xs.map PyData.int)) = true := PySem.W.ke_shaped_ints _
  unfold indexD
  simp only [sh, find_is c xs j h hn, Bool.true_and]
  rfl
theorem neg1 : negD (.int 1) = .ok (.int (-1)) := rfl
theorem zipL_map {α β : Type} (f : α → PD) (g : β → PD) : ∀ (xs : List α) (ys : List β), zipL (xs.map f) (ys.map g) = (xs.zip ys).map fun p => .tuple [f p.1, g p.2]
  | [], ys => rfl
  | x :: xs, [] => rfl
  | x :: xs, y :: ys => by
    rw [List.map_cons, List.map_cons, zipL, zipL_map f g xs ys]; rfl
theorem rgI_ok {m n : Int} (h1 : -1000000 ≤ m) (h2 : n ≤ 1000000) (h3 : m ≤ n) : rgLst (m, n) = .ok ((rng m (n - m).toNat).map PyData.int) := by
  unfold rgLst
  rw [chk_of (by unfold rgOk; rw [decide_eq_true_eq]; simp only [big_eq]; omega), rangeL_rng]
theorem rg2_ok {m n : Int} (h1 : -1000000 ≤ m) (h2 : n ≤ 1000000) (h3 : m ≤ n) : rg2 (.int m) (.int n) = .ok ((rng m (n - m).toNat).map PyData.int) := by
  rw [a_rg2, chk_of (decide_eq_true (by omega)), rangeL_rng]
/-- a loop that only appends -/
theorem forK_acc {α γ : Type} {body : PD → List PD → (List PD → R γ) → (List PD → R γ) → R γ} {k : List PD → R γ} (enc dec : α → PD) : ∀ (xs : List α) (l : List PD), l.length + xs.length ≤ 1000000 → (∀ x ∈ xs, ∀ l next brk, l.length < big → body (enc x) l next brk = next (l ++ [dec x])) → forK body (xs.map enc) l k = k (l ++ xs.map dec)
  | [], l, _, _ => by rw [List.map_nil, List.map_nil, List.append_nil]; rfl
  | x :: xs, l, hl, h => by
    rw [List.length_cons] at hl
    rw [List.map_cons, forK, h x List.mem_cons_self _ _ _ (by rw [big_eq]; omega), forK_acc enc dec xs (l ++ [dec x]) (by rw [List.length_append]; simp; omega) fun y hy => h y (List.mem_cons_of_mem _ hy)]
    simp
/-- .. whatever follows -/
theorem forK_goA {S α γ : Type} {body : PD → S → (S → R γ) → (S → R γ) → R γ} (enc : α → PD) (P : Nat → S → Prop) : ∀ (xs : List α) (i : Nat) (s : S), (∀ j x s, xs[j]? = some x → P (i + j) s → ∃ s', P (i + j + 1) s' ∧ ∀ next brk, body (enc x) s next brk = next s') → P i s → ∃ s', P (i + xs.length) s' ∧ ∀ k, forK body (xs.map enc) s k = k s'
  | [], i, s, _, h0 => ⟨s, h0, fun _ => rfl⟩
  | x :: xs, i, s, h, h0 => by
    obtain ⟨s1, p1, e1⟩ := h 0 x s rfl h0
    obtain ⟨s2, p2, e2⟩ := forK_goA enc P xs (i + 1) s1 (fun j y s hj hp => by
      have := h (j + 1) y s hj (by rwa [show i + (j + 1) = i + 1 + j by omega])
      rwa [show i + (j + 1) + 1 = i + 1 + j + 1 by omega] at this) p1
    refine ⟨s2, by rwa [show i + (x :: xs).length = i + 1 + xs.length by rw [List.length_cons]; omega], fun k => ?_⟩
    rw [List.map_cons, forK, e1, e2]
theorem forK_invA {S α γ : Type} {body : PD → S → (S → R γ) → (S → R γ) → R γ} (enc : α → PD) (P : Nat → S → Prop) (xs : List α) {s : S} (h0 : P 0 s) (h : ∀ j x s, xs[j]? = some x → P j s → ∃ s', P (j + 1) s' ∧ ∀ next brk, body (enc x) s next brk = next s') : ∃ s', P xs.length s' ∧ ∀ k, forK body (xs.map enc) s k = k s' := by
  have := forK_goA (body := body) enc P xs 0 s (fun j x s hj hp => by rw [Nat.zero_add] at hp ⊢; exact h j x s hj hp) h0
  rwa [Nat.zero_add] at this
end DL
namespace DL
open PySem PySem.Spec L2
/-! ### the laws' draws -/
def gDraws_l1 : En → Fl := (sIf (bC gtD (cV 5) (cK (.int 0)))
  (sSeq (sApp 2 (c2 modD (cCl intD (cCons (cV 5) cNil)) (cK (.int 1009))))
  (sSet 5 (c2 fdivD (cV 5) (cK (.int 1009)))))
  sNx)
def gDraws_l2 : En → Fl := (sSeq (sSet 5 (cCl absD (cCons (cV 4) cNil)))
  (sSeq (sSet 3 (c2 modD (cCl intD (cCons (c2 addD (c2 addD (c2 mulD (cV 3) (cK (.int 48271))) (cV 5)) (cK (.int 11))) cNil)) (cK (.int 2147483647))))
  (sIf (bC geD (cV 5) (c2 powD (cK (.int 10)) (cK (.int 18))))
  (sFor (iR1 (cK (.int 60))) (gN 6) gDraws_l1)
  (sApp 2 (c2 modD (c2 fdivD (cCl intD (cCons (c2 addD (c2 mulD (cV 3) (cK (.int 16807))) (cK (.int 5))) cNil)) (cK (.int 3))) (cK (.int 65521)))))))
def gDraws_l3 : En → Fl := (sIf (bC ltD (cCl lenD (cCons (cW 2) cNil)) (cV 1))
  (sSeq (sSet 3 (c2 modD (cCl intD (cCons (c2 addD (c2 addD (c2 mulD (cV 3) (cK (.int 69621))) (cV 6)) (cK (.int 1))) cNil)) (cK (.int 2147483647))))
  (sApp 2 (c2 modD (c2 fdivD (cCl intD (cCons (cV 3) cNil)) (cK (.int 7))) (cK (.int 65521)))))
  sNx)
def gDraws : En → Fl := (sSeq (sSetL 2 (cLst cNil))
  (sSeq (sSet 3 (cK (.int 7)))
  (sSeq (sFor (iSeq (cL (cScr 0 63))) (gN 4) gDraws_l2)
  (sSeq (sFor (iR1 (cV 1)) (gN 6) gDraws_l3)
  (sRet (cSl (cW 2) oN (oS (cV 1))))))))

def DrawOk (ds : List Int) : Prop := ∀ d ∈ ds, 0 ≤ d ∧ d < 65521
theorem DrawOk.app {ds : List Int} {d : Int} (h : DrawOk ds) (h2 : 0 ≤ d ∧ d < 65521) : DrawOk (ds ++ [d]) := fun x hx => by
  rcases List.mem_append.mp hx with hx | hx
  · exact h x hx
  · rw [List.mem_singleton.mp hx]; exact h2
def ab (y : Int) : Int := if y < 0 then -y else y
def sd (seed y : Int) : Int := (seed * 48271 + ab y + 11) % 2147483647
abbrev dr (ns : List Int) (m : Nat) (ds : List Int) (seed : Int) (a b c : Sl) : En := [.sc ns, .va (.int m), .ol (ds.map PyData.int), .va (.int seed), a, b, c]
section
variable {ns : List Int} {m : Nat}
theorem draws1 {ds : List Int} {seed n : Int} {a c : Sl} (hl : ds.length < big) (hd : DrawOk ds) :
    ∃ ds' n', gDraws_l1 (dr ns m ds seed a (.va (.int n)) c) = .nx (dr ns m ds' seed a (.va (.int n')) c) ∧ ds'.length ≤ ds.length + 1 ∧ DrawOk ds' := by
  by_cases h : 0 < n
  · exact ⟨ds ++ [n % 1009], n / 1009, by simp [gDraws_l1, h, hl], by simp, hd.app (by omega)⟩
  · exact ⟨ds, n, by simp [gDraws_l1, h], by omega, hd⟩
theorem draws2 {ds : List Int} {seed y : Int} {b c : Sl} (hl : ds.length + 60 < big) (hd : DrawOk ds) :
    ∃ ds' b' c', gDraws_l2 (dr ns m ds seed (.va (.int y)) b c) = .nx (dr ns m ds' (sd seed y) (.va (.int y)) b' c') ∧ ds'.length ≤ ds.length + 60 ∧ DrawOk ds' := by
  by_cases hn : (1000000000000000000 : Int) ≤ ab y
  · obtain ⟨ρ', e, ds', n', c', rfl, hl', hd'⟩ := forL_inv (tgt := gN 6) (body := gDraws_l1) (fun i ρ => ∃ ds' n c, ρ = dr ns m ds' (sd seed y) (.va (.int y)) (.va (.int n)) c ∧ ds'.length ≤ ds.length + i ∧ DrawOk ds') PyData.int (rng 0 60)
      (ρ := dr ns m ds (sd seed y) (.va (.int y)) (.va (.int (ab y))) c) ⟨ds, _, _, rfl, Nat.le_refl _, hd⟩ (by
        rintro j y2 ρ hj ⟨ds', n, c, rfl, hl', hd'⟩
        have hj2 := (List.getElem?_eq_some_iff.mp hj).1
        rw [rng_len] at hj2
        obtain ⟨ds2, n2, e2, l2, d2⟩ := draws1 (ns := ns) (m := m) (seed := sd seed y) (n := n) (a := .va (.int y)) (c := .va (.int y2)) (show ds'.length < big by omega) hd'
        exact ⟨_, _, rfl, .inl e2, ds2, n2, _, rfl, by omega, d2⟩)
    rw [rng_len] at hl'
    refine ⟨ds', .va (.int n'), c', ?_, hl', hd'⟩
    have hs : sd seed y = (seed * 48271 + (if y < 0 then -y else y) + 11) % 2147483647 := rfl
    have hn' : (1000000000000000000 : Int) ≤ (if y < 0 then -y else y) := hn
    simp only [ab, hs] at e
    simp [gDraws_l2, rangeL_rng, hn']
    exact e
  · have hn' : ¬ (1000000000000000000 : Int) ≤ (if y < 0 then -y else y) := hn
    refine ⟨ds ++ [(sd seed y * 16807 + 5) / 3 % 65521], .va (.int (ab y)), c, ?_, by simp, hd.app (by omega)⟩
    simp [gDraws_l2, hn', show ds.length < big by omega, sd, ab]
theorem draws3 {ds : List Int} {seed y : Int} {a b : Sl} (hl : ds.length < big) (hd : DrawOk ds) :
    ∃ ds' seed', gDraws_l3 (dr ns m ds seed a b (.va (.int y))) = .nx (dr ns m ds' seed' a b (.va (.int y))) ∧ ds'.length ≤ ds.length + 1 ∧ DrawOk ds' ∧ ds.length ≤ ds'.length ∧ (ds.length < m → ds'.length = ds.length + 1) := by
  by_cases h : ds.length < m
  · have h' : (ds.length : Int) < (m : Int) := by omega
    exact ⟨ds ++ [(seed * 69621 + y + 1) % 2147483647 / 7 % 65521], (seed * 69621 + y + 1) % 2147483647, by simp [gDraws_l3, h', hl], by simp, hd.app (by omega), by simp, fun _ => by simp⟩
  · have h' : ¬ (ds.length : Int) < (m : Int) := by omega
    exact ⟨ds, seed, by simp [gDraws_l3, h'], by omega, hd, Nat.le_refl _, fun z => absurd z h⟩
theorem draws_ok (ns : List Int) (m : Nat) (hm : m ≤ 100000) :
    ∃ ds : List Int, fin (gDraws (.sc ns :: .va (.int m) :: List.replicate 5 .un)) = .ok (.list (ds.map PyData.int)) ∧ ds.length = m ∧ DrawOk ds := by
  have hcut : (cutL ns none (some 63)).length ≤ 63 := by
    unfold cutL
    rw [List.length_take]
    refine Nat.le_trans (Nat.min_le_left _ _) ?_
    rw [HT.sIx_none, Nat.sub_zero]
    have h3 : HT.sIx ns.length ns.length (some 63) = min 63 ns.length := HT.sIx_nat _ _ 63
    omega
  obtain ⟨ρ1, e1, ds1, s1, a1, b1, c1, rfl, hl1, hd1⟩ := forL_inv (tgt := gN 4) (body := gDraws_l2) (fun i ρ => ∃ ds s a b c, ρ = dr ns m ds s a b c ∧ ds.length ≤ 60 * i ∧ DrawOk ds) PyData.int (cutL ns none (some 63))
    (ρ := dr ns m [] 7 .un .un .un) ⟨[], 7, .un, .un, .un, rfl, by simp, fun d hd => by cases hd⟩ (by
      rintro j y ρ hj ⟨ds, s, a, b, c, rfl, hl, hd⟩
      have hj2 := (List.getElem?_eq_some_iff.mp hj).1
      obtain ⟨ds2, b2, c2, e2, l2, d2⟩ := draws2 (ns := ns) (m := m) (seed := s) (y := y) (b := b) (c := c) (show ds.length + 60 < big by unfold big; omega) hd
      exact ⟨_, _, rfl, .inl e2, ds2, _, _, b2, c2, rfl, by omega, d2⟩)
  obtain ⟨ρ2, e2, ds2, s2, c2, rfl, hl2, hd2, hg2⟩ := forL_inv (tgt := gN 6) (body := gDraws_l3) (fun i ρ => ∃ ds s c, ρ = dr ns m ds s a1 b1 c ∧ ds.length ≤ 3780 + i ∧ DrawOk ds ∧ (i ≤ ds.length ∨ m ≤ ds.length)) PyData.int (rng 0 m)
    (ρ := dr ns m ds1 s1 a1 b1 c1) ⟨ds1, s1, c1, rfl, by omega, hd1, .inl (Nat.zero_le _)⟩ (by
      rintro j y ρ hj ⟨ds, s, c, rfl, hl, hd, hg⟩
      have hj2 := (List.getElem?_eq_some_iff.mp hj).1
      rw [rng_len] at hj2
      obtain ⟨ds', s', e', l', d', g1, g2⟩ := draws3 (ns := ns) (m := m) (seed := s) (y := y) (a := a1) (b := b1) (show ds.length < big by unfold big; omega) hd
      exact ⟨_, _, rfl, .inl e', ds', s', _, rfl, by omega, d', by omega⟩)
  rw [rng_len] at hl2 hg2
  refine ⟨ds2.take m, ?_, by rw [List.length_take]; omega, fun d hd => hd2 d (List.mem_of_mem_take hd)⟩
  have h60 : cutL (ns.map PyData.int) none (some 63) = (cutL ns none (some 63)).map PyData.int := cut_map _ _ _ _
  have hc2 : cutL (ds2.map PyData.int) none (some (m : Int)) = (ds2.take m).map PyData.int := by
    rw [cut_map]
    unfold cutL
    rw [HT.sIx_none, HT.sIx_nat, List.drop_zero, Nat.sub_zero, Nat.min_eq_left (by omega)]
  simp only [dr, List.map_nil] at e1 e2
  simp only [gDraws, a_sSeq, a_sSetL, a_sSet, a_sFor, a_sRet, a_cLst, a_cNil, R.ok_bind, a_mkL, a_toS_ok, a_cK, a_iSeq, a_cL, a_iR1, cScr, cSl, oN, oS]
  simp [h60, e1, rangeL_rng, e2, slD, hc2, show (m : Int) ≤ 1000000000000000 by omega, show (-1000000000000000 : Int) ≤ m by omega]
end
end DL
namespace K79
open PySem PySem.Spec L2 DL
noncomputable section
def excs : List Str := ["BadDay", "BadMoment", "BadNumber", "BadSize", "BadTable", "BadTold"]
def g_is_whole : En → Fl := (sRet (cAnd (isaD PyData.isInt (cV 0)) (cAnd (cNot (isaD PyData.isBool (cV 0))) (cChain leD leD (cV 1) (cV 0) (cV 2)))))
def F_is_whole (ds : List PD) : R PD := fin (g_is_whole (startE 3 ds))
def g_ascends : En → Fl := (sRet (cCl allD (cCons (cL (cLcK [1, 2] (iZp (cV 0) (cSl (cV 0) (oS (cK (.int 1))) oN)) (k2 (kN 1) (kN 2)) bYes (c2 ltD (cV 1) (cV 2)))) cNil)))
def F_ascends (ds : List PD) : R PD := fin (g_ascends (startE 3 ds))
def g_divisor_l1 : En → Fl := (sPar 0 1 (cV 1) (c2 modD (cV 0) (cV 1)))
def g_divisor : En → Fl := (sSeq (sPar 0 1 (cCl absD (cCons (cV 0) cNil)) (cCl absD (cCons (cV 1) cNil)))
  (sSeq (whL (bC gtD (cV 1) (cK (.int 0))) g_divisor_l1 fuel)
  (sRet (cV 0))))
def F_divisor (ds : List PD) : R PD := fin (g_divisor (startE 2 ds))
def g_is_less : En → Fl := (sRet (c2 ltD (c2 mulD (c2 ixD (cV 0) (cK (.int 0))) (c2 ixD (cV 1) (cK (.int 1)))) (c2 mulD (c2 ixD (cV 1) (cK (.int 0))) (c2 ixD (cV 0) (cK (.int 1))))))
def F_is_less (ds : List PD) : R PD := fin (g_is_less (startE 2 ds))
def g_is_integer : En → Fl := (sRet (cAnd (isaD PyData.isInt (cV 0)) (cNot (isaD PyData.isBool (cV 0)))))
def F_is_integer (ds : List PD) : R PD := fin (g_is_integer (startE 1 ds))
def g__law_draws_l1 : En → Fl := (sIf (bC gtD (cV 5) (cK (.int 0)))
  (sSeq (sApp 2 (c2 modD (cCl intD (cCons (cV 5) cNil)) (cK (.int 1009))))
  (sSet 5 (c2 fdivD (cV 5) (cK (.int 1009)))))
  sNx)
def g__law_draws_l2 : En → Fl := (sSeq (sSet 5 (cCl absD (cCons (cV 4) cNil)))
  (sSeq (sSet 3 (c2 modD (cCl intD (cCons (c2 addD (c2 addD (c2 mulD (cV 3) (cK (.int 48271))) (cV 5)) (cK (.int 11))) cNil)) (cK (.int 2147483647))))
  (sIf (bC geD (cV 5) (c2 powD (cK (.int 10)) (cK (.int 18))))
  (sFor (iR1 (cK (.int 60))) (gN 6) g__law_draws_l1)
  (sApp 2 (c2 modD (c2 fdivD (cCl intD (cCons (c2 addD (c2 mulD (cV 3) (cK (.int 16807))) (cK (.int 5))) cNil)) (cK (.int 3))) (cK (.int 65521)))))))
def g__law_draws_l3 : En → Fl := (sIf (bC ltD (cCl lenD (cCons (cW 2) cNil)) (cV 1))
  (sSeq (sSet 3 (c2 modD (cCl intD (cCons (c2 addD (c2 addD (c2 mulD (cV 3) (cK (.int 69621))) (cV 6)) (cK (.int 1))) cNil)) (cK (.int 2147483647))))
  (sApp 2 (c2 modD (c2 fdivD (cCl intD (cCons (cV 3) cNil)) (cK (.int 7))) (cK (.int 65521)))))
  sNx)
def g__law_draws : En → Fl := (sSeq (sSetL 2 (cLst cNil))
  (sSeq (sSet 3 (cK (.int 7)))
  (sSeq (sFor (iSeq (cL (cScr 0 63))) (gN 4) g__law_draws_l2)
  (sSeq (sFor (iR1 (cV 1)) (gN 6) g__law_draws_l3)
  (sRet (cSl (cW 2) oN (oS (cV 1))))))))
def F__law_draws (ns : List Int) (m : Int) : R PD := fin (g__law_draws (.sc ns :: .va (.int m) :: List.replicate 5 .un))
def g__law_lowest_l1 : En → Fl := (sPar 2 3 (cV 3) (c2 modD (cV 2) (cV 3)))
def g__law_lowest : En → Fl := (sSeq (sPar 2 3 (cCl absD (cCons (cV 0) cNil)) (cV 1))
  (sSeq (whL (bC gtD (cV 3) (cK (.int 0))) g__law_lowest_l1 fuel)
  (sRet (cTup (cCons (c2 fdivD (cV 0) (cV 2)) (cCons (c2 fdivD (cV 1) (cV 2)) cNil))))))
def F__law_lowest (ds : List PD) : R PD := fin (g__law_lowest (startE 4 ds))
def g__law_day : En → Fl := (sSeq (sSet 2 (c2 modD (cV 0) (cK (.int 900))))
  (sRet (cTup (cCons (cV 2) (cCons (c2 addD (c2 addD (cV 2) (cK (.int 1))) (c2 modD (cV 1) (c2 subD (cK (.int 1439)) (cV 2)))) cNil)))))
def F__law_day (ds : List PD) : R PD := fin (g__law_day (startE 3 ds))
def g_quotient : En → Fl := (sSeq (sSet 2 (cCall 2 F_divisor (cCons (cV 0) (cCons (cV 1) cNil))))
  (sRet (cTup (cCons (c2 fdivD (cV 0) (cV 2)) (cCons (c2 fdivD (cV 1) (cV 2)) cNil)))))
def F_quotient (ds : List PD) : R PD := fin (g_quotient (startE 3 ds))
def g_is_quotient : En → Fl := (sSeq (sIf (bOr (bNot (bT (isaD PyData.isTuple (cV 0)))) (bOr (bC neD (cCl lenD (cCons (cV 0) cNil)) (cK (.int 2))) (bOr (bNot (bT (cCall 1 F_is_integer (cCons (c2 ixD (cV 0) (cK (.int 0))) cNil)))) (bNot (bT (cCall 1 F_is_integer (cCons (c2 ixD (cV 0) (cK (.int 1))) cNil)))))))
  (sRet (cK (.bool false)))
  sNx)
  (sRet (cAnd (c2 gtD (c2 ixD (cV 0) (cK (.int 1))) (cK (.int 0))) (c2 eqD (cCall 2 F_divisor (cCons (c2 ixD (cV 0) (cK (.int 0))) (cCons (c2 ixD (cV 0) (cK (.int 1))) cNil))) (cK (.int 1))))))
def F_is_quotient (ds : List PD) : R PD := fin (g_is_quotient (startE 1 ds))
def g_is_day : En → Fl := (sSeq (sIf (bOr (bNot (bT (isaD PyData.isTuple (cV 0)))) (bOr (bC neD (cCl lenD (cCons (cV 0) cNil)) (cK (.int 2))) (bNot (bT (cCl allD (cCons (cL (cLcK [1] (iSeq (cV 0)) (kN 1) bYes (cCall 3 F_is_whole (cCons (cV 1) (cCons (cK (.int 0)) (cCons (c2 subD (cK (.int 1440)) (cK (.int 1))) cNil)))))) cNil))))))
  (sRet (cK (.bool false)))
  sNx)
  (sRet (c2 ltD (c2 ixD (cV 0) (cK (.int 0))) (c2 ixD (cV 0) (cK (.int 1))))))
def F_is_day (ds : List PD) : R PD := fin (g_is_day (startE 2 ds))
def g__check_number : En → Fl := (sIf (bNot (bT (cCall 3 F_is_whole (cCons (cV 1) (cCons (c2 ixD (c2 ixD (cV 0) (cK (.int 0))) (cK (.int 0))) (cCons (c2 ixD (c2 ixD (cV 0) (c1 negD (cK (.int 1)))) (cK (.int 0))) cNil))))))
  (sExc "BadNumber")
  sNx)
def F__check_number (ds : List PD) : R PD := fin (g__check_number (startE 2 ds))
def g__law_told : En → Fl := (sSeq (sAsg (cV 1) (gT 2 (gC (gN 2) (gC (gN 3) gZ))))
  (sSeq (sIf (bC ltD (cV 2) (c2 mulD (c2 ixD (cV 0) (cK (.int 1))) (cV 3)))
  (sRet (cTup (cCons (cK (.str "day")) (cCons (cCall 2 F__law_lowest (cCons (c2 mulD (cK (.int 12)) (c2 subD (cV 2) (c2 mulD (c2 ixD (cV 0) (cK (.int 0))) (cV 3)))) (cCons (c2 mulD (cV 3) (c2 subD (c2 ixD (cV 0) (cK (.int 1))) (c2 ixD (cV 0) (cK (.int 0))))) cNil))) cNil))))
  sNx)
  (sRet (cTup (cCons (cK (.str "night")) (cCons (cCall 2 F__law_lowest (cCons (c2 mulD (cK (.int 12)) (c2 subD (cV 2) (c2 mulD (c2 ixD (cV 0) (cK (.int 1))) (cV 3)))) (cCons (c2 mulD (cV 3) (c2 addD (c2 subD (cK (.int 1440)) (c2 ixD (cV 0) (cK (.int 1)))) (c2 ixD (cV 0) (cK (.int 0))))) cNil))) cNil))))))
def F__law_told (ds : List PD) : R PD := fin (g__law_told (startE 4 ds))
def g__law_ends : En → Fl := (sSeq (sAsg (cTup (cCons (c2 subD (c2 ixD (cV 0) (cK (.int 1))) (c2 ixD (cV 0) (cK (.int 0)))) (cCons (c2 addD (c2 subD (cK (.int 1440)) (c2 ixD (cV 0) (cK (.int 1)))) (c2 ixD (cV 0) (cK (.int 0)))) cNil))) (gT 2 (gC (gN 1) (gC (gN 2) gZ))))
  (sRet (c2 addD (cL (cLcK [3] (iR1 (cK (.int 12))) (kN 3) bYes (cCall 2 F__law_lowest (cCons (c2 addD (c2 mulD (cK (.int 12)) (c2 ixD (cV 0) (cK (.int 0)))) (c2 mulD (c2 addD (cV 3) (cK (.int 1))) (cV 1))) (cCons (cK (.int 12)) cNil))))) (cL (cLcK [3] (iR1 (cK (.int 12))) (kN 3) bYes (cCall 2 F__law_lowest (cCons (c2 addD (c2 mulD (cK (.int 12)) (c2 ixD (cV 0) (cK (.int 1)))) (c2 mulD (c2 addD (cV 3) (cK (.int 1))) (cV 2))) (cCons (cK (.int 12)) cNil))))))))
def F__law_ends (ds : List PD) : R PD := fin (g__law_ends (startE 4 ds))
def g__law_on_l1 : En → Fl := (sIf (bC eqD (c2 ixD (c2 ixD (cV 0) (cV 2)) (cK (.int 0))) (cV 1))
  (sRet (cTup (cCons (cTup (cCons (c2 ixD (c2 ixD (c2 ixD (cV 0) (cV 2)) (cK (.int 1))) (cK (.int 0))) (cCons (cK (.int 1)) cNil))) (cCons (cTup (cCons (c2 ixD (c2 ixD (c2 ixD (cV 0) (cV 2)) (cK (.int 1))) (cK (.int 1))) (cCons (cK (.int 1)) cNil))) cNil))))
  sNx)
def g__law_on : En → Fl := (sSeq (sFor (iR1 (cCl lenD (cCons (cV 0) cNil))) (gN 2) g__law_on_l1)
  (sSeq (sSet 2 (cCl maxD1 (cCons (cL (cLcK [7] (iR1 (cCl lenD (cCons (cV 0) cNil))) (kN 7) (bC ltD (c2 ixD (c2 ixD (cV 0) (cV 7)) (cK (.int 0))) (cV 1)) (cV 7))) cNil)))
  (sSeq (sAsg (cTup (cCons (c2 ixD (cV 0) (cV 2)) (cCons (c2 ixD (cV 0) (c2 addD (cV 2) (cK (.int 1)))) cNil))) (gT 2 (gC (gT 2 (gC (gN 3) (gC (gN 4) gZ))) (gC (gT 2 (gC (gN 5) (gC (gN 6) gZ))) gZ))))
  (sRet (cCl tupD (cCons (cL (cLcK [7] (iR1 (cK (.int 2))) (kN 7) bYes (cCall 2 F__law_lowest (cCons (c2 addD (c2 mulD (c2 ixD (cV 4) (cV 7)) (c2 subD (cV 5) (cV 1))) (c2 mulD (c2 ixD (cV 6) (cV 7)) (c2 subD (cV 1) (cV 3)))) (cCons (c2 subD (cV 5) (cV 3)) cNil))))) cNil))))))
def F__law_on (ds : List PD) : R PD := fin (g__law_on (startE 8 ds))
def g_plus : En → Fl := (sRet (cCall 2 F_quotient (cCons (c2 addD (c2 mulD (c2 ixD (cV 0) (cK (.int 0))) (c2 ixD (cV 1) (cK (.int 1)))) (c2 mulD (c2 ixD (cV 1) (cK (.int 0))) (c2 ixD (cV 0) (cK (.int 1))))) (cCons (c2 mulD (c2 ixD (cV 0) (cK (.int 1))) (c2 ixD (cV 1) (cK (.int 1)))) cNil))))
def F_plus (ds : List PD) : R PD := fin (g_plus (startE 2 ds))
def g_minus : En → Fl := (sRet (cCall 2 F_quotient (cCons (c2 subD (c2 mulD (c2 ixD (cV 0) (cK (.int 0))) (c2 ixD (cV 1) (cK (.int 1)))) (c2 mulD (c2 ixD (cV 1) (cK (.int 0))) (c2 ixD (cV 0) (cK (.int 1))))) (cCons (c2 mulD (c2 ixD (cV 0) (cK (.int 1))) (c2 ixD (cV 1) (cK (.int 1)))) cNil))))
def F_minus (ds : List PD) : R PD := fin (g_minus (startE 2 ds))
def g_times : En → Fl := (sRet (cCall 2 F_quotient (cCons (c2 mulD (c2 ixD (cV 0) (cK (.int 0))) (c2 ixD (cV 1) (cK (.int 0)))) (cCons (c2 mulD (c2 ixD (cV 0) (cK (.int 1))) (c2 ixD (cV 1) (cK (.int 1)))) cNil))))
def F_times (ds : List PD) : R PD := fin (g_times (startE 2 ds))
def g_over : En → Fl := (sRet (cCall 2 F_quotient (cCons (c2 mulD (c2 ixD (cV 0) (cK (.int 0))) (c2 ixD (cV 1) (cK (.int 1)))) (cCons (c2 mulD (c2 ixD (cV 0) (cK (.int 1))) (c2 ixD (cV 1) (cK (.int 0)))) cNil))))
def F_over (ds : List PD) : R PD := fin (g_over (startE 2 ds))
def g__check_day : En → Fl := (sIf (bNot (bT (cCall 1 F_is_day (cCons (cV 0) cNil))))
  (sExc "BadDay")
  sNx)
def F__check_day (ds : List PD) : R PD := fin (g__check_day (startE 1 ds))
def g__lengths : En → Fl := (sSeq (sSet 1 (c2 subD (c2 ixD (cV 0) (cK (.int 1))) (c2 ixD (cV 0) (cK (.int 0)))))
  (sRet (cTup (cCons (cCall 2 F_quotient (cCons (cV 1) (cCons (cK (.int 12)) cNil))) (cCons (cCall 2 F_quotient (cCons (c2 subD (cK (.int 1440)) (cV 1)) (cCons (cK (.int 12)) cNil))) cNil)))))
def F__lengths (ds : List PD) : R PD := fin (g__lengths (startE 2 ds))
def g__is_told : En → Fl := (sSeq (sIf (bOr (bNot (bT (isaD PyData.isTuple (cV 0)))) (bOr (bC neD (cCl lenD (cCons (cV 0) cNil)) (cK (.int 2))) (bOr (bNot (bT (isaD PyData.isStr (c2 ixD (cV 0) (cK (.int 0)))))) (bC notinD (c2 ixD (cV 0) (cK (.int 0))) (cTup (cCons (cK (.str "day")) (cCons (cK (.str "night")) cNil)))))))
  (sRet (cK (.bool false)))
  sNx)
  (sRet (cAnd (cCall 1 F_is_quotient (cCons (c2 ixD (cV 0) (cK (.int 1))) cNil)) (cAnd (cNot (cCall 2 F_is_less (cCons (c2 ixD (cV 0) (cK (.int 1))) (cCons (cK (.tuple [.int 0, .int 1])) cNil)))) (cCall 2 F_is_less (cCons (c2 ixD (cV 0) (cK (.int 1))) (cCons (cTup (cCons (cK (.int 12)) (cCons (cK (.int 1)) cNil))) cNil)))))))
def F__is_told (ds : List PD) : R PD := fin (g__is_told (startE 1 ds))
def g__check_table : En → Fl := (sSeq (sIf (bOr (bNot (bT (isaD PyData.isTuple (cV 0)))) (bNot (bChain leD leD (cK (.int 1)) (cCl lenD (cCons (cV 0) cNil)) (cK (.int 40)))))
  (sExc "BadTable")
  sNx)
  (sSeq (sIf (bNot (bT (cCl allD (cCons (cL (cLcK [1] (iSeq (cV 0)) (kN 1) bYes (cAnd (isaD PyData.isTuple (cV 1)) (cAnd (c2 eqD (cCl lenD (cCons (cV 1) cNil)) (cK (.int 2))) (cCall 1 F_is_day (cCons (c2 ixD (cV 1) (cK (.int 1))) cNil)))))) cNil))))
  (sExc "BadTable")
  sNx)
  (sIf (bOr (bNot (bT (cCl allD (cCons (cL (cLcK [1] (iSeq (cV 0)) (kN 1) bYes (cCall 3 F_is_whole (cCons (c2 ixD (cV 1) (cK (.int 0))) (cCons (cK (.int 0)) (cCons (cK (.int 400)) cNil)))))) cNil)))) (bNot (bT (cCall 1 F_ascends (cCons (cL (cLcK [1] (iSeq (cV 0)) (kN 1) bYes (c2 ixD (cV 1) (cK (.int 0))))) cNil)))))
  (sExc "BadTable")
  sNx)))
def F__check_table (ds : List PD) : R PD := fin (g__check_table (startE 2 ds))
def g__between : En → Fl := (sSeq (sSet 4 (c2 subD (c2 ixD (cV 1) (cK (.int 0))) (c2 ixD (cV 0) (cK (.int 0)))))
  (sSeq (sSet 5 (c2 mulD (c2 subD (c2 ixD (c2 ixD (cV 1) (cK (.int 1))) (cV 3)) (c2 ixD (c2 ixD (cV 0) (cK (.int 1))) (cV 3))) (c2 subD (cV 2) (c2 ixD (cV 0) (cK (.int 0))))))
  (sRet (cCall 2 F_quotient (cCons (c2 addD (c2 mulD (c2 ixD (c2 ixD (cV 0) (cK (.int 1))) (cV 3)) (cV 4)) (cV 5)) (cCons (cV 4) cNil))))))
def F__between (ds : List PD) : R PD := fin (g__between (startE 6 ds))
def g_hour_lengths : En → Fl := (sSeq (sDrop (cCall 1 F__check_day (cCons (cV 0) cNil)))
  (sRet (cCall 1 F__lengths (cCons (cV 0) cNil))))
def F_hour_lengths (ds : List PD) : R PD := fin (g_hour_lengths (startE 1 ds))
def g__check_moment : En → Fl := (sSeq (sDrop (cCall 1 F__check_day (cCons (cV 0) cNil)))
  (sIf (bOr (bNot (bT (cCall 1 F_is_quotient (cCons (cV 1) cNil)))) (bOr (bT (cCall 2 F_is_less (cCons (cV 1) (cCons (cTup (cCons (c2 ixD (cV 0) (cK (.int 0))) (cCons (cK (.int 1)) cNil))) cNil)))) (bNot (bT (cCall 2 F_is_less (cCons (cV 1) (cCons (cTup (cCons (c2 addD (c2 ixD (cV 0) (cK (.int 0))) (cK (.int 1440))) (cCons (cK (.int 1)) cNil))) cNil)))))))
  (sExc "BadMoment")
  sNx))
def F__check_moment (ds : List PD) : R PD := fin (g__check_moment (startE 2 ds))
def g__told_at : En → Fl := (sSeq (sAsg (cCall 1 F__lengths (cCons (cV 0) cNil)) (gT 2 (gC (gN 2) (gC (gN 3) gZ))))
  (sSeq (sIf (bT (cCall 2 F_is_less (cCons (cV 1) (cCons (cTup (cCons (c2 ixD (cV 0) (cK (.int 1))) (cCons (cK (.int 1)) cNil))) cNil))))
  (sRet (cTup (cCons (cK (.str "day")) (cCons (cCall 2 F_over (cCons (cCall 2 F_minus (cCons (cV 1) (cCons (cTup (cCons (c2 ixD (cV 0) (cK (.int 0))) (cCons (cK (.int 1)) cNil))) cNil))) (cCons (cV 2) cNil))) cNil))))
  sNx)
  (sRet (cTup (cCons (cK (.str "night")) (cCons (cCall 2 F_over (cCons (cCall 2 F_minus (cCons (cV 1) (cCons (cTup (cCons (c2 ixD (cV 0) (cK (.int 1))) (cCons (cK (.int 1)) cNil))) cNil))) (cCons (cV 3) cNil))) cNil))))))
def F__told_at (ds : List PD) : R PD := fin (g__told_at (startE 4 ds))
def g_minute_of : En → Fl := (sSeq (sDrop (cCall 1 F__check_day (cCons (cV 0) cNil)))
  (sSeq (sIf (bNot (bT (cCall 1 F__is_told (cCons (cV 1) cNil))))
  (sExc "BadTold")
  sNx)
  (sSeq (sAsg (cCall 1 F__lengths (cCons (cV 0) cNil)) (gT 2 (gC (gN 2) (gC (gN 3) gZ))))
  (sSeq (sAsg (cIf (bC eqD (c2 ixD (cV 1) (cK (.int 0))) (cK (.str "day"))) (cTup (cCons (c2 ixD (cV 0) (cK (.int 0))) (cCons (cV 2) cNil))) (cTup (cCons (c2 ixD (cV 0) (cK (.int 1))) (cCons (cV 3) cNil)))) (gT 2 (gC (gN 4) (gC (gN 5) gZ))))
  (sRet (cCall 2 F_plus (cCons (cTup (cCons (cV 4) (cCons (cK (.int 1)) cNil))) (cCons (cCall 2 F_times (cCons (c2 ixD (cV 1) (cK (.int 1))) (cCons (cV 5) cNil))) cNil))))))))
def F_minute_of (ds : List PD) : R PD := fin (g_minute_of (startE 6 ds))
def g__day_on : En → Fl := (sSeq (sSet 2 (c2 ixD (cL (cLcK [4] (iSeq (cV 0)) (kN 4) (bC leD (c2 ixD (cV 4) (cK (.int 0))) (cV 1)) (cV 4))) (c1 negD (cK (.int 1)))))
  (sSeq (sIf (bC eqD (c2 ixD (cV 2) (cK (.int 0))) (cV 1))
  (sRet (cTup (cCons (cTup (cCons (c2 ixD (c2 ixD (cV 2) (cK (.int 1))) (cK (.int 0))) (cCons (cK (.int 1)) cNil))) (cCons (cTup (cCons (c2 ixD (c2 ixD (cV 2) (cK (.int 1))) (cK (.int 1))) (cCons (cK (.int 1)) cNil))) cNil))))
  sNx)
  (sSeq (sSet 3 (c2 ixD (cL (cLcK [4] (iSeq (cV 0)) (kN 4) (bC gtD (c2 ixD (cV 4) (cK (.int 0))) (cV 1)) (cV 4))) (cK (.int 0))))
  (sRet (cTup (cCons (cCall 4 F__between (cCons (cV 2) (cCons (cV 3) (cCons (cV 1) (cCons (cK (.int 0)) cNil))))) (cCons (cCall 4 F__between (cCons (cV 2) (cCons (cV 3) (cCons (cV 1) (cCons (cK (.int 1)) cNil))))) cNil)))))))
def F__day_on (ds : List PD) : R PD := fin (g__day_on (startE 5 ds))
def g_longest_l1 : En → Fl := (sSet 1 (cIf (bC gtD (c2 subD (c2 ixD (c2 ixD (cV 2) (cK (.int 1))) (cK (.int 1))) (c2 ixD (c2 ixD (cV 2) (cK (.int 1))) (cK (.int 0)))) (c2 subD (c2 ixD (c2 ixD (cV 1) (cK (.int 1))) (cK (.int 1))) (c2 ixD (c2 ixD (cV 1) (cK (.int 1))) (cK (.int 0))))) (cV 2) (cV 1)))
def g_longest : En → Fl := (sSeq (sDrop (cCall 1 F__check_table (cCons (cV 0) cNil)))
  (sSeq (sSet 1 (c2 ixD (cV 0) (cK (.int 0))))
  (sSeq (sFor (iSeq (cSl (cV 0) (oS (cK (.int 1))) oN)) (gN 2) g_longest_l1)
  (sRet (c2 ixD (cV 1) (cK (.int 0)))))))
def F_longest (ds : List PD) : R PD := fin (g_longest (startE 3 ds))
def g_told_at : En → Fl := (sSeq (sDrop (cCall 2 F__check_moment (cCons (cV 0) (cCons (cV 1) cNil))))
  (sRet (cCall 2 F__told_at (cCons (cV 0) (cCons (cV 1) cNil)))))
def F_told_at (ds : List PD) : R PD := fin (g_told_at (startE 2 ds))
def g_stroke : En → Fl := (sSeq (sDrop (cCall 2 F__check_moment (cCons (cV 0) (cCons (cV 1) cNil))))
  (sSeq (sAsg (cCall 2 F__told_at (cCons (cV 0) (cCons (cV 1) cNil))) (gT 2 (gC (gN 2) (gC (gN 3) gZ))))
  (sRet (cTup (cCons (cV 2) (cCons (c2 addD (c2 fdivD (c2 ixD (cV 3) (cK (.int 0))) (c2 ixD (cV 3) (cK (.int 1)))) (cK (.int 1))) cNil))))))
def F_stroke (ds : List PD) : R PD := fin (g_stroke (startE 4 ds))
def g_strokes_by : En → Fl := (sSeq (sDrop (cCall 2 F__check_moment (cCons (cV 0) (cCons (cV 1) cNil))))
  (sSeq (sAsg (cCall 2 F__told_at (cCons (cV 0) (cCons (cV 1) cNil))) (gT 2 (gC (gN 2) (gC (gN 3) gZ))))
  (sRet (c2 addD (c2 fdivD (c2 ixD (cV 3) (cK (.int 0))) (c2 ixD (cV 3) (cK (.int 1)))) (cIf (bC eqD (cV 2) (cK (.str "night"))) (cK (.int 12)) (cK (.int 0)))))))
def F_strokes_by (ds : List PD) : R PD := fin (g_strokes_by (startE 4 ds))
def g_next_stroke : En → Fl := (sSeq (sDrop (cCall 2 F__check_moment (cCons (cV 0) (cCons (cV 1) cNil))))
  (sSeq (sAsg (cCall 2 F__told_at (cCons (cV 0) (cCons (cV 1) cNil))) (gT 2 (gC (gN 2) (gC (gN 3) gZ))))
  (sSeq (sAsg (cCall 1 F__lengths (cCons (cV 0) cNil)) (gT 2 (gC (gN 4) (gC (gN 5) gZ))))
  (sSeq (sAsg (cIf (bC eqD (cV 2) (cK (.str "day"))) (cTup (cCons (c2 ixD (cV 0) (cK (.int 0))) (cCons (cV 4) cNil))) (cTup (cCons (c2 ixD (cV 0) (cK (.int 1))) (cCons (cV 5) cNil)))) (gT 2 (gC (gN 6) (gC (gN 7) gZ))))
  (sRet (cCall 2 F_plus (cCons (cTup (cCons (cV 6) (cCons (cK (.int 1)) cNil))) (cCons (cCall 2 F_times (cCons (cTup (cCons (c2 addD (c2 fdivD (c2 ixD (cV 3) (cK (.int 0))) (c2 ixD (cV 3) (cK (.int 1)))) (cK (.int 1))) (cCons (cK (.int 1)) cNil))) (cCons (cV 7) cNil))) cNil))))))))
def F_next_stroke (ds : List PD) : R PD := fin (g_next_stroke (startE 8 ds))
def g_day_on : En → Fl := (sSeq (sDrop (cCall 1 F__check_table (cCons (cV 0) cNil)))
  (sSeq (sDrop (cCall 2 F__check_number (cCons (cV 0) (cCons (cV 1) cNil))))
  (sRet (cCall 2 F__day_on (cCons (cV 0) (cCons (cV 1) cNil))))))
def F_day_on (ds : List PD) : R PD := fin (g_day_on (startE 2 ds))
def g__light : En → Fl := (sSeq (sAsg (cCall 2 F__day_on (cCons (cV 0) (cCons (cV 1) cNil))) (gT 2 (gC (gN 2) (gC (gN 3) gZ))))
  (sRet (cCall 2 F_minus (cCons (cV 3) (cCons (cV 2) cNil)))))
def F__light (ds : List PD) : R PD := fin (g__light (startE 4 ds))
def g_even_days : En → Fl := (sSeq (sDrop (cCall 1 F__check_table (cCons (cV 0) cNil)))
  (sSeq (sSet 1 (cL (cRgL (xR2 (c2 ixD (c2 ixD (cV 0) (cK (.int 0))) (cK (.int 0))) (c2 addD (c2 ixD (c2 ixD (cV 0) (c1 negD (cK (.int 1)))) (cK (.int 0))) (cK (.int 1)))))))
  (sRet (cCl tupD (cCons (cL (cLcK [2] (iSeq (cV 1)) (kN 2) (bC eqD (cCall 2 F__light (cCons (cV 0) (cCons (cV 2) cNil))) (cK (.tuple [.int 720, .int 1]))) (cV 2))) cNil)))))
def F_even_days (ds : List PD) : R PD := fin (g_even_days (startE 3 ds))
def g_candle_hours : En → Fl := (sSeq (sDrop (cCall 1 F__check_table (cCons (cV 0) cNil)))
  (sSeq (sDrop (cCall 2 F__check_number (cCons (cV 0) (cCons (cV 1) cNil))))
  (sSeq (sIf (bNot (bT (cCall 3 F_is_whole (cCons (cV 2) (cCons (cK (.int 1)) (cCons (cK (.int 1440)) cNil))))))
  (sExc "BadSize")
  sNx)
  (sSeq (sSet 3 (cCall 2 F_minus (cCons (cTup (cCons (cK (.int 1440)) (cCons (cK (.int 1)) cNil))) (cCons (cCall 2 F__light (cCons (cV 0) (cCons (cV 1) cNil))) cNil))))
  (sSeq (sSet 4 (cCall 2 F_over (cCons (cTup (cCons (c2 mulD (cV 2) (cK (.int 12))) (cCons (cK (.int 1)) cNil))) (cCons (cV 3) cNil))))
  (sRet (cIf (bT (cCall 2 F_is_less (cCons (cV 4) (cCons (cTup (cCons (cK (.int 12)) (cCons (cK (.int 1)) cNil))) cNil)))) (cV 4) (cTup (cCons (cK (.int 12)) (cCons (cK (.int 1)) cNil))))))))))
def F_candle_hours (ds : List PD) : R PD := fin (g_candle_hours (startE 5 ds))
def g_shortest_candle_l1 : En → Fl := (sSeq (sSet 3 (cCall 2 F_minus (cCons (cTup (cCons (cK (.int 1440)) (cCons (cK (.int 1)) cNil))) (cCons (cCall 2 F__light (cCons (cV 0) (cCons (cV 2) cNil))) cNil))))
  (sSet 1 (cIf (bT (cCall 2 F_is_less (cCons (cV 1) (cCons (cV 3) cNil)))) (cV 3) (cV 1))))
def g_shortest_candle : En → Fl := (sSeq (sDrop (cCall 1 F__check_table (cCons (cV 0) cNil)))
  (sSeq (sSet 1 (cTup (cCons (cK (.int 0)) (cCons (cK (.int 1)) cNil))))
  (sSeq (sFor (iR2 (c2 ixD (c2 ixD (cV 0) (cK (.int 0))) (cK (.int 0))) (c2 addD (c2 ixD (c2 ixD (cV 0) (c1 negD (cK (.int 1)))) (cK (.int 0))) (cK (.int 1)))) (gN 2) g_shortest_candle_l1)
  (sRet (c2 fdivD (c2 subD (c2 addD (c2 ixD (cV 1) (cK (.int 0))) (c2 ixD (cV 1) (cK (.int 1)))) (cK (.int 1))) (c2 ixD (cV 1) (cK (.int 1))))))))
def F_shortest_candle (ds : List PD) : R PD := fin (g_shortest_candle (startE 4 ds))
def g__law_error : En → Fl := (sSeq (sTry excs
  (sIf (bC eqD (cV 0) (cK (.int 0)))
  (sDrop (cCall 1 F_hour_lengths (cCons (cV 1) cNil)))
  (sIf (bC eqD (cV 0) (cK (.int 1)))
  (sDrop (cCall 2 F_told_at (cCons (cV 1) (cCons (cV 2) cNil))))
  (sIf (bC eqD (cV 0) (cK (.int 2)))
  (sDrop (cCall 2 F_stroke (cCons (cV 1) (cCons (cV 2) cNil))))
  (sIf (bC eqD (cV 0) (cK (.int 3)))
  (sDrop (cCall 2 F_strokes_by (cCons (cV 1) (cCons (cV 2) cNil))))
  (sIf (bC eqD (cV 0) (cK (.int 4)))
  (sDrop (cCall 2 F_next_stroke (cCons (cV 1) (cCons (cV 2) cNil))))
  (sIf (bC eqD (cV 0) (cK (.int 5)))
  (sDrop (cCall 2 F_minute_of (cCons (cV 1) (cCons (cV 2) cNil))))
  (sIf (bC eqD (cV 0) (cK (.int 6)))
  (sDrop (cCall 1 F_longest (cCons (cV 1) cNil)))
  (sIf (bC eqD (cV 0) (cK (.int 7)))
  (sDrop (cCall 1 F_even_days (cCons (cV 1) cNil)))
  (sIf (bC eqD (cV 0) (cK (.int 8)))
  (sDrop (cCall 1 F_shortest_candle (cCons (cV 1) cNil)))
  (sIf (bC eqD (cV 0) (cK (.int 9)))
  (sDrop (cCall 2 F_day_on (cCons (cV 1) (cCons (cV 2) cNil))))
  (sDrop (cCall 3 F_candle_hours (cCons (cV 1) (cCons (cV 2) (cCons (cV 3) cNil)))))))))))))))
  [("BadDay", (sRet (cK (.str "day")))), ("BadMoment", (sRet (cK (.str "moment")))), ("BadTold", (sRet (cK (.str "told")))), ("BadTable", (sRet (cK (.str "table")))), ("BadNumber", (sRet (cK (.str "number")))), ("BadSize", (sRet (cK (.str "size"))))])
  (sRet (cK (.str "none"))))
def F__law_error (ds : List PD) : R PD := fin (g__law_error (startE 4 ds))
def g__law_refuses_l1 : En → Fl := (sIf (bC neD (c2 addD (cL (cLcK [3] (iR1 (cK (.int 5))) (kN 3) bYes (cCall 4 F__law_error (cCons (cV 3) (cCons (cV 1) (cCons (cTup (cCons (cK (.int 400)) (cCons (cK (.int 1)) cNil))) (cCons (cK .none) cNil))))))) (cL (cLst (cCons (cCall 4 F__law_error (cCons (cK (.int 5)) (cCons (cV 1) (cCons (cTup (cCons (cK (.str "day")) (cCons (cTup (cCons (cK (.int 1)) (cCons (cK (.int 1)) cNil))) cNil))) (cCons (cK .none) cNil))))) cNil)))) (cL (cRepL (cLst (cCons (cK (.str "day")) cNil)) (cK (.int 6)))))
  (sRet (cK (.bool false)))
  sNx)
def g__law_refuses_l2 : En → Fl := (sIf (bC neD (cL (cLcK [3] (iSeq (cTup (cCons (cK (.int 1)) (cCons (cK (.int 2)) (cCons (cK (.int 3)) (cCons (cK (.int 4)) cNil)))))) (kN 3) bYes (cCall 4 F__law_error (cCons (cV 3) (cCons (cV 0) (cCons (cV 1) (cCons (cK .none) cNil))))))) (cL (cRepL (cLst (cCons (cK (.str "moment")) cNil)) (cK (.int 4)))))
  (sRet (cK (.bool false)))
  sNx)
def g__law_refuses_l3 : En → Fl := (sIf (bC neD (cL (cLcK [3] (iSeq (cTup (cCons (cK (.int 6)) (cCons (cK (.int 7)) (cCons (cK (.int 8)) (cCons (cK (.int 9)) (cCons (cK (.int 10)) cNil))))))) (kN 3) bYes (cCall 4 F__law_error (cCons (cV 3) (cCons (cV 1) (cCons (cK (.int 0)) (cCons (cK (.int 1)) cNil))))))) (cL (cRepL (cLst (cCons (cK (.str "table")) cNil)) (cK (.int 5)))))
  (sRet (cK (.bool false)))
  sNx)
def g__law_refuses : En → Fl := (sSeq (sSet 0 (cTup (cCons (cK (.int 360)) (cCons (cK (.int 1080)) cNil))))
  (sSeq (sFor (iSeq (cTup (cCons (cK .none) (cCons (cTup cNil) (cCons (cTup (cCons (cK (.int 1)) cNil)) (cCons (cL (cLst (cCons (cK (.int 1)) (cCons (cK (.int 2)) cNil)))) (cCons (cTup (cCons (cK (.int 5)) (cCons (cK (.int 5)) cNil))) (cCons (cTup (cCons (cK (.int 6)) (cCons (cK (.int 5)) cNil))) (cCons (cTup (cCons (c1 negD (cK (.int 1))) (cCons (cK (.int 5)) cNil))) (cCons (cTup (cCons (cK (.int 0)) (cCons (cK (.int 1440)) cNil))) (cCons (cTup (cCons (cK (.bool true)) (cCons (cK (.int 5)) cNil))) (cCons (cTup (cCons (cK (.int 1)) (cCons (cK (.int 2)) (cCons (cK (.int 3)) cNil)))) cNil)))))))))))) (gN 1) g__law_refuses_l1)
  (sSeq (sFor (iSeq (cTup (cCons (cK .none) (cCons (cK (.int 400)) (cCons (cTup (cCons (cK (.int 359)) (cCons (cK (.int 1)) cNil))) (cCons (cTup (cCons (cK (.int 1800)) (cCons (cK (.int 1)) cNil))) (cCons (cTup (cCons (cK (.int 800)) (cCons (cK (.int 2)) cNil))) (cCons (cTup (cCons (cK (.int 400)) (cCons (cK (.int 0)) cNil))) (cCons (cTup (cCons (cK (.bool true)) (cCons (cK (.int 1)) cNil))) (cCons (cL (cLst (cCons (cK (.int 400)) (cCons (cK (.int 1)) cNil)))) cNil)))))))))) (gN 1) g__law_refuses_l2)
  (sSeq (sIf (bC neD (cL (cLcK [1] (iSeq (cTup (cCons (cK .none) (cCons (cTup (cCons (cK (.str "day")) cNil)) (cCons (cTup (cCons (cK (.str "noon")) (cCons (cTup (cCons (cK (.int 1)) (cCons (cK (.int 1)) cNil))) cNil))) (cCons (cTup (cCons (cK (.str "day")) (cCons (cTup (cCons (cK (.int 12)) (cCons (cK (.int 1)) cNil))) cNil))) (cCons (cTup (cCons (cK (.str "day")) (cCons (cTup (cCons (c1 negD (cK (.int 1))) (cCons (cK (.int 1)) cNil))) cNil))) (cCons (cTup (cCons (cK (.str "day")) (cCons (cTup (cCons (cK (.int 2)) (cCons (cK (.int 2)) cNil))) cNil))) (cCons (cL (cLst (cCons (cK (.str "day")) (cCons (cTup (cCons (cK (.int 1)) (cCons (cK (.int 1)) cNil))) cNil)))) (cCons (cTup (cCons (cK (.str "day")) (cCons (cK (.int 1)) cNil))) cNil)))))))))) (kN 1) bYes (cCall 4 F__law_error (cCons (cK (.int 5)) (cCons (cV 0) (cCons (cV 1) (cCons (cK .none) cNil))))))) (cL (cRepL (cLst (cCons (cK (.str "told")) cNil)) (cK (.int 8)))))
  (sRet (cK (.bool false)))
  sNx)
  (sSeq (sFor (iSeq (cTup (cCons (cK .none) (cCons (cTup cNil) (cCons (cL (cLst (cCons (cTup (cCons (cK (.int 0)) (cCons (cV 0) cNil))) cNil))) (cCons (cTup (cCons (cTup (cCons (cK (.int 0)) (cCons (cTup (cCons (cK (.int 5)) (cCons (cK (.int 5)) cNil))) cNil))) cNil)) (cCons (cTup (cCons (cTup (cCons (cK (.int 401)) (cCons (cV 0) cNil))) cNil)) (cCons (cTup (cCons (cTup (cCons (cK (.int 0)) (cCons (cV 0) cNil))) (cCons (cTup (cCons (cK (.int 0)) (cCons (cV 0) cNil))) cNil))) (cCons (cTup (cCons (cTup (cCons (cK (.int 1)) (cCons (cV 0) cNil))) (cCons (cTup (cCons (cK (.int 0)) (cCons (cV 0) cNil))) cNil))) (cCons (cTup (cCons (cTup (cCons (cK (.int 0)) cNil)) cNil)) (cCons (cTup (cCons (cTup (cCons (cK (.bool true)) (cCons (cV 0) cNil))) cNil)) (cCons (cCl tupD (cCons (cL (cLcK [4] (iR1 (cK (.int 41))) (kN 4) bYes (cTup (cCons (cV 4) (cCons (cV 0) cNil))))) cNil)) cNil)))))))))))) (gN 1) g__law_refuses_l3)
  (sSeq (sSet 2 (cTup (cCons (cTup (cCons (cK (.int 3)) (cCons (cV 0) cNil))) (cCons (cTup (cCons (cK (.int 9)) (cCons (cTup (cCons (cK (.int 300)) (cCons (cK (.int 1140)) cNil))) cNil))) cNil))))
  (sSeq (sIf (bNot (bT (cCl allD (cCons (cL (cLcK [1] (iSeq (cTup (cCons (cK (.int 2)) (cCons (cK (.int 10)) (cCons (cK (.bool true)) (cCons (cK .none) cNil)))))) (kN 1) bYes (c2 eqD (cL (cLcK [3] (iSeq (cTup (cCons (cK (.int 9)) (cCons (cK (.int 10)) cNil)))) (kN 3) bYes (cCall 4 F__law_error (cCons (cV 3) (cCons (cV 2) (cCons (cV 1) (cCons (cK (.int 1)) cNil))))))) (cL (cRepL (cLst (cCons (cK (.str "number")) cNil)) (cK (.int 2))))))) cNil))))
  (sRet (cK (.bool false)))
  sNx)
  (sSeq (sIf (bC neD (cL (cLcK [1] (iSeq (cTup (cCons (cK (.int 0)) (cCons (cK (.int 1441)) (cCons (cK (.bool true)) (cCons (cK .none) cNil)))))) (kN 1) bYes (cCall 4 F__law_error (cCons (cK (.int 10)) (cCons (cV 2) (cCons (cK (.int 5)) (cCons (cV 1) cNil))))))) (cL (cRepL (cLst (cCons (cK (.str "size")) cNil)) (cK (.int 4)))))
  (sRet (cK (.bool false)))
  sNx)
  (sRet (cAnd (c2 eqD (cCall 2 F_told_at (cCons (cV 0) (cCons (cTup (cCons (cK (.int 720)) (cCons (cK (.int 1)) cNil))) cNil))) (cTup (cCons (cK (.str "day")) (cCons (cTup (cCons (cK (.int 6)) (cCons (cK (.int 1)) cNil))) cNil)))) (cAnd (c2 eqD (cCall 2 F_stroke (cCons (cV 0) (cCons (cTup (cCons (cK (.int 1080)) (cCons (cK (.int 1)) cNil))) cNil))) (cTup (cCons (cK (.str "night")) (cCons (cK (.int 1)) cNil)))) (cAnd (c2 eqD (cCall 2 F_strokes_by (cCons (cV 0) (cCons (cTup (cCons (cK (.int 1080)) (cCons (cK (.int 1)) cNil))) cNil))) (cK (.int 12))) (cAnd (c2 eqD (cCall 1 F_even_days (cCons (cV 2) cNil)) (cTup (cCons (cK (.int 3)) cNil))) (c2 eqD (cCall 1 F_shortest_candle (cCons (cV 2) cNil)) (cK (.int 720))))))))))))))))
def F__law_refuses (ds : List PD) : R PD := fin (g__law_refuses (startE 5 ds))
def g_law_l1 : En → Fl := (sSeq (sSet 9 (cCall 2 F__law_told (cCons (cV 3) (cCons (cV 8) cNil))))
  (sSeq (sIf (bOr (bC neD (cCall 2 F_told_at (cCons (cV 3) (cCons (cV 8) cNil))) (cV 9)) (bC neD (cCall 2 F_minute_of (cCons (cV 3) (cCons (cV 9) cNil))) (cV 8)))
  (sRet (cK (.bool false)))
  sNx)
  (sSeq (sSet 10 (cCl lenD (cCons (cL (cLcK [25] (iSeq (cV 7)) (kN 25) (bC leD (c2 mulD (c2 ixD (cV 25) (cK (.int 0))) (c2 ixD (cV 8) (cK (.int 1)))) (c2 mulD (c2 ixD (cV 8) (cK (.int 0))) (c2 ixD (cV 25) (cK (.int 1))))) (cV 25))) cNil)))
  (sIf (bOr (bC neD (cCall 2 F_strokes_by (cCons (cV 3) (cCons (cV 8) cNil))) (cV 10)) (bOr (bC neD (cCall 2 F_stroke (cCons (cV 3) (cCons (cV 8) cNil))) (cTup (cCons (c2 ixD (cL (cLst (cCons (cK (.str "day")) (cCons (cK (.str "night")) cNil)))) (c2 fdivD (cV 10) (cK (.int 12)))) (cCons (c2 addD (c2 modD (cV 10) (cK (.int 12))) (cK (.int 1))) cNil)))) (bC neD (cCall 2 F_next_stroke (cCons (cV 3) (cCons (cV 8) cNil))) (c2 ixD (cV 7) (cV 10)))))
  (sRet (cK (.bool false)))
  sNx))))
def g_law_l2 : En → Fl := (sSeq (sSet 3 (cCall 2 F__law_day (cCons (cCl intD (cCons (c2 ixD (cV 1) (cV 2)) cNil)) (cCons (cCl intD (cCons (c2 ixD (cV 1) (c2 addD (cK (.int 5)) (cV 2))) cNil)) cNil))))
  (sSeq (sPar 4 5 (c2 subD (c2 ixD (cV 3) (cK (.int 1))) (c2 ixD (cV 3) (cK (.int 0)))) (c2 addD (c2 subD (cK (.int 1440)) (c2 ixD (cV 3) (cK (.int 1)))) (c2 ixD (cV 3) (cK (.int 0)))))
  (sSeq (sIf (bC neD (cCall 1 F_hour_lengths (cCons (cV 3) cNil)) (cTup (cCons (cCall 2 F__law_lowest (cCons (cV 4) (cCons (cK (.int 12)) cNil))) (cCons (cCall 2 F__law_lowest (cCons (cV 5) (cCons (cK (.int 12)) cNil))) cNil))))
  (sRet (cK (.bool false)))
  sNx)
  (sSeq (sSet 6 (c2 addD (cK (.int 1)) (c2 modD (cCl intD (cCons (c2 ixD (cV 1) (c2 addD (cK (.int 10)) (cV 2))) cNil)) (cK (.int 9)))))
  (sSeq (sSet 7 (cCall 1 F__law_ends (cCons (cV 3) cNil)))
  (sSeq (sFor (iSeq (cTup (cCons (cCall 2 F__law_lowest (cCons (c2 addD (c2 mulD (c2 ixD (cV 3) (cK (.int 0))) (cV 6)) (c2 modD (cCl intD (cCons (c2 ixD (cV 1) (c2 addD (cK (.int 15)) (cV 2))) cNil)) (c2 mulD (cK (.int 1440)) (cV 6)))) (cCons (cV 6) cNil))) (cCons (c2 ixD (cV 7) (c2 modD (cCl intD (cCons (c2 ixD (cV 1) (c2 addD (cK (.int 20)) (cV 2))) cNil)) (cK (.int 23)))) (cCons (cTup (cCons (c2 ixD (cV 3) (cK (.int 0))) (cCons (cK (.int 1)) cNil))) cNil))))) (gN 8) g_law_l1)
  (sSeq (sPar 11 12 (cCall 2 F__law_lowest (cCons (c2 modD (cCl intD (cCons (c2 ixD (cV 1) (c2 addD (cK (.int 25)) (cV 2))) cNil)) (cK (.int 99))) (cCons (cV 6) cNil))) (cCall 2 F__law_lowest (cCons (c2 addD (cK (.int 1)) (c2 modD (cCl intD (cCons (c2 ixD (cV 1) (c2 addD (cK (.int 30)) (cV 2))) cNil)) (cK (.int 99)))) (cCons (c2 addD (cK (.int 1)) (c2 modD (cV 6) (cK (.int 7)))) cNil))))
  (sSeq (sIf (bOr (bC neD (cCall 2 F_plus (cCons (cV 11) (cCons (cV 12) cNil))) (cCall 2 F__law_lowest (cCons (c2 addD (c2 mulD (c2 ixD (cV 11) (cK (.int 0))) (c2 ixD (cV 12) (cK (.int 1)))) (c2 mulD (c2 ixD (cV 12) (cK (.int 0))) (c2 ixD (cV 11) (cK (.int 1))))) (cCons (c2 mulD (c2 ixD (cV 11) (cK (.int 1))) (c2 ixD (cV 12) (cK (.int 1)))) cNil)))) (bC neD (cCall 2 F_minus (cCons (cV 11) (cCons (cV 12) cNil))) (cCall 2 F__law_lowest (cCons (c2 subD (c2 mulD (c2 ixD (cV 11) (cK (.int 0))) (c2 ixD (cV 12) (cK (.int 1)))) (c2 mulD (c2 ixD (cV 12) (cK (.int 0))) (c2 ixD (cV 11) (cK (.int 1))))) (cCons (c2 mulD (c2 ixD (cV 11) (cK (.int 1))) (c2 ixD (cV 12) (cK (.int 1)))) cNil)))))
  (sRet (cK (.bool false)))
  sNx)
  (sSeq (sIf (bOr (bC neD (cCall 2 F_times (cCons (cV 11) (cCons (cV 12) cNil))) (cCall 2 F__law_lowest (cCons (c2 mulD (c2 ixD (cV 11) (cK (.int 0))) (c2 ixD (cV 12) (cK (.int 0)))) (cCons (c2 mulD (c2 ixD (cV 11) (cK (.int 1))) (c2 ixD (cV 12) (cK (.int 1)))) cNil)))) (bC neD (cCall 2 F_over (cCons (cV 11) (cCons (cV 12) cNil))) (cCall 2 F__law_lowest (cCons (c2 mulD (c2 ixD (cV 11) (cK (.int 0))) (c2 ixD (cV 12) (cK (.int 1)))) (cCons (c2 mulD (c2 ixD (cV 11) (cK (.int 1))) (c2 ixD (cV 12) (cK (.int 0)))) cNil)))))
  (sRet (cK (.bool false)))
  sNx)
  (sIf (bOr (bC neD (cCall 2 F_quotient (cCons (c2 mulD (cK (.int 10)) (c2 ixD (cV 11) (cK (.int 0)))) (cCons (c2 mulD (cK (.int 10)) (c2 ixD (cV 11) (cK (.int 1)))) cNil))) (cV 11)) (bC neD (cCall 2 F_is_less (cCons (cV 11) (cCons (cV 12) cNil))) (c2 ltD (c2 mulD (c2 ixD (cV 11) (cK (.int 0))) (c2 ixD (cV 12) (cK (.int 1)))) (c2 mulD (c2 ixD (cV 12) (cK (.int 0))) (c2 ixD (cV 11) (cK (.int 1)))))))
  (sRet (cK (.bool false)))
  sNx))))))))))
def g_law_l3 : En → Fl := (sSeq (sSet 15 (c2 addD (cK (.int 300)) (c2 mulD (c2 modD (cCl intD (cCons (c2 ixD (cV 1) (c2 addD (cK (.int 37)) (cV 2))) cNil)) (cK (.int 13))) (cK (.int 10)))))
  (sSeq (sApp 13 (cTup (cCons (cV 14) (cCons (cTup (cCons (cV 15) (cCons (c2 ixD (cL (cLst (cCons (c2 subD (cK (.int 1440)) (cV 15)) (cCons (c2 addD (cV 15) (cK (.int 720))) cNil)))) (c2 modD (cCl intD (cCons (c2 ixD (cV 1) (c2 addD (cK (.int 41)) (cV 2))) cNil)) (cK (.int 2)))) cNil))) cNil))))
  (sSet 14 (c2 addD (c2 addD (cV 14) (cK (.int 1))) (c2 modD (c2 fdivD (cCl intD (cCons (c2 ixD (cV 1) (c2 addD (cK (.int 41)) (cV 2))) cNil)) (cK (.int 2))) (cK (.int 9)))))))
def g_law_l4 : En → Fl := (sSeq (sAsg (cCall 2 F__law_on (cCons (cV 16) (cCons (cV 11) cNil))) (gT 2 (gC (gN 15) (gC (gN 19) gZ))))
  (sSeq (sIf (bC neD (cCall 2 F_day_on (cCons (cV 16) (cCons (cV 11) cNil))) (cTup (cCons (cV 15) (cCons (cV 19) cNil))))
  (sRet (cK (.bool false)))
  sNx)
  (sApp 18 (cTup (cCons (c2 subD (c2 mulD (c2 ixD (cV 19) (cK (.int 0))) (c2 ixD (cV 15) (cK (.int 1)))) (c2 mulD (c2 ixD (cV 15) (cK (.int 0))) (c2 ixD (cV 19) (cK (.int 1))))) (cCons (c2 mulD (c2 ixD (cV 15) (cK (.int 1))) (c2 ixD (cV 19) (cK (.int 1)))) cNil))))))
def g_law_l5 : En → Fl := (sSeq (sPar 22 23 (c2 addD (cK (.int 1)) (c2 modD (cCl intD (cCons (c2 ixD (cV 1) (c2 addD (cK (.int 45)) (cV 2))) cNil)) (cK (.int 1440)))) (c2 modD (c2 fdivD (cCl intD (cCons (c2 ixD (cV 1) (cK (.int 48))) cNil)) (c2 addD (cK (.int 1)) (cV 2))) (cCl lenD (cCons (cV 17) cNil))))
  (sSeq (sSet 24 (cCall 2 F__law_lowest (cCons (c2 mulD (c2 mulD (cK (.int 12)) (cV 22)) (c2 ixD (c2 ixD (cW 18) (cV 23)) (cK (.int 1)))) (cCons (c2 ixD (cV 21) (cV 23)) cNil))))
  (sIf (bC neD (cCall 3 F_candle_hours (cCons (cV 16) (cCons (c2 ixD (cV 17) (cV 23)) (cCons (cV 22) cNil)))) (cIf (bC ltD (c2 ixD (cV 24) (cK (.int 0))) (c2 mulD (cK (.int 12)) (c2 ixD (cV 24) (cK (.int 1))))) (cV 24) (cTup (cCons (cK (.int 12)) (cCons (cK (.int 1)) cNil)))))
  (sRet (cK (.bool false)))
  sNx)))
def g_law : En → Fl := (sSeq (sSet 1 (cDr F__law_draws 0 50))
  (sSeq (sFor (iR1 (cK (.int 5))) (gN 2) g_law_l2)
  (sSeq (sParL 13 14 (cLst cNil) (c2 modD (cCl intD (cCons (c2 ixD (cV 1) (cK (.int 35))) cNil)) (cK (.int 20))))
  (sSeq (sFor (iR1 (c2 addD (cK (.int 1)) (c2 modD (cCl intD (cCons (c2 ixD (cV 1) (cK (.int 36))) cNil)) (cK (.int 4))))) (gN 2) g_law_l3)
  (sSeq (sSet 16 (cCl tupD (cCons (cW 13) cNil)))
  (sSeq (sSet 17 (cL (cRgL (xR2 (c2 ixD (c2 ixD (cV 16) (cK (.int 0))) (cK (.int 0))) (c2 addD (c2 ixD (c2 ixD (cV 16) (c1 negD (cK (.int 1)))) (cK (.int 0))) (cK (.int 1)))))))
  (sSeq (sSetL 18 (cLst cNil))
  (sSeq (sFor (iSeq (cV 17)) (gN 11) g_law_l4)
  (sSeq (sSet 20 (cL (cLcK [26] (iSeq (cV 16)) (kN 26) bYes (c2 subD (c2 ixD (c2 ixD (cV 26) (cK (.int 1))) (cK (.int 1))) (c2 ixD (c2 ixD (cV 26) (cK (.int 1))) (cK (.int 0)))))))
  (sSeq (sIf (bOr (bC neD (cCall 1 F_longest (cCons (cV 16) cNil)) (c2 ixD (c2 ixD (cV 16) (cMt indexD (cV 20) (cCons (cCl maxD1 (cCons (cV 20) cNil)) cNil))) (cK (.int 0)))) (bC neD (cCall 1 F_even_days (cCons (cV 16) cNil)) (cCl tupD (cCons (cL (cLcK [2] (iR1 (cCl lenD (cCons (cV 17) cNil))) (kN 2) (bC eqD (c2 ixD (c2 ixD (cW 18) (cV 2)) (cK (.int 0))) (c2 mulD (cK (.int 720)) (c2 ixD (c2 ixD (cW 18) (cV 2)) (cK (.int 1))))) (c2 ixD (cV 17) (cV 2)))) cNil))))
  (sRet (cK (.bool false)))
  sNx)
  (sFrz 18 (sSeq (sSet 21 (cL (cLcK [27, 6] (iSeq (cV 18)) (k2 (kN 27) (kN 6)) bYes (c2 subD (c2 mulD (cK (.int 1440)) (cV 6)) (cV 27)))))
  (sSeq (sIf (bC neD (cCall 1 F_shortest_candle (cCons (cV 16) cNil)) (cCl minD1 (cCons (cL (cLcK [22] (iR1 (cK (.int 1441))) (kN 22) (bNot (bT (cCl anyD (cCons (cL (cLcK [2] (iR1 (cCl lenD (cCons (cV 17) cNil))) (kN 2) bYes (c2 ltD (c2 mulD (cV 22) (c2 ixD (c2 ixD (cW 18) (cV 2)) (cK (.int 1)))) (c2 ixD (cV 21) (cV 2))))) cNil)))) (cV 22))) cNil)))
  (sRet (cK (.bool false)))
  sNx)
  (sSeq (sFor (iR1 (cK (.int 3))) (gN 2) g_law_l5)
  (sRet (cCall 0 F__law_refuses cNil))))))))))))))))
def F_law (ns : List Int) : R PD := fin (g_law (.sc ns :: List.replicate 27 .un))
end
end K79
namespace K79
open PySem PySem.Spec L2 DL
def P_is_whole (value_1 : PD) (least_2 : PD) (most_3 : PD) : R PD := if (PyData.isInt value_1) = true then if (!(PyData.isBool value_1)) = true then (leD least_2 value_1).bind fun z_4 => (asB z_4).bind fun k_5 => if k_5 = true then leD value_1 most_3 else .ok (.bool false) else .ok (.bool (!(PyData.isBool value_1))) else .ok (.bool (PyData.isInt value_1))
theorem e_is_whole (value_1 : PD) (least_2 : PD) (most_3 : PD) : F_is_whole [value_1, least_2, most_3] = P_is_whole value_1 least_2 most_3 := by
 show Kt.top.k (g_is_whole [.va value_1, .va least_2, .va most_3]) = _
 unfold P_is_whole
 exact (q_retT rfl (by kernel_rfl))
def P_ascends (values_1 : PD) : R PD := (((((slD values_1 (some 1) none).bind (zpD values_1)).bind fun items_3 => lcP items_3 fun d_4 => un2 .bad d_4 fun one_5 later_6 => (ltD one_5 later_6).sm).bind fun l_7 => .ok (.list l_7)).bind fun a_8 => .ok [a_8]).bind allD
theorem e_ascends (values_1 : PD) : F_ascends [values_1] = P_ascends values_1 := by
 show Kt.top.k (g_ascends [.va values_1, .un, .un]) = _
 unfold P_ascends
 exact (q_retT rfl (by kernel_rfl))
def P_divisor_l1  : (PD × PD) → ((PD × PD) → R PD) → ((PD × PD) → R PD) → R PD := fun s_6 next_7 brk_8 => (R.ok s_6.2).bind fun one_14 => (modD s_6.1 s_6.2).bind fun other_13 => next_7 (one_14, other_13)
def P_divisor_l1_c  : (PD × PD) → R Bool := fun s_6 => (gtD s_6.2 (.int 0)).bind asB
def P_divisor (one_1 : PD) (other_2 : PD) : R PD := (absD [one_1]).bind fun one_3 => (absD [other_2]).bind fun other_4 => whK (P_divisor_l1_c) (P_divisor_l1) fuel (one_3, other_4) fun s_15 => .ok s_15.1
theorem e_divisor (one_1 : PD) (other_2 : PD) : F_divisor [one_1, other_2] = P_divisor one_1 other_2 := by
 show Kt.top.k (g_divisor [.va one_1, .va other_2]) = _
 unfold P_divisor
 exact (q_seq (q_par (by kernel_rfl) (by kernel_rfl) fun one_3 other_4 => (q_nx [.va one_3, .va other_4] rfl (q_seq (by
 refine wh_sim (bodyP := P_divisor_l1) (c := P_divisor_l1_c) (fun (s_5 : PD × PD) ρ => ρ = [.va s_5.1, .va s_5.2]) ?_ ?_ (by exact rfl) ?_ _ (one_3, other_4) _ rfl
 · intro s_6 r_16 hf_17; subst hf_17; unfold P_divisor_l1_c; kernel_rfl
 · intro K_18 hr_9 s_6 r_16 next_7 brk_8 hf_17 hn_10 hc_11 hb_12; subst hf_17; unfold P_divisor_l1; exact (q_par (by kernel_rfl) (by kernel_rfl) fun one_14 other_13 => (hn_10 (one_14, other_13) _ rfl))
 · intro s_15 r_16 hf_17; subst hf_17; exact (q_nx [.va s_15.1, .va s_15.2] rfl (q_retT rfl (by kernel_rfl))))))))
def P_is_less (one_1 : PD) (other_2 : PD) : R PD := ((ixD one_1 (.int 0)).bind fun a_3 => (ixD other_2 (.int 1)).bind (mulD a_3)).bind fun a_5 => ((ixD other_2 (.int 0)).bind fun a_6 => (ixD one_1 (.int 1)).bind (mulD a_6)).bind (ltD a_5)
theorem e_is_less (one_1 : PD) (other_2 : PD) : F_is_less [one_1, other_2] = P_is_less one_1 other_2 := by
 show Kt.top.k (g_is_less [.va one_1, .va other_2]) = _
 unfold P_is_less
 exact (q_retT rfl (by kernel_rfl))
def P_is_integer (value_1 : PD) : R PD := if (PyData.isInt value_1) = true then .ok (.bool (!(PyData.isBool value_1))) else .ok (.bool (PyData.isInt value_1))
theorem e_is_integer (value_1 : PD) : F_is_integer [value_1] = P_is_integer value_1 := by
 show Kt.top.k (g_is_integer [.va value_1]) = _
 unfold P_is_integer
 exact (q_retT rfl (by kernel_rfl))
def P__law_lowest_l1  : (PD × PD) → ((PD × PD) → R PD) → ((PD × PD) → R PD) → R PD := fun s_6 next_7 brk_8 => (R.ok s_6.2).bind fun one_14 => (modD s_6.1 s_6.2).bind fun two_13 => next_7 (one_14, two_13)
def P__law_lowest_l1_c  : (PD × PD) → R Bool := fun s_6 => (gtD s_6.2 (.int 0)).bind asB
def P__law_lowest (up_1 : PD) (down_2 : PD) : R PD := (absD [up_1]).bind fun one_3 => (R.ok down_2).bind fun two_4 => whK (P__law_lowest_l1_c) (P__law_lowest_l1) fuel (one_3, two_4) fun s_15 => ((fdivD up_1 s_15.1).bind fun a_17 => ((fdivD down_2 s_15.1).bind fun a_16 => .ok [a_16]).bind fun ds_18 => .ok (a_17 :: ds_18)).bind mkT
theorem e__law_lowest (up_1 : PD) (down_2 : PD) : F__law_lowest [up_1, down_2] = P__law_lowest up_1 down_2 := by
 show Kt.top.k (g__law_lowest [.va up_1, .va down_2, .un, .un]) = _
 unfold P__law_lowest
 exact (q_seq (q_par (by kernel_rfl) (by kernel_rfl) fun one_3 two_4 => (q_nx [.va up_1, .va down_2, .va one_3, .va two_4] rfl (q_seq (by
 refine wh_sim (bodyP := P__law_lowest_l1) (c := P__law_lowest_l1_c) (fun (s_5 : PD × PD) ρ => ρ = [.va up_1, .va down_2, .va s_5.1, .va s_5.2]) ?_ ?_ (by exact rfl) ?_ _ (one_3, two_4) _ rfl
 · intro s_6 r_19 hf_20; subst hf_20; unfold P__law_lowest_l1_c; kernel_rfl
 · intro K_21 hr_9 s_6 r_19 next_7 brk_8 hf_20 hn_10 hc_11 hb_12; subst hf_20; unfold P__law_lowest_l1; exact (q_par (by kernel_rfl) (by kernel_rfl) fun one_14 two_13 => (hn_10 (one_14, two_13) _ rfl))
 · intro s_15 r_19 hf_20; subst hf_20; exact (q_nx [.va up_1, .va down_2, .va s_15.1, .va s_15.2] rfl (q_retT rfl (by kernel_rfl))))))))
def P__law_day (number_1 : PD) (more_2 : PD) : R PD := (modD number_1 (.int 900)).bind fun rise_3 => ((((addD rise_3 (.int 1)).bind fun a_4 => ((subD (.int 1439) rise_3).bind (modD more_2)).bind (addD a_4)).bind fun a_7 => .ok [a_7]).bind fun ds_8 => .ok (rise_3 :: ds_8)).bind mkT
theorem e__law_day (number_1 : PD) (more_2 : PD) : F__law_day [number_1, more_2] = P__law_day number_1 more_2 := by
 show Kt.top.k (g__law_day [.va number_1, .va more_2, .un]) = _
 unfold P__law_day
 exact (q_seq (q_setB (by kernel_rfl) fun rise_3 => (q_nx [.va number_1, .va more_2, .va rise_3] rfl (q_retT rfl (by kernel_rfl)))))
def P_quotient (up_1 : PD) (down_2 : PD) : R PD := (F_divisor [up_1, down_2]).bind fun size_3 => ((fdivD up_1 size_3).bind fun a_5 => ((fdivD down_2 size_3).bind fun a_4 => .ok [a_4]).bind fun ds_6 => .ok (a_5 :: ds_6)).bind mkT
theorem e_quotient (up_1 : PD) (down_2 : PD) : F_quotient [up_1, down_2] = P_quotient up_1 down_2 := by
 show Kt.top.k (g_quotient [.va up_1, .va down_2, .un]) = _
 unfold P_quotient
 exact (q_seq (q_setB (by kernel_rfl) fun size_3 => (q_nx [.va up_1, .va down_2, .va size_3] rfl (q_retT rfl (by kernel_rfl)))))
def P_is_quotient (value_1 : PD) : R PD := (if (!(PyData.isTuple value_1)) = true then .ok true else (((lenD [value_1]).bind fun a_2 => neD a_2 (.int 2)).bind asB).bind fun b_3 => if b_3 = true then .ok true else (((((ixD value_1 (.int 0)).bind fun a_4 => .ok [a_4]).bind fun ds_5 => chk (ds_5.length == 1) (F_is_integer ds_5)).bind tru).bind fun b_6 => .ok (!b_6)).bind fun b_7 => if b_7 = true then .ok true else ((((ixD value_1 (.int 1)).bind fun a_8 => .ok [a_8]).bind fun ds_9 => chk (ds_9.length == 1) (F_is_integer ds_9)).bind tru).bind fun b_10 => .ok (!b_10)).bind fun b_19 => if b_19 = true then .ok (.bool false) else ((ixD value_1 (.int 1)).bind fun a_11 => gtD a_11 (.int 0)).bind fun a_12 => (tru a_12).bind fun b_13 => if b_13 = true then (((ixD value_1 (.int 0)).bind fun a_15 => ((ixD value_1 (.int 1)).bind fun a_14 => .ok [a_14]).bind fun ds_16 => .ok (a_15 :: ds_16)).bind fun ds_17 => chk (ds_17.length == 2) (F_divisor ds_17)).bind fun a_18 => eqD a_18 (.int 1) else .ok a_12
theorem e_is_quotient (value_1 : PD) : F_is_quotient [value_1] = P_is_quotient value_1 := by
 show Kt.top.k (g_is_quotient [.va value_1]) = _
 unfold P_is_quotient
 exact (q_seq (q_if (by kernel_rfl) (q_retT rfl (by kernel_rfl)) (q_nx [.va value_1] rfl (q_retT rfl (by kernel_rfl)))))
def P_is_day (value_1 : PD) : R PD := (if (!(PyData.isTuple value_1)) = true then .ok true else (((lenD [value_1]).bind fun a_2 => neD a_2 (.int 2)).bind asB).bind fun b_3 => if b_3 = true then .ok true else ((((((itD value_1).bind fun items_4 => lcP items_4 fun one_5 => (((((subD (.int 1440) (.int 1)).bind fun a_6 => .ok [a_6]).bind fun ds_7 => .ok ((.int 0) :: ds_7)).bind fun ds_8 => .ok (one_5 :: ds_8)).bind fun ds_9 => chk (ds_9.length == 3) (F_is_whole ds_9)).sm).bind fun l_10 => .ok (.list l_10)).bind fun a_11 => .ok [a_11]).bind allD).bind tru).bind fun b_12 => .ok (!b_12)).bind fun b_15 => if b_15 = true then .ok (.bool false) else (ixD value_1 (.int 0)).bind fun a_13 => (ixD value_1 (.int 1)).bind (ltD a_13)
theorem e_is_day (value_1 : PD) : F_is_day [value_1] = P_is_day value_1 := by
 show Kt.top.k (g_is_day [.va value_1, .un]) = _
 unfold P_is_day
 exact (q_seq (q_if (by kernel_rfl) (q_retT rfl (by kernel_rfl)) (q_nx [.va value_1, .un] rfl (q_retT rfl (by kernel_rfl)))))
def P__check_number (table_1 : PD) (number_2 : PD) : R PD := (((((((ixD table_1 (.int 0)).bind fun a_3 => ixD a_3 (.int 0)).bind fun a_7 => ((((negD (.int 1)).bind (ixD table_1)).bind fun a_5 => ixD a_5 (.int 0)).bind fun a_6 => .ok [a_6]).bind fun ds_8 => .ok (a_7 :: ds_8)).bind fun ds_9 => .ok (number_2 :: ds_9)).bind fun ds_10 => chk (ds_10.length == 3) (F_is_whole ds_10)).bind tru).bind fun b_11 => .ok (!b_11)).bind fun b_12 => if b_12 = true then .ex "BadNumber" [] else .ok .none
theorem e__check_number (table_1 : PD) (number_2 : PD) : F__check_number [table_1, number_2] = P__check_number table_1 number_2 := by
 show Kt.top.k (g__check_number [.va table_1, .va number_2]) = _
 unfold P__check_number
 exact (q_if (by kernel_rfl) (q_exc "BadNumber") rfl)
def P__law_told (day_1 : PD) (minute_2 : PD) : R PD := un2 .bad minute_2 fun up_3 down_4 => ((((ixD day_1 (.int 1)).bind fun a_5 => mulD a_5 down_4).bind (ltD up_3)).bind asB).bind fun b_32 => if b_32 = true then ((((((((ixD day_1 (.int 0)).bind fun a_7 => mulD a_7 down_4).bind (subD up_3)).bind (mulD (.int 12))).bind fun a_14 => ((((ixD day_1 (.int 1)).bind fun a_10 => (ixD day_1 (.int 0)).bind (subD a_10)).bind (mulD down_4)).bind fun a_13 => .ok [a_13]).bind fun ds_15 => .ok (a_14 :: ds_15)).bind fun ds_16 => chk (ds_16.length == 2) (F__law_lowest ds_16)).bind fun a_17 => .ok [a_17]).bind fun ds_18 => .ok ((.str "day") :: ds_18)).bind mkT else ((((((((ixD day_1 (.int 1)).bind fun a_19 => mulD a_19 down_4).bind (subD up_3)).bind (mulD (.int 12))).bind fun a_27 => (((((ixD day_1 (.int 1)).bind (subD (.int 1440))).bind fun a_23 => (ixD day_1 (.int 0)).bind (addD a_23)).bind (mulD down_4)).bind fun a_26 => .ok [a_26]).bind fun ds_28 => .ok (a_27 :: ds_28)).bind fun ds_29 => chk (ds_29.length == 2) (F__law_lowest ds_29)).bind fun a_30 => .ok [a_30]).bind fun ds_31 => .ok ((.str "night") :: ds_31)).bind mkT
theorem e__law_told (day_1 : PD) (minute_2 : PD) : F__law_told [day_1, minute_2] = P__law_told day_1 minute_2 := by
 show Kt.top.k (g__law_told [.va day_1, .va minute_2, .un, .un]) = _
 unfold P__law_told
 exact (q_seq (q_asgo (k := (k2 (kN 2) (kN 3))) minute_2 (tge_2 tge_n tge_n) (by kernel_rfl) (q_k2 fun up_3 down_4 => (q_kN (q_kN (q_nx [.va day_1, .va minute_2, .va up_3, .va down_4] rfl (q_seq (q_if (by kernel_rfl) (q_retT rfl (by kernel_rfl)) (q_nx [.va day_1, .va minute_2, .va up_3, .va down_4] rfl (q_retT rfl (by kernel_rfl)))))))))))
def P__law_ends (day_1 : PD) : R PD := ((((ixD day_1 (.int 1)).bind fun a_2 => (ixD day_1 (.int 0)).bind (subD a_2)).bind fun a_8 => ((((ixD day_1 (.int 1)).bind (subD (.int 1440))).bind fun a_5 => (ixD day_1 (.int 0)).bind (addD a_5)).bind fun a_7 => .ok [a_7]).bind fun ds_9 => .ok (a_8 :: ds_9)).bind mkT).bind fun d_10 => un2 .bad d_10 fun light_11 dark_12 => (((rg1 (.int 12)).bind fun items_13 => lcP items_13 fun k_14 => (((((ixD day_1 (.int 0)).bind (mulD (.int 12))).bind fun a_16 => ((addD k_14 (.int 1)).bind fun a_17 => mulD a_17 light_11).bind (addD a_16)).bind fun a_19 => .ok [a_19, (.int 12)]).bind fun ds_20 => chk (ds_20.length == 2) (F__law_lowest ds_20)).sm).bind fun l_21 => .ok (.list l_21)).bind fun a_22 => (((rg1 (.int 12)).bind fun items_23 => lcP items_23 fun k_24 => (((((ixD day_1 (.int 1)).bind (mulD (.int 12))).bind fun a_26 => ((addD k_24 (.int 1)).bind fun a_27 => mulD a_27 dark_12).bind (addD a_26)).bind fun a_29 => .ok [a_29, (.int 12)]).bind fun ds_30 => chk (ds_30.length == 2) (F__law_lowest ds_30)).sm).bind fun l_31 => .ok (.list l_31)).bind (addD a_22)
theorem e__law_ends (day_1 : PD) : F__law_ends [day_1] = P__law_ends day_1 := by
 show Kt.top.k (g__law_ends [.va day_1, .un, .un, .un]) = _
 unfold P__law_ends
 exact (q_seq (q_asg (k := (k2 (kN 1) (kN 2))) (tge_2 tge_n tge_n) (by kernel_rfl) fun d_10 => (q_k2 fun light_11 dark_12 => (q_kN (q_kN (q_nx [.va day_1, .va light_11, .va dark_12, .un] rfl (q_retT rfl (by kernel_rfl))))))))
def P__law_on_l1 (table_1 : PD) (number_2 : PD) : PD → Unit → (Unit → R PD) → (Unit → R PD) → R PD := fun k_25 s_11 next_12 brk_13 => ((((ixD table_1 k_25).bind fun a_26 => ixD a_26 (.int 0)).bind fun a_27 => eqD a_27 number_2).bind asB).bind fun b_37 => if b_37 = true then ((((((ixD table_1 k_25).bind fun a_28 => ixD a_28 (.int 1)).bind fun a_29 => ixD a_29 (.int 0)).bind fun a_30 => .ok [a_30, (.int 1)]).bind mkT).bind fun a_35 => ((((((ixD table_1 k_25).bind fun a_31 => ixD a_31 (.int 1)).bind fun a_32 => ixD a_32 (.int 1)).bind fun a_33 => .ok [a_33, (.int 1)]).bind mkT).bind fun a_34 => .ok [a_34]).bind fun ds_36 => .ok (a_35 :: ds_36)).bind mkT else next_12 ()
def P__law_on (table_1 : PD) (number_2 : PD) : R PD := ((lenD [table_1]).bind rg1).bind fun items_3 => forK (P__law_on_l1 table_1 number_2) items_3 () fun s_38 => ((((((lenD [table_1]).bind rg1).bind fun items_45 => lcP items_45 fun j_46 => ((((ixD table_1 j_46).bind fun a_47 => ixD a_47 (.int 0)).bind fun a_48 => ltD a_48 number_2).bind asB).whn (.ok (some j_46))).bind fun l_49 => .ok (.list l_49)).bind fun a_50 => .ok [a_50]).bind maxD1).bind fun k_51 => (((ixD table_1 k_51).bind fun a_54 => (((addD k_51 (.int 1)).bind (ixD table_1)).bind fun a_53 => .ok [a_53]).bind fun ds_55 => .ok (a_54 :: ds_55)).bind mkT).bind fun d_56 => un2 .bad d_56 fun p_57 p_58 => un2 .bad p_57 fun low_59 one_60 => un2 .bad p_58 fun high_61 two_62 => ((((rg1 (.int 2)).bind fun items_63 => lcP items_63 fun j_64 => (((((ixD one_60 j_64).bind fun a_65 => (subD high_61 number_2).bind (mulD a_65)).bind fun a_67 => ((ixD two_62 j_64).bind fun a_68 => (subD number_2 low_59).bind (mulD a_68)).bind (addD a_67)).bind fun a_72 => ((subD high_61 low_59).bind fun a_71 => .ok [a_71]).bind fun ds_73 => .ok (a_72 :: ds_73)).bind fun ds_74 => chk (ds_74.length == 2) (F__law_lowest ds_74)).sm).bind fun l_75 => .ok (.list l_75)).bind fun a_76 => .ok [a_76]).bind tupD
theorem e__law_on (table_1 : PD) (number_2 : PD) : F__law_on [table_1, number_2] = P__law_on table_1 number_2 := by
 show Kt.top.k (g__law_on [.va table_1, .va number_2, .un, .un, .un, .un, .un, .un]) = _
 unfold P__law_on
 exact (q_seq (q_for (by kernel_rfl) fun items_3 => (by
 refine for_sim (bodyP := P__law_on_l1 table_1 number_2) (tk := (kN 2)) (fun (s_4 : Unit) ρ => ∃ j_5 j_6 j_7 j_8 j_9 j_10, ρ = [.va table_1, .va number_2, j_5, j_6, j_7, j_8, j_9, j_10]) tge_n ?_ (by exact rfl) ?_ _ () _ ⟨.un, .un, .un, .un, .un, .un, rfl⟩
 · intro K_79 hr_14 k_25 s_11 r_77 next_12 brk_13 hf_78 hn_15 hc_16 hb_17; obtain ⟨j_18, j_19, j_20, j_21, j_22, j_23, rfl⟩ := hf_78; unfold P__law_on_l1; exact (q_kN (q_at [.va table_1, .va number_2, .va k_25, j_19, j_20, j_21, j_22, j_23] rfl (q_if (by kernel_rfl) (q_retT hr_14 (by kernel_rfl)) (hn_15 () _ ⟨.va k_25, j_19, j_20, j_21, j_22, j_23, rfl⟩))))
 · intro s_38 r_77 hf_78; obtain ⟨j_39, j_40, j_41, j_42, j_43, j_44, rfl⟩ := hf_78; exact (q_nx [.va table_1, .va number_2, j_39, j_40, j_41, j_42, j_43, j_44] rfl (q_seq (q_setB (by kernel_rfl) fun k_51 => (q_nx [.va table_1, .va number_2, .va k_51, j_40, j_41, j_42, j_43, j_44] rfl (q_seq (q_asg (k := (k2 (k2 (kN 3) (kN 4)) (k2 (kN 5) (kN 6)))) (tge_2 (tge_2 tge_n tge_n) (tge_2 tge_n tge_n)) (by kernel_rfl) fun d_56 => (q_k2 fun p_57 p_58 => (q_k2 fun low_59 one_60 => (q_kN (q_kN (q_k2 fun high_61 two_62 => (q_kN (q_kN (q_nx [.va table_1, .va number_2, .va k_51, .va low_59, .va one_60, .va high_61, .va two_62, j_44] rfl (q_retT rfl (by kernel_rfl)))))))))))))))))))
def P_plus (one_1 : PD) (other_2 : PD) : R PD := ((((ixD one_1 (.int 0)).bind fun a_3 => (ixD other_2 (.int 1)).bind (mulD a_3)).bind fun a_5 => ((ixD other_2 (.int 0)).bind fun a_6 => (ixD one_1 (.int 1)).bind (mulD a_6)).bind (addD a_5)).bind fun a_12 => (((ixD one_1 (.int 1)).bind fun a_9 => (ixD other_2 (.int 1)).bind (mulD a_9)).bind fun a_11 => .ok [a_11]).bind fun ds_13 => .ok (a_12 :: ds_13)).bind fun ds_14 => chk (ds_14.length == 2) (F_quotient ds_14)
theorem e_plus (one_1 : PD) (other_2 : PD) : F_plus [one_1, other_2] = P_plus one_1 other_2 := by
 show Kt.top.k (g_plus [.va one_1, .va other_2]) = _
 unfold P_plus
 exact (q_retT rfl (by kernel_rfl))
def P_minus (one_1 : PD) (other_2 : PD) : R PD := ((((ixD one_1 (.int 0)).bind fun a_3 => (ixD other_2 (.int 1)).bind (mulD a_3)).bind fun a_5 => ((ixD other_2 (.int 0)).bind fun a_6 => (ixD one_1 (.int 1)).bind (mulD a_6)).bind (subD a_5)).bind fun a_12 => (((ixD one_1 (.int 1)).bind fun a_9 => (ixD other_2 (.int 1)).bind (mulD a_9)).bind fun a_11 => .ok [a_11]).bind fun ds_13 => .ok (a_12 :: ds_13)).bind fun ds_14 => chk (ds_14.length == 2) (F_quotient ds_14)
theorem e_minus (one_1 : PD) (other_2 : PD) : F_minus [one_1, other_2] = P_minus one_1 other_2 := by
 show Kt.top.k (g_minus [.va one_1, .va other_2]) = _
 unfold P_minus
 exact (q_retT rfl (by kernel_rfl))
def P_times (one_1 : PD) (other_2 : PD) : R PD := (((ixD one_1 (.int 0)).bind fun a_3 => (ixD other_2 (.int 0)).bind (mulD a_3)).bind fun a_8 => (((ixD one_1 (.int 1)).bind fun a_5 => (ixD other_2 (.int 1)).bind (mulD a_5)).bind fun a_7 => .ok [a_7]).bind fun ds_9 => .ok (a_8 :: ds_9)).bind fun ds_10 => chk (ds_10.length == 2) (F_quotient ds_10)
theorem e_times (one_1 : PD) (other_2 : PD) : F_times [one_1, other_2] = P_times one_1 other_2 := by
 show Kt.top.k (g_times [.va one_1, .va other_2]) = _
 unfold P_times
 exact (q_retT rfl (by kernel_rfl))
def P_over (one_1 : PD) (other_2 : PD) : R PD := (((ixD one_1 (.int 0)).bind fun a_3 => (ixD other_2 (.int 1)).bind (mulD a_3)).bind fun a_8 => (((ixD one_1 (.int 1)).bind fun a_5 => (ixD other_2 (.int 0)).bind (mulD a_5)).bind fun a_7 => .ok [a_7]).bind fun ds_9 => .ok (a_8 :: ds_9)).bind fun ds_10 => chk (ds_10.length == 2) (F_quotient ds_10)
theorem e_over (one_1 : PD) (other_2 : PD) : F_over [one_1, other_2] = P_over one_1 other_2 := by
 show Kt.top.k (g_over [.va one_1, .va other_2]) = _
 unfold P_over
 exact (q_retT rfl (by kernel_rfl))
def P__check_day (day_1 : PD) : R PD := (((F_is_day [day_1]).bind tru).bind fun b_2 => .ok (!b_2)).bind fun b_3 => if b_3 = true then .ex "BadDay" [] else .ok .none
theorem e__check_day (day_1 : PD) : F__check_day [day_1] = P__check_day day_1 := by
 show Kt.top.k (g__check_day [.va day_1]) = _
 unfold P__check_day
 exact (q_if (by kernel_rfl) (q_exc "BadDay") rfl)
def P__lengths (day_1 : PD) : R PD := ((ixD day_1 (.int 1)).bind fun a_2 => (ixD day_1 (.int 0)).bind (subD a_2)).bind fun light_4 => ((F_quotient [light_4, (.int 12)]).bind fun a_8 => ((((subD (.int 1440) light_4).bind fun a_5 => .ok [a_5, (.int 12)]).bind fun ds_6 => chk (ds_6.length == 2) (F_quotient ds_6)).bind fun a_7 => .ok [a_7]).bind fun ds_9 => .ok (a_8 :: ds_9)).bind mkT
theorem e__lengths (day_1 : PD) : F__lengths [day_1] = P__lengths day_1 := by
 show Kt.top.k (g__lengths [.va day_1, .un]) = _
 unfold P__lengths
 exact (q_seq (q_setB (by kernel_rfl) fun light_4 => (q_nx [.va day_1, .va light_4] rfl (q_retT rfl (by kernel_rfl)))))
def P__is_told (value_1 : PD) : R PD := (if (!(PyData.isTuple value_1)) = true then .ok true else (((lenD [value_1]).bind fun a_2 => neD a_2 (.int 2)).bind asB).bind fun b_3 => if b_3 = true then .ok true else ((((ixD value_1 (.int 0)).bind fun a_4 => .ok (.bool (PyData.isStr a_4))).bind tru).bind fun b_5 => .ok (!b_5)).bind fun b_6 => if b_6 = true then .ok true else ((ixD value_1 (.int 0)).bind fun a_7 => notinD a_7 (.tuple [(.str "day"), (.str "night")])).bind asB).bind fun b_20 => if b_20 = true then .ok (.bool false) else (((ixD value_1 (.int 1)).bind fun a_8 => .ok [a_8]).bind fun ds_9 => chk (ds_9.length == 1) (F_is_quotient ds_9)).bind fun a_10 => (tru a_10).bind fun b_11 => if b_11 = true then ((((ixD value_1 (.int 1)).bind fun a_12 => .ok [a_12, (.tuple [.int 0, .int 1])]).bind fun ds_13 => chk (ds_13.length == 2) (F_is_less ds_13)).bind fun a_14 => (tru a_14).bind fun b_15 => .ok (.bool (!b_15))).bind fun a_16 => (tru a_16).bind fun b_17 => if b_17 = true then ((ixD value_1 (.int 1)).bind fun a_18 => .ok [a_18, (.tuple [(.int 12), (.int 1)])]).bind fun ds_19 => chk (ds_19.length == 2) (F_is_less ds_19) else .ok a_16 else .ok a_10
theorem e__is_told (value_1 : PD) : F__is_told [value_1] = P__is_told value_1 := by
 show Kt.top.k (g__is_told [.va value_1]) = _
 unfold P__is_told
 exact (q_seq (q_if (by kernel_rfl) (q_retT rfl (by kernel_rfl)) (q_nx [.va value_1] rfl (q_retT rfl (by kernel_rfl)))))
def P__check_table (table_1 : PD) : R PD := (if (!(PyData.isTuple table_1)) = true then .ok true else (((lenD [table_1]).bind fun b_2 => (leD (.int 1) b_2).bind fun z_3 => (asB z_3).bind fun k_4 => if k_4 = true then leD b_2 (.int 40) else .ok (.bool false)).bind asB).bind fun b_5 => .ok (!b_5)).bind fun b_32 => if b_32 = true then .ex "BadTable" [] else (((((((itD table_1).bind fun items_6 => lcP items_6 fun one_7 => (if (PyData.isTuple one_7) = true then ((lenD [one_7]).bind fun a_8 => eqD a_8 (.int 2)).bind fun a_9 => (tru a_9).bind fun b_10 => if b_10 = true then ((ixD one_7 (.int 1)).bind fun a_11 => .ok [a_11]).bind fun ds_12 => chk (ds_12.length == 1) (F_is_day ds_12) else .ok a_9 else .ok (.bool (PyData.isTuple one_7))).sm).bind fun l_13 => .ok (.list l_13)).bind fun a_14 => .ok [a_14]).bind allD).bind tru).bind fun b_15 => .ok (!b_15)).bind fun b_31 => if b_31 = true then .ex "BadTable" [] else ((((((((itD table_1).bind fun items_16 => lcP items_16 fun one_17 => (((ixD one_17 (.int 0)).bind fun a_18 => .ok [a_18, (.int 0), (.int 400)]).bind fun ds_19 => chk (ds_19.length == 3) (F_is_whole ds_19)).sm).bind fun l_20 => .ok (.list l_20)).bind fun a_21 => .ok [a_21]).bind allD).bind tru).bind fun b_22 => .ok (!b_22)).bind fun b_23 => if b_23 = true then .ok true else ((((((itD table_1).bind fun items_24 => lcP items_24 fun one_25 => (ixD one_25 (.int 0)).sm).bind fun l_26 => .ok (.list l_26)).bind fun a_27 => .ok [a_27]).bind fun ds_28 => chk (ds_28.length == 1) (F_ascends ds_28)).bind tru).bind fun b_29 => .ok (!b_29)).bind fun b_30 => if b_30 = true then .ex "BadTable" [] else .ok .none
theorem e__check_table (table_1 : PD) : F__check_table [table_1] = P__check_table table_1 := by
 show Kt.top.k (g__check_table [.va table_1, .un]) = _
 unfold P__check_table
 exact (q_seq (q_if (by kernel_rfl) (q_exc "BadTable") (q_nx [.va table_1, .un] rfl (q_seq (q_if (by kernel_rfl) (q_exc "BadTable") (q_nx [.va table_1, .un] rfl (q_if (by kernel_rfl) (q_exc "BadTable") rfl)))))))
def P__between (one_1 : PD) (other_2 : PD) (number_3 : PD) (place_4 : PD) : R PD := ((ixD other_2 (.int 0)).bind fun a_5 => (ixD one_1 (.int 0)).bind (subD a_5)).bind fun width_7 => ((((ixD other_2 (.int 1)).bind fun a_8 => ixD a_8 place_4).bind fun a_9 => ((ixD one_1 (.int 1)).bind fun a_10 => ixD a_10 place_4).bind (subD a_9)).bind fun a_12 => ((ixD one_1 (.int 0)).bind (subD number_3)).bind (mulD a_12)).bind fun more_15 => (((((ixD one_1 (.int 1)).bind fun a_16 => ixD a_16 place_4).bind fun a_17 => mulD a_17 width_7).bind fun a_18 => addD a_18 more_15).bind fun a_19 => .ok [a_19, width_7]).bind fun ds_20 => chk (ds_20.length == 2) (F_quotient ds_20)
theorem e__between (one_1 : PD) (other_2 : PD) (number_3 : PD) (place_4 : PD) : F__between [one_1, other_2, number_3, place_4] = P__between one_1 other_2 number_3 place_4 := by
 show Kt.top.k (g__between [.va one_1, .va other_2, .va number_3, .va place_4, .un, .un]) = _
 unfold P__between
 exact (q_seq (q_setB (by kernel_rfl) fun width_7 => (q_nx [.va one_1, .va other_2, .va number_3, .va place_4, .va width_7, .un] rfl (q_seq (q_setB (by kernel_rfl) fun more_15 => (q_nx [.va one_1, .va other_2, .va number_3, .va place_4, .va width_7, .va more_15] rfl (q_retT rfl (by kernel_rfl))))))))
def P_hour_lengths (day_1 : PD) : R PD := (F__check_day [day_1]).bind fun _ => F__lengths [day_1]
theorem e_hour_lengths (day_1 : PD) : F_hour_lengths [day_1] = P_hour_lengths day_1 := by
 show Kt.top.k (g_hour_lengths [.va day_1]) = _
 unfold P_hour_lengths
 exact (q_seq (q_drop (by kernel_rfl) (q_nx [.va day_1] rfl (q_retT rfl (by kernel_rfl)))))
def P__check_moment (day_1 : PD) (minute_2 : PD) : R PD := (F__check_day [day_1]).bind fun _ => ((((F_is_quotient [minute_2]).bind tru).bind fun b_3 => .ok (!b_3)).bind fun b_4 => if b_4 = true then .ok true else (((((((ixD day_1 (.int 0)).bind fun a_5 => .ok [a_5, (.int 1)]).bind mkT).bind fun a_6 => .ok [a_6]).bind fun ds_7 => .ok (minute_2 :: ds_7)).bind fun ds_8 => chk (ds_8.length == 2) (F_is_less ds_8)).bind tru).bind fun b_9 => if b_9 = true then .ok true else ((((((((ixD day_1 (.int 0)).bind fun a_10 => addD a_10 (.int 1440)).bind fun a_11 => .ok [a_11, (.int 1)]).bind mkT).bind fun a_12 => .ok [a_12]).bind fun ds_13 => .ok (minute_2 :: ds_13)).bind fun ds_14 => chk (ds_14.length == 2) (F_is_less ds_14)).bind tru).bind fun b_15 => .ok (!b_15)).bind fun b_16 => if b_16 = true then .ex "BadMoment" [] else .ok .none
theorem e__check_moment (day_1 : PD) (minute_2 : PD) : F__check_moment [day_1, minute_2] = P__check_moment day_1 minute_2 := by
 show Kt.top.k (g__check_moment [.va day_1, .va minute_2]) = _
 unfold P__check_moment
 exact (q_seq (q_drop (by kernel_rfl) (q_nx [.va day_1, .va minute_2] rfl (q_if (by kernel_rfl) (q_exc "BadMoment") rfl))))
def P__told_at (day_1 : PD) (minute_2 : PD) : R PD := (F__lengths [day_1]).bind fun d_3 => un2 .bad d_3 fun light_4 dark_5 => (((((((ixD day_1 (.int 1)).bind fun a_6 => .ok [a_6, (.int 1)]).bind mkT).bind fun a_7 => .ok [a_7]).bind fun ds_8 => .ok (minute_2 :: ds_8)).bind fun ds_9 => chk (ds_9.length == 2) (F_is_less ds_9)).bind tru).bind fun b_26 => if b_26 = true then ((((((((((ixD day_1 (.int 0)).bind fun a_10 => .ok [a_10, (.int 1)]).bind mkT).bind fun a_11 => .ok [a_11]).bind fun ds_12 => .ok (minute_2 :: ds_12)).bind fun ds_13 => chk (ds_13.length == 2) (F_minus ds_13)).bind fun a_14 => .ok [a_14, light_4]).bind fun ds_15 => chk (ds_15.length == 2) (F_over ds_15)).bind fun a_16 => .ok [a_16]).bind fun ds_17 => .ok ((.str "day") :: ds_17)).bind mkT else ((((((((((ixD day_1 (.int 1)).bind fun a_18 => .ok [a_18, (.int 1)]).bind mkT).bind fun a_19 => .ok [a_19]).bind fun ds_20 => .ok (minute_2 :: ds_20)).bind fun ds_21 => chk (ds_21.length == 2) (F_minus ds_21)).bind fun a_22 => .ok [a_22, dark_5]).bind fun ds_23 => chk (ds_23.length == 2) (F_over ds_23)).bind fun a_24 => .ok [a_24]).bind fun ds_25 => .ok ((.str "night") :: ds_25)).bind mkT
theorem e__told_at (day_1 : PD) (minute_2 : PD) : F__told_at [day_1, minute_2] = P__told_at day_1 minute_2 := by
 show Kt.top.k (g__told_at [.va day_1, .va minute_2, .un, .un]) = _
 unfold P__told_at
 exact (q_seq (q_asg (k := (k2 (kN 2) (kN 3))) (tge_2 tge_n tge_n) (by kernel_rfl) fun d_3 => (q_k2 fun light_4 dark_5 => (q_kN (q_kN (q_nx [.va day_1, .va minute_2, .va light_4, .va dark_5] rfl (q_seq (q_if (by kernel_rfl) (q_retT rfl (by kernel_rfl)) (q_nx [.va day_1, .va minute_2, .va light_4, .va dark_5] rfl (q_retT rfl (by kernel_rfl)))))))))))
def P_minute_of (day_1 : PD) (told_2 : PD) : R PD := (F__check_day [day_1]).bind fun _ => (((F__is_told [told_2]).bind tru).bind fun b_3 => .ok (!b_3)).bind fun b_19 => if b_19 = true then .ex "BadTold" [] else (F__lengths [day_1]).bind fun d_4 => un2 .bad d_4 fun light_5 dark_6 => ((((ixD told_2 (.int 0)).bind fun a_7 => eqD a_7 (.str "day")).bind asB).bind fun b_8 => if b_8 = true then ((ixD day_1 (.int 0)).bind fun a_9 => .ok [a_9, light_5]).bind mkT else ((ixD day_1 (.int 1)).bind fun a_10 => .ok [a_10, dark_6]).bind mkT).bind fun d_11 => un2 .bad d_11 fun begin_12 length_13 => (((((ixD told_2 (.int 1)).bind fun a_14 => .ok [a_14, length_13]).bind fun ds_15 => chk (ds_15.length == 2) (F_times ds_15)).bind fun a_16 => .ok [a_16]).bind fun ds_17 => .ok ((.tuple [begin_12, (.int 1)]) :: ds_17)).bind fun ds_18 => chk (ds_18.length == 2) (F_plus ds_18)
theorem e_minute_of (day_1 : PD) (told_2 : PD) : F_minute_of [day_1, told_2] = P_minute_of day_1 told_2 := by
 show Kt.top.k (g_minute_of [.va day_1, .va told_2, .un, .un, .un, .un]) = _
 unfold P_minute_of
 exact (q_seq (q_drop (by kernel_rfl) (q_nx [.va day_1, .va told_2, .un, .un, .un, .un] rfl (q_seq (q_if (by kernel_rfl) (q_exc "BadTold") (q_nx [.va day_1, .va told_2, .un, .un, .un, .un] rfl (q_seq (q_asg (k := (k2 (kN 2) (kN 3))) (tge_2 tge_n tge_n) (by kernel_rfl) fun d_4 => (q_k2 fun light_5 dark_6 => (q_kN (q_kN (q_nx [.va day_1, .va told_2, .va light_5, .va dark_6, .un, .un] rfl (q_seq (q_asg (k := (k2 (kN 4) (kN 5))) (tge_2 tge_n tge_n) (by kernel_rfl) fun d_11 => (q_k2 fun begin_12 length_13 => (q_kN (q_kN (q_nx [.va day_1, .va told_2, .va light_5, .va dark_6, .va begin_12, .va length_13] rfl (q_retT rfl (by kernel_rfl))))))))))))))))))))
def P__day_on (table_1 : PD) (number_2 : PD) : R PD := ((((itD table_1).bind fun items_3 => lcP items_3 fun row_4 => (((ixD row_4 (.int 0)).bind fun a_5 => leD a_5 number_2).bind asB).whn (.ok (some row_4))).bind fun l_6 => .ok (.list l_6)).bind fun a_7 => (negD (.int 1)).bind (ixD a_7)).bind fun ahead_9 => (((ixD ahead_9 (.int 0)).bind fun a_10 => eqD a_10 number_2).bind asB).bind fun b_27 => if b_27 = true then (((((ixD ahead_9 (.int 1)).bind fun a_11 => ixD a_11 (.int 0)).bind fun a_12 => .ok [a_12, (.int 1)]).bind mkT).bind fun a_16 => (((((ixD ahead_9 (.int 1)).bind fun a_13 => ixD a_13 (.int 1)).bind fun a_14 => .ok [a_14, (.int 1)]).bind mkT).bind fun a_15 => .ok [a_15]).bind fun ds_17 => .ok (a_16 :: ds_17)).bind mkT else ((((itD table_1).bind fun items_18 => lcP items_18 fun row_19 => (((ixD row_19 (.int 0)).bind fun a_20 => gtD a_20 number_2).bind asB).whn (.ok (some row_19))).bind fun l_21 => .ok (.list l_21)).bind fun a_22 => ixD a_22 (.int 0)).bind fun behind_23 => ((F__between [ahead_9, behind_23, number_2, (.int 0)]).bind fun a_25 => ((F__between [ahead_9, behind_23, number_2, (.int 1)]).bind fun a_24 => .ok [a_24]).bind fun ds_26 => .ok (a_25 :: ds_26)).bind mkT
theorem e__day_on (table_1 : PD) (number_2 : PD) : F__day_on [table_1, number_2] = P__day_on table_1 number_2 := by
 show Kt.top.k (g__day_on [.va table_1, .va number_2, .un, .un, .un]) = _
 unfold P__day_on
 exact (q_seq (q_setB (by kernel_rfl) fun ahead_9 => (q_nx [.va table_1, .va number_2, .va ahead_9, .un, .un] rfl (q_seq (q_if (by kernel_rfl) (q_retT rfl (by kernel_rfl)) (q_nx [.va table_1, .va number_2, .va ahead_9, .un, .un] rfl (q_seq (q_setB (by kernel_rfl) fun behind_23 => (q_nx [.va table_1, .va number_2, .va ahead_9, .va behind_23, .un] rfl (q_retT rfl (by kernel_rfl)))))))))))
def P_longest_l1  : PD → PD → (PD → R PD) → (PD → R PD) → R PD := fun row_17 s_7 next_8 brk_9 => ((((((ixD row_17 (.int 1)).bind fun a_18 => ixD a_18 (.int 1)).bind fun a_19 => ((ixD row_17 (.int 1)).bind fun a_20 => ixD a_20 (.int 0)).bind (subD a_19)).bind fun a_22 => (((ixD s_7 (.int 1)).bind fun a_23 => ixD a_23 (.int 1)).bind fun a_24 => ((ixD s_7 (.int 1)).bind fun a_25 => ixD a_25 (.int 0)).bind (subD a_24)).bind (gtD a_22)).bind asB).bind fun b_28 => if b_28 = true then .ok row_17 else .ok s_7).bind fun best_29 => next_8 best_29
def P_longest (table_1 : PD) : R PD := (F__check_table [table_1]).bind fun _ => (ixD table_1 (.int 0)).bind fun best_2 => ((slD table_1 (some 1) none).bind itD).bind fun items_3 => forK (P_longest_l1) items_3 best_2 fun s_30 => ixD s_30 (.int 0)
theorem e_longest (table_1 : PD) : F_longest [table_1] = P_longest table_1 := by
 show Kt.top.k (g_longest [.va table_1, .un, .un]) = _
 unfold P_longest
 exact (q_seq (q_drop (by kernel_rfl) (q_nx [.va table_1, .un, .un] rfl (q_seq (q_setB (by kernel_rfl) fun best_2 => (q_nx [.va table_1, .va best_2, .un] rfl (q_seq (q_for (by kernel_rfl) fun items_3 => (by
 refine for_sim (bodyP := P_longest_l1) (tk := (kN 2)) (fun (s_4 : PD) ρ => ∃ j_5 j_6, ρ = [j_5, .va s_4, j_6]) tge_n ?_ (by exact rfl) ?_ _ best_2 _ ⟨.va table_1, .un, rfl⟩
 · intro K_35 hr_10 row_17 s_7 r_33 next_8 brk_9 hf_34 hn_11 hc_12 hb_13; obtain ⟨j_14, j_15, rfl⟩ := hf_34; unfold P_longest_l1; exact (q_kN (q_at [j_14, .va s_7, .va row_17] rfl (q_setB (by kernel_rfl) fun best_29 => (hn_11 best_29 _ ⟨j_14, .va row_17, rfl⟩))))
 · intro s_30 r_33 hf_34; obtain ⟨j_31, j_32, rfl⟩ := hf_34; exact (q_nx [j_31, .va s_30, j_32] rfl (q_retT rfl (by kernel_rfl))))))))))))
def P_told_at (day_1 : PD) (minute_2 : PD) : R PD := (F__check_moment [day_1, minute_2]).bind fun _ => F__told_at [day_1, minute_2]
theorem e_told_at (day_1 : PD) (minute_2 : PD) : F_told_at [day_1, minute_2] = P_told_at day_1 minute_2 := by
 show Kt.top.k (g_told_at [.va day_1, .va minute_2]) = _
 unfold P_told_at
 exact (q_seq (q_drop (by kernel_rfl) (q_nx [.va day_1, .va minute_2] rfl (q_retT rfl (by kernel_rfl)))))
def P_stroke (day_1 : PD) (minute_2 : PD) : R PD := (F__check_moment [day_1, minute_2]).bind fun _ => (F__told_at [day_1, minute_2]).bind fun d_3 => un2 .bad d_3 fun kind_4 hours_5 => (((((ixD hours_5 (.int 0)).bind fun a_6 => (ixD hours_5 (.int 1)).bind (fdivD a_6)).bind fun a_8 => addD a_8 (.int 1)).bind fun a_9 => .ok [a_9]).bind fun ds_10 => .ok (kind_4 :: ds_10)).bind mkT
theorem e_stroke (day_1 : PD) (minute_2 : PD) : F_stroke [day_1, minute_2] = P_stroke day_1 minute_2 := by
 show Kt.top.k (g_stroke [.va day_1, .va minute_2, .un, .un]) = _
 unfold P_stroke
 exact (q_seq (q_drop (by kernel_rfl) (q_nx [.va day_1, .va minute_2, .un, .un] rfl (q_seq (q_asg (k := (k2 (kN 2) (kN 3))) (tge_2 tge_n tge_n) (by kernel_rfl) fun d_3 => (q_k2 fun kind_4 hours_5 => (q_kN (q_kN (q_nx [.va day_1, .va minute_2, .va kind_4, .va hours_5] rfl (q_retT rfl (by kernel_rfl)))))))))))
def P_strokes_by (day_1 : PD) (minute_2 : PD) : R PD := (F__check_moment [day_1, minute_2]).bind fun _ => (F__told_at [day_1, minute_2]).bind fun d_3 => un2 .bad d_3 fun kind_4 hours_5 => ((ixD hours_5 (.int 0)).bind fun a_6 => (ixD hours_5 (.int 1)).bind (fdivD a_6)).bind fun a_8 => (((eqD kind_4 (.str "night")).bind asB).bind fun b_9 => if b_9 = true then .ok (.int 12) else .ok (.int 0)).bind (addD a_8)
theorem e_strokes_by (day_1 : PD) (minute_2 : PD) : F_strokes_by [day_1, minute_2] = P_strokes_by day_1 minute_2 := by
 show Kt.top.k (g_strokes_by [.va day_1, .va minute_2, .un, .un]) = _
 unfold P_strokes_by
 exact (q_seq (q_drop (by kernel_rfl) (q_nx [.va day_1, .va minute_2, .un, .un] rfl (q_seq (q_asg (k := (k2 (kN 2) (kN 3))) (tge_2 tge_n tge_n) (by kernel_rfl) fun d_3 => (q_k2 fun kind_4 hours_5 => (q_kN (q_kN (q_nx [.va day_1, .va minute_2, .va kind_4, .va hours_5] rfl (q_retT rfl (by kernel_rfl)))))))))))
def P_next_stroke (day_1 : PD) (minute_2 : PD) : R PD := (F__check_moment [day_1, minute_2]).bind fun _ => (F__told_at [day_1, minute_2]).bind fun d_3 => un2 .bad d_3 fun kind_4 hours_5 => (F__lengths [day_1]).bind fun d_6 => un2 .bad d_6 fun light_7 dark_8 => (((eqD kind_4 (.str "day")).bind asB).bind fun b_9 => if b_9 = true then ((ixD day_1 (.int 0)).bind fun a_10 => .ok [a_10, light_7]).bind mkT else ((ixD day_1 (.int 1)).bind fun a_11 => .ok [a_11, dark_8]).bind mkT).bind fun d_12 => un2 .bad d_12 fun begin_13 length_14 => (((((((((ixD hours_5 (.int 0)).bind fun a_15 => (ixD hours_5 (.int 1)).bind (fdivD a_15)).bind fun a_17 => addD a_17 (.int 1)).bind fun a_18 => .ok [a_18, (.int 1)]).bind mkT).bind fun a_19 => .ok [a_19, length_14]).bind fun ds_20 => chk (ds_20.length == 2) (F_times ds_20)).bind fun a_21 => .ok [a_21]).bind fun ds_22 => .ok ((.tuple [begin_13, (.int 1)]) :: ds_22)).bind fun ds_23 => chk (ds_23.length == 2) (F_plus ds_23)
theorem e_next_stroke (day_1 : PD) (minute_2 : PD) : F_next_stroke [day_1, minute_2] = P_next_stroke day_1 minute_2 := by
 show Kt.top.k (g_next_stroke [.va day_1, .va minute_2, .un, .un, .un, .un, .un, .un]) = _
 unfold P_next_stroke
 exact (q_seq (q_drop (by kernel_rfl) (q_nx [.va day_1, .va minute_2, .un, .un, .un, .un, .un, .un] rfl (q_seq (q_asg (k := (k2 (kN 2) (kN 3))) (tge_2 tge_n tge_n) (by kernel_rfl) fun d_3 => (q_k2 fun kind_4 hours_5 => (q_kN (q_kN (q_nx [.va day_1, .va minute_2, .va kind_4, .va hours_5, .un, .un, .un, .un] rfl (q_seq (q_asg (k := (k2 (kN 4) (kN 5))) (tge_2 tge_n tge_n) (by kernel_rfl) fun d_6 => (q_k2 fun light_7 dark_8 => (q_kN (q_kN (q_nx [.va day_1, .va minute_2, .va kind_4, .va hours_5, .va light_7, .va dark_8, .un, .un] rfl (q_seq (q_asg (k := (k2 (kN 6) (kN 7))) (tge_2 tge_n tge_n) (by kernel_rfl) fun d_12 => (q_k2 fun begin_13 length_14 => (q_kN (q_kN (q_nx [.va day_1, .va minute_2, .va kind_4, .va hours_5, .va light_7, .va dark_8, .va begin_13, .va length_14] rfl (q_retT rfl (by kernel_rfl)))))))))))))))))))))))
def P_day_on (table_1 : PD) (number_2 : PD) : R PD := (F__check_table [table_1]).bind fun _ => (F__check_number [table_1, number_2]).bind fun _ => F__day_on [table_1, number_2]
theorem e_day_on (table_1 : PD) (number_2 : PD) : F_day_on [table_1, number_2] = P_day_on table_1 number_2 := by
 show Kt.top.k (g_day_on [.va table_1, .va number_2]) = _
 unfold P_day_on
 exact (q_seq (q_drop (by kernel_rfl) (q_nx [.va table_1, .va number_2] rfl (q_seq (q_drop (by kernel_rfl) (q_nx [.va table_1, .va number_2] rfl (q_retT rfl (by kernel_rfl))))))))
def P__light (table_1 : PD) (number_2 : PD) : R PD := (F__day_on [table_1, number_2]).bind fun d_3 => un2 .bad d_3 fun rise_4 fall_5 => F_minus [fall_5, rise_4]
theorem e__light (table_1 : PD) (number_2 : PD) : F__light [table_1, number_2] = P__light table_1 number_2 := by
 show Kt.top.k (g__light [.va table_1, .va number_2, .un, .un]) = _
 unfold P__light
 exact (q_seq (q_asg (k := (k2 (kN 2) (kN 3))) (tge_2 tge_n tge_n) (by kernel_rfl) fun d_3 => (q_k2 fun rise_4 fall_5 => (q_kN (q_kN (q_nx [.va table_1, .va number_2, .va rise_4, .va fall_5] rfl (q_retT rfl (by kernel_rfl))))))))
def P_even_days (table_1 : PD) : R PD := (F__check_table [table_1]).bind fun _ => (((((ixD table_1 (.int 0)).bind fun a_2 => ixD a_2 (.int 0)).bind fun a_3 => ((((negD (.int 1)).bind (ixD table_1)).bind fun a_5 => ixD a_5 (.int 0)).bind fun a_6 => addD a_6 (.int 1)).bind (rgI2 a_3)).bind rgLst).bind fun l_8 => .ok (.list l_8)).bind fun numbers_9 => ((((itD numbers_9).bind fun items_10 => lcP items_10 fun number_11 => (((F__light [table_1, number_11]).bind fun a_12 => eqD a_12 (.tuple [.int 720, .int 1])).bind asB).whn (.ok (some number_11))).bind fun l_13 => .ok (.list l_13)).bind fun a_14 => .ok [a_14]).bind tupD
theorem e_even_days (table_1 : PD) : F_even_days [table_1] = P_even_days table_1 := by
 show Kt.top.k (g_even_days [.va table_1, .un, .un]) = _
 unfold P_even_days
 exact (q_seq (q_drop (by kernel_rfl) (q_nx [.va table_1, .un, .un] rfl (q_seq (q_setB (by kernel_rfl) fun numbers_9 => (q_nx [.va table_1, .va numbers_9, .un] rfl (q_retT rfl (by kernel_rfl))))))))
def P_candle_hours (table_1 : PD) (number_2 : PD) (size_3 : PD) : R PD := (F__check_table [table_1]).bind fun _ => (F__check_number [table_1, number_2]).bind fun _ => (((F_is_whole [size_3, (.int 1), (.int 1440)]).bind tru).bind fun b_4 => .ok (!b_4)).bind fun b_14 => if b_14 = true then .ex "BadSize" [] else ((((F__light [table_1, number_2]).bind fun a_5 => .ok [a_5]).bind fun ds_6 => .ok ((.tuple [(.int 1440), (.int 1)]) :: ds_6)).bind fun ds_7 => chk (ds_7.length == 2) (F_minus ds_7)).bind fun dark_8 => (((((mulD size_3 (.int 12)).bind fun a_9 => .ok [a_9, (.int 1)]).bind mkT).bind fun a_10 => .ok [a_10, dark_8]).bind fun ds_11 => chk (ds_11.length == 2) (F_over ds_11)).bind fun hours_12 => ((F_is_less [hours_12, (.tuple [(.int 12), (.int 1)])]).bind tru).bind fun b_13 => if b_13 = true then .ok hours_12 else .ok (.tuple [(.int 12), (.int 1)])
theorem e_candle_hours (table_1 : PD) (number_2 : PD) (size_3 : PD) : F_candle_hours [table_1, number_2, size_3] = P_candle_hours table_1 number_2 size_3 := by
 show Kt.top.k (g_candle_hours [.va table_1, .va number_2, .va size_3, .un, .un]) = _
 unfold P_candle_hours
 exact (q_seq (q_drop (by kernel_rfl) (q_nx [.va table_1, .va number_2, .va size_3, .un, .un] rfl (q_seq (q_drop (by kernel_rfl) (q_nx [.va table_1, .va number_2, .va size_3, .un, .un] rfl (q_seq (q_if (by kernel_rfl) (q_exc "BadSize") (q_nx [.va table_1, .va number_2, .va size_3, .un, .un] rfl (q_seq (q_setB (by kernel_rfl) fun dark_8 => (q_nx [.va table_1, .va number_2, .va size_3, .va dark_8, .un] rfl (q_seq (q_setB (by kernel_rfl) fun hours_12 => (q_nx [.va table_1, .va number_2, .va size_3, .va dark_8, .va hours_12] rfl (q_retT rfl (by kernel_rfl)))))))))))))))))
def P_shortest_candle_l1 (table_1 : PD) : PD → PD → (PD → R PD) → (PD → R PD) → R PD := fun number_22 s_12 next_13 brk_14 => ((((F__light [table_1, number_22]).bind fun a_23 => .ok [a_23]).bind fun ds_24 => .ok ((.tuple [(.int 1440), (.int 1)]) :: ds_24)).bind fun ds_25 => chk (ds_25.length == 2) (F_minus ds_25)).bind fun dark_26 => (((F_is_less [s_12, dark_26]).bind tru).bind fun b_27 => if b_27 = true then .ok dark_26 else .ok s_12).bind fun most_28 => next_13 most_28
def P_shortest_candle (table_1 : PD) : R PD := (F__check_table [table_1]).bind fun _ => (((ixD table_1 (.int 0)).bind fun a_2 => ixD a_2 (.int 0)).bind fun a_3 => ((((negD (.int 1)).bind (ixD table_1)).bind fun a_5 => ixD a_5 (.int 0)).bind fun a_6 => addD a_6 (.int 1)).bind (rg2 a_3)).bind fun items_8 => forK (P_shortest_candle_l1 table_1) items_8 (.tuple [(.int 0), (.int 1)]) fun s_29 => (((ixD s_29 (.int 0)).bind fun a_32 => (ixD s_29 (.int 1)).bind (addD a_32)).bind fun a_34 => subD a_34 (.int 1)).bind fun a_35 => (ixD s_29 (.int 1)).bind (fdivD a_35)
theorem e_shortest_candle (table_1 : PD) : F_shortest_candle [table_1] = P_shortest_candle table_1 := by
 show Kt.top.k (g_shortest_candle [.va table_1, .un, .un, .un]) = _
 unfold P_shortest_candle
 exact (q_seq (q_drop (by kernel_rfl) (q_nx [.va table_1, .un, .un, .un] rfl (q_seq (q_set (.tuple [(.int 0), (.int 1)]) (by kernel_rfl) (q_nx [.va table_1, .va (.tuple [(.int 0), (.int 1)]), .un, .un] rfl (q_seq (q_for (by kernel_rfl) fun items_8 => (by
 refine for_sim (bodyP := P_shortest_candle_l1 table_1) (tk := (kN 2)) (fun (s_9 : PD) ρ => ∃ j_10 j_11, ρ = [.va table_1, .va s_9, j_10, j_11]) tge_n ?_ (by exact rfl) ?_ _ (.tuple [(.int 0), (.int 1)]) _ ⟨.un, .un, rfl⟩
 · intro K_39 hr_15 number_22 s_12 r_37 next_13 brk_14 hf_38 hn_16 hc_17 hb_18; obtain ⟨j_19, j_20, rfl⟩ := hf_38; unfold P_shortest_candle_l1; exact (q_kN (q_at [.va table_1, .va s_12, .va number_22, j_20] rfl (q_seq (q_setB (by kernel_rfl) fun dark_26 => (q_nx [.va table_1, .va s_12, .va number_22, .va dark_26] rfl (q_setB (by kernel_rfl) fun most_28 => (hn_16 most_28 _ ⟨.va number_22, .va dark_26, rfl⟩)))))))
 · intro s_29 r_37 hf_38; obtain ⟨j_30, j_31, rfl⟩ := hf_38; exact (q_nx [.va table_1, .va s_29, j_30, j_31] rfl (q_retT rfl (by kernel_rfl))))))))))))
def P__law_error (call_1 : PD) (one_2 : PD) (two_3 : PD) (three_4 : PD) : R PD := tryK excs (((eqD call_1 (.int 0)).bind asB).bind fun b_16 => if b_16 = true then (F_hour_lengths [one_2]).bind fun _ => .ok none else ((eqD call_1 (.int 1)).bind asB).bind fun b_15 => if b_15 = true then (F_told_at [one_2, two_3]).bind fun _ => .ok none else ((eqD call_1 (.int 2)).bind asB).bind fun b_14 => if b_14 = true then (F_stroke [one_2, two_3]).bind fun _ => .ok none else ((eqD call_1 (.int 3)).bind asB).bind fun b_13 => if b_13 = true then (F_strokes_by [one_2, two_3]).bind fun _ => .ok none else ((eqD call_1 (.int 4)).bind asB).bind fun b_12 => if b_12 = true then (F_next_stroke [one_2, two_3]).bind fun _ => .ok none else ((eqD call_1 (.int 5)).bind asB).bind fun b_11 => if b_11 = true then (F_minute_of [one_2, two_3]).bind fun _ => .ok none else ((eqD call_1 (.int 6)).bind asB).bind fun b_10 => if b_10 = true then (F_longest [one_2]).bind fun _ => .ok none else ((eqD call_1 (.int 7)).bind asB).bind fun b_9 => if b_9 = true then (F_even_days [one_2]).bind fun _ => .ok none else ((eqD call_1 (.int 8)).bind asB).bind fun b_8 => if b_8 = true then (F_shortest_candle [one_2]).bind fun _ => .ok none else ((eqD call_1 (.int 9)).bind asB).bind fun b_7 => if b_7 = true then (F_day_on [one_2, two_3]).bind fun _ => .ok none else (F_candle_hours [one_2, two_3, three_4]).bind fun _ => .ok none) [("BadDay", .ok (.str "day")), ("BadMoment", .ok (.str "moment")), ("BadTold", .ok (.str "told")), ("BadTable", .ok (.str "table")), ("BadNumber", .ok (.str "number")), ("BadSize", .ok (.str "size"))] .ok (.ok (.str "none"))
theorem e__law_error (call_1 : PD) (one_2 : PD) (two_3 : PD) (three_4 : PD) : F__law_error [call_1, one_2, two_3, three_4] = P__law_error call_1 one_2 two_3 three_4 := by
 show Kt.top.k (g__law_error [.va call_1, .va one_2, .va two_3, .va three_4]) = _
 unfold P__law_error
 exact (q_seq (by
 refine q_try (ret := .ok) (fun ρ => ρ = [.va call_1, .va one_2, .va two_3, .va three_4]) ?_ ?_ (.cons (fun _ => (K_rt rfl)) (.cons (fun _ => (K_rt rfl)) (.cons (fun _ => (K_rt rfl)) (.cons (fun _ => (K_rt rfl)) (.cons (fun _ => (K_rt rfl)) (.cons (fun _ => (K_rt rfl)) HdK.nil)))))) (by exact rfl)
 · intro K_19 hr_5 hn_6; exact (q_if (by kernel_rfl) (q_drop (by kernel_rfl) (hn_6 _ rfl)) (q_if (by kernel_rfl) (q_drop (by kernel_rfl) (hn_6 _ rfl)) (q_if (by kernel_rfl) (q_drop (by kernel_rfl) (hn_6 _ rfl)) (q_if (by kernel_rfl) (q_drop (by kernel_rfl) (hn_6 _ rfl)) (q_if (by kernel_rfl) (q_drop (by kernel_rfl) (hn_6 _ rfl)) (q_if (by kernel_rfl) (q_drop (by kernel_rfl) (hn_6 _ rfl)) (q_if (by kernel_rfl) (q_drop (by kernel_rfl) (hn_6 _ rfl)) (q_if (by kernel_rfl) (q_drop (by kernel_rfl) (hn_6 _ rfl)) (q_if (by kernel_rfl) (q_drop (by kernel_rfl) (hn_6 _ rfl)) (q_if (by kernel_rfl) (q_drop (by kernel_rfl) (hn_6 _ rfl)) (q_drop (by kernel_rfl) (hn_6 _ rfl))))))))))))
 · intro r_17 hf_18; subst hf_18; exact (q_nx [.va call_1, .va one_2, .va two_3, .va three_4] rfl (q_retT rfl (by kernel_rfl)))))
def P__law_refuses_l1  : PD → Unit → (Unit → R PD) → (Unit → R PD) → R PD := fun wrong_27 s_15 next_16 brk_17 => ((((((rg1 (.int 5)).bind fun items_28 => lcP items_28 fun call_29 => (F__law_error [call_29, wrong_27, (.tuple [(.int 400), (.int 1)]), .none]).sm).bind fun l_30 => .ok (.list l_30)).bind fun a_31 => ((((F__law_error [(.int 5), wrong_27, (.tuple [(.str "day"), (.tuple [(.int 1), (.int 1)])]), .none]).bind fun a_32 => .ok [a_32]).bind mkL).bind fun l_33 => .ok (.list l_33)).bind (addD a_31)).bind fun a_35 => ((repD [(.str "day")] (.int 6)).bind fun l_36 => .ok (.list l_36)).bind (neD a_35)).bind asB).bind fun b_38 => if b_38 = true then .ok (.bool false) else next_16 ()
def P__law_refuses_l2  : PD → Unit → (Unit → R PD) → (Unit → R PD) → R PD := fun wrong_61 s_49 next_50 brk_51 => ((((lcP [(.int 1), (.int 2), (.int 3), (.int 4)] fun call_62 => (F__law_error [call_62, (.tuple [(.int 360), (.int 1080)]), wrong_61, .none]).sm).bind fun l_63 => .ok (.list l_63)).bind fun a_64 => ((repD [(.str "moment")] (.int 4)).bind fun l_65 => .ok (.list l_65)).bind (neD a_64)).bind asB).bind fun b_67 => if b_67 = true then .ok (.bool false) else next_50 ()
def P__law_refuses_l3  : PD → Unit → (Unit → R PD) → (Unit → R PD) → R PD := fun wrong_119 s_107 next_108 brk_109 => ((((lcP [(.int 6), (.int 7), (.int 8), (.int 9), (.int 10)] fun call_120 => (F__law_error [call_120, wrong_119, (.int 0), (.int 1)]).sm).bind fun l_121 => .ok (.list l_121)).bind fun a_122 => ((repD [(.str "table")] (.int 5)).bind fun l_123 => .ok (.list l_123)).bind (neD a_122)).bind asB).bind fun b_125 => if b_125 = true then .ok (.bool false) else next_108 ()
def P__law_refuses  : R PD := ((((((((((((negD (.int 1)).bind fun a_1 => .ok [a_1, (.int 5)]).bind mkT).bind fun a_2 => .ok [a_2, (.tuple [(.int 0), (.int 1440)]), (.tuple [(.bool true), (.int 5)]), (.tuple [(.int 1), (.int 2), (.int 3)])]).bind fun ds_3 => .ok ((.tuple [(.int 6), (.int 5)]) :: ds_3)).bind fun ds_4 => .ok ((.tuple [(.int 5), (.int 5)]) :: ds_4)).bind fun ds_5 => .ok ((.list [(.int 1), (.int 2)]) :: ds_5)).bind fun ds_6 => .ok ((.tuple [(.int 1)]) :: ds_6)).bind fun ds_7 => .ok ((.tuple []) :: ds_7)).bind fun ds_8 => .ok (.none :: ds_8)).bind mkT).bind itD).bind fun items_9 => forK (P__law_refuses_l1) items_9 () fun s_39 => forK (P__law_refuses_l2) [.none, (.int 400), (.tuple [(.int 359), (.int 1)]), (.tuple [(.int 1800), (.int 1)]), (.tuple [(.int 800), (.int 2)]), (.tuple [(.int 400), (.int 0)]), (.tuple [(.bool true), (.int 1)]), (.list [(.int 400), (.int 1)])] () fun s_68 => (((((((((((((((((negD (.int 1)).bind fun a_73 => .ok [a_73, (.int 1)]).bind mkT).bind fun a_74 => .ok [a_74]).bind fun ds_75 => .ok ((.str "day") :: ds_75)).bind mkT).bind fun a_76 => .ok [a_76, (.tuple [(.str "day"), (.tuple [(.int 2), (.int 2)])]), (.list [(.str "day"), (.tuple [(.int 1), (.int 1)])]), (.tuple [(.str "day"), (.int 1)])]).bind fun ds_77 => .ok ((.tuple [(.str "day"), (.tuple [(.int 12), (.int 1)])]) :: ds_77)).bind fun ds_78 => .ok ((.tuple [(.str "noon"), (.tuple [(.int 1), (.int 1)])]) :: ds_78)).bind fun ds_79 => .ok ((.tuple [(.str "day")]) :: ds_79)).bind fun ds_80 => .ok (.none :: ds_80)).bind mkT).bind itD).bind fun items_81 => lcP items_81 fun wrong_82 => (F__law_error [(.int 5), (.tuple [(.int 360), (.int 1080)]), wrong_82, .none]).sm).bind fun l_83 => .ok (.list l_83)).bind fun a_84 => ((repD [(.str "told")] (.int 8)).bind fun l_85 => .ok (.list l_85)).bind (neD a_84)).bind asB).bind fun b_163 => if b_163 = true then .ok (.bool false) else (((((((((((((((((rg1 (.int 41)).bind fun items_87 => lcP items_87 fun k_88 => .ok (some (.tuple [k_88, (.tuple [(.int 360), (.int 1080)])]))).bind fun l_89 => .ok (.list l_89)).bind fun a_90 => .ok [a_90]).bind tupD).bind fun a_91 => .ok [a_91]).bind fun ds_92 => .ok ((.tuple [(.tuple [(.bool true), (.tuple [(.int 360), (.int 1080)])])]) :: ds_92)).bind fun ds_93 => .ok ((.tuple [(.tuple [(.int 0)])]) :: ds_93)).bind fun ds_94 => .ok ((.tuple [(.tuple [(.int 1), (.tuple [(.int 360), (.int 1080)])]), (.tuple [(.int 0), (.tuple [(.int 360), (.int 1080)])])]) :: ds_94)).bind fun ds_95 => .ok ((.tuple [(.tuple [(.int 0), (.tuple [(.int 360), (.int 1080)])]), (.tuple [(.int 0), (.tuple [(.int 360), (.int 1080)])])]) :: ds_95)).bind fun ds_96 => .ok ((.tuple [(.tuple [(.int 401), (.tuple [(.int 360), (.int 1080)])])]) :: ds_96)).bind fun ds_97 => .ok ((.tuple [(.tuple [(.int 0), (.tuple [(.int 5), (.int 5)])])]) :: ds_97)).bind fun ds_98 => .ok ((.list [(.tuple [(.int 0), (.tuple [(.int 360), (.int 1080)])])]) :: ds_98)).bind fun ds_99 => .ok ((.tuple []) :: ds_99)).bind fun ds_100 => .ok (.none :: ds_100)).bind mkT).bind itD).bind fun items_101 => forK (P__law_refuses_l3) items_101 () fun s_126 => ((((((lcP [(.int 2), (.int 10), (.bool true), .none] fun wrong_131 => (((lcP [(.int 9), (.int 10)] fun call_132 => (F__law_error [call_132, (.tuple [(.tuple [(.int 3), (.tuple [(.int 360), (.int 1080)])]), (.tuple [(.int 9), (.tuple [(.int 300), (.int 1140)])])]), wrong_131, (.int 1)]).sm).bind fun l_133 => .ok (.list l_133)).bind fun a_134 => ((repD [(.str "number")] (.int 2)).bind fun l_135 => .ok (.list l_135)).bind (eqD a_134)).sm).bind fun l_137 => .ok (.list l_137)).bind fun a_138 => .ok [a_138]).bind allD).bind tru).bind fun b_139 => .ok (!b_139)).bind fun b_159 => if b_159 = true then .ok (.bool false) else ((((lcP [(.int 0), (.int 1441), (.bool true), .none] fun wrong_140 => (F__law_error [(.int 10), (.tuple [(.tuple [(.int 3), (.tuple [(.int 360), (.int 1080)])]), (.tuple [(.int 9), (.tuple [(.int 300), (.int 1140)])])]), (.int 5), wrong_140]).sm).bind fun l_141 => .ok (.list l_141)).bind fun a_142 => ((repD [(.str "size")] (.int 4)).bind fun l_143 => .ok (.list l_143)).bind (neD a_142)).bind asB).bind fun b_158 => if b_158 = true then .ok (.bool false) else ((F_told_at [(.tuple [(.int 360), (.int 1080)]), (.tuple [(.int 720), (.int 1)])]).bind fun a_145 => eqD a_145 (.tuple [(.str "day"), (.tuple [(.int 6), (.int 1)])])).bind fun a_146 => (tru a_146).bind fun b_147 => if b_147 = true then ((F_stroke [(.tuple [(.int 360), (.int 1080)]), (.tuple [(.int 1080), (.int 1)])]).bind fun a_148 => eqD a_148 (.tuple [(.str "night"), (.int 1)])).bind fun a_149 => (tru a_149).bind fun b_150 => if b_150 = true then ((F_strokes_by [(.tuple [(.int 360), (.int 1080)]), (.tuple [(.int 1080), (.int 1)])]).bind fun a_151 => eqD a_151 (.int 12)).bind fun a_152 => (tru a_152).bind fun b_153 => if b_153 = true then ((F_even_days [(.tuple [(.tuple [(.int 3), (.tuple [(.int 360), (.int 1080)])]), (.tuple [(.int 9), (.tuple [(.int 300), (.int 1140)])])])]).bind fun a_154 => eqD a_154 (.tuple [(.int 3)])).bind fun a_155 => (tru a_155).bind fun b_156 => if b_156 = true then (F_shortest_candle [(.tuple [(.tuple [(.int 3), (.tuple [(.int 360), (.int 1080)])]), (.tuple [(.int 9), (.tuple [(.int 300), (.int 1140)])])])]).bind fun a_157 => eqD a_157 (.int 720) else .ok a_155 else .ok a_152 else .ok a_149 else .ok a_146
theorem e__law_refuses  : F__law_refuses [] = P__law_refuses  := by
 show Kt.top.k (g__law_refuses [.un, .un, .un, .un, .un]) = _
 unfold P__law_refuses
 exact (q_seq (q_set (.tuple [(.int 360), (.int 1080)]) (by kernel_rfl) (q_nx [.va (.tuple [(.int 360), (.int 1080)]), .un, .un, .un, .un] rfl (q_seq (q_for (by kernel_rfl) fun items_9 => (by
 refine for_sim (bodyP := P__law_refuses_l1) (tk := (kN 1)) (fun (s_10 : Unit) ρ => ∃ j_11 j_12 j_13 j_14, ρ = [.va (.tuple [(.int 360), (.int 1080)]), j_11, j_12, j_13, j_14]) tge_n ?_ (by exact rfl) ?_ _ () _ ⟨.un, .un, .un, .un, rfl⟩
 · intro K_169 hr_18 wrong_27 s_15 r_167 next_16 brk_17 hf_168 hn_19 hc_20 hb_21; obtain ⟨j_22, j_23, j_24, j_25, rfl⟩ := hf_168; unfold P__law_refuses_l1; exact (q_kN (q_at [.va (.tuple [(.int 360), (.int 1080)]), .va wrong_27, j_23, j_24, j_25] rfl (q_if (by kernel_rfl) (q_retT hr_18 (by kernel_rfl)) (hn_19 () _ ⟨.va wrong_27, j_23, j_24, j_25, rfl⟩))))
 · intro s_39 r_167 hf_168; obtain ⟨j_40, j_41, j_42, j_43, rfl⟩ := hf_168; exact (q_nx [.va (.tuple [(.int 360), (.int 1080)]), j_40, j_41, j_42, j_43] rfl (q_seq (q_foro [.none, (.int 400), (.tuple [(.int 359), (.int 1)]), (.tuple [(.int 1800), (.int 1)]), (.tuple [(.int 800), (.int 2)]), (.tuple [(.int 400), (.int 0)]), (.tuple [(.bool true), (.int 1)]), (.list [(.int 400), (.int 1)])] (by kernel_rfl) (by
 refine for_sim (bodyP := P__law_refuses_l2) (tk := (kN 1)) (fun (s_44 : Unit) ρ => ∃ j_45 j_46 j_47 j_48, ρ = [.va (.tuple [(.int 360), (.int 1080)]), j_45, j_46, j_47, j_48]) tge_n ?_ (by exact rfl) ?_ _ () _ ⟨j_40, j_41, j_42, j_43, rfl⟩
 · intro K_166 hr_52 wrong_61 s_49 r_164 next_50 brk_51 hf_165 hn_53 hc_54 hb_55; obtain ⟨j_56, j_57, j_58, j_59, rfl⟩ := hf_165; unfold P__law_refuses_l2; exact (q_kN (q_at [.va (.tuple [(.int 360), (.int 1080)]), .va wrong_61, j_57, j_58, j_59] rfl (q_if (by kernel_rfl) (q_retT hr_52 (by kernel_rfl)) (hn_53 () _ ⟨.va wrong_61, j_57, j_58, j_59, rfl⟩))))
 · intro s_68 r_164 hf_165; obtain ⟨j_69, j_70, j_71, j_72, rfl⟩ := hf_165; exact (q_nx [.va (.tuple [(.int 360), (.int 1080)]), j_69, j_70, j_71, j_72] rfl (q_seq (q_if (by kernel_rfl) (q_retT rfl (by kernel_rfl)) (q_nx [.va (.tuple [(.int 360), (.int 1080)]), j_69, j_70, j_71, j_72] rfl (q_seq (q_for (by kernel_rfl) fun items_101 => (by
 refine for_sim (bodyP := P__law_refuses_l3) (tk := (kN 1)) (fun (s_102 : Unit) ρ => ∃ j_103 j_104 j_105 j_106, ρ = [.va (.tuple [(.int 360), (.int 1080)]), j_103, j_104, j_105, j_106]) tge_n ?_ (by exact rfl) ?_ _ () _ ⟨j_69, j_70, j_71, j_72, rfl⟩
 · intro K_162 hr_110 wrong_119 s_107 r_160 next_108 brk_109 hf_161 hn_111 hc_112 hb_113; obtain ⟨j_114, j_115, j_116, j_117, rfl⟩ := hf_161; unfold P__law_refuses_l3; exact (q_kN (q_at [.va (.tuple [(.int 360), (.int 1080)]), .va wrong_119, j_115, j_116, j_117] rfl (q_if (by kernel_rfl) (q_retT hr_110 (by kernel_rfl)) (hn_111 () _ ⟨.va wrong_119, j_115, j_116, j_117, rfl⟩))))
 · intro s_126 r_160 hf_161; obtain ⟨j_127, j_128, j_129, j_130, rfl⟩ := hf_161; exact (q_nx [.va (.tuple [(.int 360), (.int 1080)]), j_127, j_128, j_129, j_130] rfl (q_seq (q_set (.tuple [(.tuple [(.int 3), (.tuple [(.int 360), (.int 1080)])]), (.tuple [(.int 9), (.tuple [(.int 300), (.int 1140)])])]) (by kernel_rfl) (q_nx [.va (.tuple [(.int 360), (.int 1080)]), j_127, .va (.tuple [(.tuple [(.int 3), (.tuple [(.int 360), (.int 1080)])]), (.tuple [(.int 9), (.tuple [(.int 300), (.int 1140)])])]), j_129, j_130] rfl (q_seq (q_if (by kernel_rfl) (q_retT rfl (by kernel_rfl)) (q_nx [.va (.tuple [(.int 360), (.int 1080)]), j_127, .va (.tuple [(.tuple [(.int 3), (.tuple [(.int 360), (.int 1080)])]), (.tuple [(.int 9), (.tuple [(.int 300), (.int 1140)])])]), j_129, j_130] rfl (q_seq (q_if (by kernel_rfl) (q_retT rfl (by kernel_rfl)) (q_nx [.va (.tuple [(.int 360), (.int 1080)]), j_127, .va (.tuple [(.tuple [(.int 3), (.tuple [(.int 360), (.int 1080)])]), (.tuple [(.int 9), (.tuple [(.int 300), (.int 1140)])])]), j_129, j_130] rfl (q_retT rfl (by kernel_rfl)))))))))))))))))))))))))))))
def P_law_l1 (day_75 : PD) (ends_93 : PD) : PD → Unit → (Unit → R PD) → (Unit → R PD) → R PD := fun minute_169 s_138 next_139 brk_140 => (F__law_told [day_75, minute_169]).bind fun told_170 => ((((F_told_at [day_75, minute_169]).bind fun a_171 => neD a_171 told_170).bind asB).bind fun b_172 => if b_172 = true then .ok true else ((F_minute_of [day_75, told_170]).bind fun a_173 => neD a_173 minute_169).bind asB).bind fun b_198 => if b_198 = true then .ok (.bool false) else (((((itD ends_93).bind fun items_174 => lcP items_174 fun end_175 => ((((ixD end_175 (.int 0)).bind fun a_176 => (ixD minute_169 (.int 1)).bind (mulD a_176)).bind fun a_178 => ((ixD minute_169 (.int 0)).bind fun a_179 => (ixD end_175 (.int 1)).bind (mulD a_179)).bind (leD a_178)).bind asB).whn (.ok (some end_175))).bind fun l_182 => .ok (.list l_182)).bind fun a_183 => .ok [a_183]).bind lenD).bind fun gone_184 => ((((F_strokes_by [day_75, minute_169]).bind fun a_185 => neD a_185 gone_184).bind asB).bind fun b_186 => if b_186 = true then .ok true else (((F_stroke [day_75, minute_169]).bind fun a_187 => ((((fdivD gone_184 (.int 12)).bind (ixD (.list [(.str "day"), (.str "night")]))).bind fun a_191 => (((modD gone_184 (.int 12)).bind fun a_189 => addD a_189 (.int 1)).bind fun a_190 => .ok [a_190]).bind fun ds_192 => .ok (a_191 :: ds_192)).bind mkT).bind (neD a_187)).bind asB).bind fun b_194 => if b_194 = true then .ok true else ((F_next_stroke [day_75, minute_169]).bind fun a_195 => (ixD ends_93 gone_184).bind (neD a_195)).bind asB).bind fun b_197 => if b_197 = true then .ok (.bool false) else next_139 ()
def P_law_l2 (draws_2 : PD) : PD → Unit → (Unit → R PD) → (Unit → R PD) → R PD := fun k_67 s_32 next_33 brk_34 => (((((ixD draws_2 k_67).bind fun a_68 => .ok [a_68]).bind intD).bind fun a_72 => (((((addD (.int 5) k_67).bind (ixD draws_2)).bind fun a_70 => .ok [a_70]).bind intD).bind fun a_71 => .ok [a_71]).bind fun ds_73 => .ok (a_72 :: ds_73)).bind fun ds_74 => chk (ds_74.length == 2) (F__law_day ds_74)).bind fun day_75 => ((ixD day_75 (.int 1)).bind fun a_76 => (ixD day_75 (.int 0)).bind (subD a_76)).bind fun light_81 => (((ixD day_75 (.int 1)).bind (subD (.int 1440))).bind fun a_79 => (ixD day_75 (.int 0)).bind (addD a_79)).bind fun dark_82 => (((F_hour_lengths [day_75]).bind fun a_83 => (((F__law_lowest [light_81, (.int 12)]).bind fun a_85 => ((F__law_lowest [dark_82, (.int 12)]).bind fun a_84 => .ok [a_84]).bind fun ds_86 => .ok (a_85 :: ds_86)).bind mkT).bind (neD a_83)).bind asB).bind fun b_311 => if b_311 = true then .ok (.bool false) else ((((((addD (.int 10) k_67).bind (ixD draws_2)).bind fun a_89 => .ok [a_89]).bind intD).bind fun a_90 => modD a_90 (.int 9)).bind (addD (.int 1))).bind fun down_92 => (F__law_ends [day_75]).bind fun ends_93 => ((((((((ixD day_75 (.int 0)).bind fun a_94 => mulD a_94 down_92).bind fun a_95 => (((((addD (.int 15) k_67).bind (ixD draws_2)).bind fun a_97 => .ok [a_97]).bind intD).bind fun a_98 => (mulD (.int 1440) down_92).bind (modD a_98)).bind (addD a_95)).bind fun a_101 => .ok [a_101, down_92]).bind fun ds_102 => chk (ds_102.length == 2) (F__law_lowest ds_102)).bind fun a_111 => (((((((addD (.int 20) k_67).bind (ixD draws_2)).bind fun a_104 => .ok [a_104]).bind intD).bind fun a_105 => modD a_105 (.int 23)).bind (ixD ends_93)).bind fun a_109 => ((((ixD day_75 (.int 0)).bind fun a_107 => .ok [a_107, (.int 1)]).bind mkT).bind fun a_108 => .ok [a_108]).bind fun ds_110 => .ok (a_109 :: ds_110)).bind fun ds_112 => .ok (a_111 :: ds_112)).bind mkT).bind itD).bind fun items_113 => forK (P_law_l1 day_75 ends_93) items_113 () fun s_199 => (((((((addD (.int 25) k_67).bind (ixD draws_2)).bind fun a_224 => .ok [a_224]).bind intD).bind fun a_225 => modD a_225 (.int 99)).bind fun a_226 => .ok [a_226, down_92]).bind fun ds_227 => chk (ds_227.length == 2) (F__law_lowest ds_227)).bind fun one_237 => ((((((((addD (.int 30) k_67).bind (ixD draws_2)).bind fun a_229 => .ok [a_229]).bind intD).bind fun a_230 => modD a_230 (.int 99)).bind (addD (.int 1))).bind fun a_234 => (((modD down_92 (.int 7)).bind (addD (.int 1))).bind fun a_233 => .ok [a_233]).bind fun ds_235 => .ok (a_234 :: ds_235)).bind fun ds_236 => chk (ds_236.length == 2) (F__law_lowest ds_236)).bind fun two_238 => ((((F_plus [one_237, two_238]).bind fun a_239 => (((((ixD one_237 (.int 0)).bind fun a_240 => (ixD two_238 (.int 1)).bind (mulD a_240)).bind fun a_242 => ((ixD two_238 (.int 0)).bind fun a_243 => (ixD one_237 (.int 1)).bind (mulD a_243)).bind (addD a_242)).bind fun a_249 => (((ixD one_237 (.int 1)).bind fun a_246 => (ixD two_238 (.int 1)).bind (mulD a_246)).bind fun a_248 => .ok [a_248]).bind fun ds_250 => .ok (a_249 :: ds_250)).bind fun ds_251 => chk (ds_251.length == 2) (F__law_lowest ds_251)).bind (neD a_239)).bind asB).bind fun b_253 => if b_253 = true then .ok true else ((F_minus [one_237, two_238]).bind fun a_254 => (((((ixD one_237 (.int 0)).bind fun a_255 => (ixD two_238 (.int 1)).bind (mulD a_255)).bind fun a_257 => ((ixD two_238 (.int 0)).bind fun a_258 => (ixD one_237 (.int 1)).bind (mulD a_258)).bind (subD a_257)).bind fun a_264 => (((ixD one_237 (.int 1)).bind fun a_261 => (ixD two_238 (.int 1)).bind (mulD a_261)).bind fun a_263 => .ok [a_263]).bind fun ds_265 => .ok (a_264 :: ds_265)).bind fun ds_266 => chk (ds_266.length == 2) (F__law_lowest ds_266)).bind (neD a_254)).bind asB).bind fun b_307 => if b_307 = true then .ok (.bool false) else ((((F_times [one_237, two_238]).bind fun a_268 => ((((ixD one_237 (.int 0)).bind fun a_269 => (ixD two_238 (.int 0)).bind (mulD a_269)).bind fun a_274 => (((ixD one_237 (.int 1)).bind fun a_271 => (ixD two_238 (.int 1)).bind (mulD a_271)).bind fun a_273 => .ok [a_273]).bind fun ds_275 => .ok (a_274 :: ds_275)).bind fun ds_276 => chk (ds_276.length == 2) (F__law_lowest ds_276)).bind (neD a_268)).bind asB).bind fun b_278 => if b_278 = true then .ok true else ((F_over [one_237, two_238]).bind fun a_279 => ((((ixD one_237 (.int 0)).bind fun a_280 => (ixD two_238 (.int 1)).bind (mulD a_280)).bind fun a_285 => (((ixD one_237 (.int 1)).bind fun a_282 => (ixD two_238 (.int 0)).bind (mulD a_282)).bind fun a_284 => .ok [a_284]).bind fun ds_286 => .ok (a_285 :: ds_286)).bind fun ds_287 => chk (ds_287.length == 2) (F__law_lowest ds_287)).bind (neD a_279)).bind asB).bind fun b_306 => if b_306 = true then .ok (.bool false) else (((((((ixD one_237 (.int 0)).bind (mulD (.int 10))).bind fun a_292 => (((ixD one_237 (.int 1)).bind (mulD (.int 10))).bind fun a_291 => .ok [a_291]).bind fun ds_293 => .ok (a_292 :: ds_293)).bind fun ds_294 => chk (ds_294.length == 2) (F_quotient ds_294)).bind fun a_295 => neD a_295 one_237).bind asB).bind fun b_296 => if b_296 = true then .ok true else ((F_is_less [one_237, two_238]).bind fun a_297 => (((ixD one_237 (.int 0)).bind fun a_298 => (ixD two_238 (.int 1)).bind (mulD a_298)).bind fun a_300 => ((ixD two_238 (.int 0)).bind fun a_301 => (ixD one_237 (.int 1)).bind (mulD a_301)).bind (ltD a_300)).bind (neD a_297)).bind asB).bind fun b_305 => if b_305 = true then .ok (.bool false) else next_33 ()
def P_law_l3 (draws_2 : PD) : PD → (List PD × PD) → ((List PD × PD) → R PD) → ((List PD × PD) → R PD) → R PD := fun k_407 s_374 next_375 brk_376 => (((((((addD (.int 37) k_407).bind (ixD draws_2)).bind fun a_409 => .ok [a_409]).bind intD).bind fun a_410 => modD a_410 (.int 13)).bind fun a_411 => mulD a_411 (.int 10)).bind (addD (.int 300))).bind fun rise_413 => (((((((((((subD (.int 1440) rise_413).bind fun a_415 => ((addD rise_413 (.int 720)).bind fun a_414 => .ok [a_414]).bind fun ds_416 => .ok (a_415 :: ds_416)).bind mkL).bind fun l_417 => .ok (.list l_417)).bind fun a_418 => (((((addD (.int 41) k_407).bind (ixD draws_2)).bind fun a_420 => .ok [a_420]).bind intD).bind fun a_421 => modD a_421 (.int 2)).bind (ixD a_418)).bind fun a_423 => .ok [a_423]).bind fun ds_424 => .ok (rise_413 :: ds_424)).bind mkT).bind fun a_425 => .ok [a_425]).bind fun ds_426 => .ok (s_374.2 :: ds_426)).bind mkT).bind fun d_435 => appK s_374.1 d_435 fun rows_427 => ((addD s_374.2 (.int 1)).bind fun a_428 => ((((((addD (.int 41) k_407).bind (ixD draws_2)).bind fun a_430 => .ok [a_430]).bind intD).bind fun a_431 => fdivD a_431 (.int 2)).bind fun a_432 => modD a_432 (.int 9)).bind (addD a_428)).bind fun number_434 => next_375 (rows_427, number_434)
def P_law_l4 (table_462 : PD) : PD → (List PD) → ((List PD) → R PD) → ((List PD) → R PD) → R PD := fun one_529 s_497 next_498 brk_499 => (F__law_on [table_462, one_529]).bind fun d_530 => un2 .bad d_530 fun rise_531 fall_532 => (((F_day_on [table_462, one_529]).bind fun a_533 => neD a_533 (.tuple [rise_531, fall_532])).bind asB).bind fun b_547 => if b_547 = true then .ok (.bool false) else (((((ixD fall_532 (.int 0)).bind fun a_534 => (ixD rise_531 (.int 1)).bind (mulD a_534)).bind fun a_536 => ((ixD rise_531 (.int 0)).bind fun a_537 => (ixD fall_532 (.int 1)).bind (mulD a_537)).bind (subD a_536)).bind fun a_543 => (((ixD rise_531 (.int 1)).bind fun a_540 => (ixD fall_532 (.int 1)).bind (mulD a_540)).bind fun a_542 => .ok [a_542]).bind fun ds_544 => .ok (a_543 :: ds_544)).bind mkT).bind fun d_546 => appK s_497 d_546 fun lights_545 => next_498 lights_545
def P_law_l5 (draws_2 : PD) (table_462 : PD) (numbers_470 : PD) (s_548 : List PD) (need_603 : PD) : PD → Unit → (Unit → R PD) → (Unit → R PD) → R PD := fun k_675 s_644 next_645 brk_646 => ((((((addD (.int 45) k_675).bind (ixD draws_2)).bind fun a_677 => .ok [a_677]).bind intD).bind fun a_678 => modD a_678 (.int 1440)).bind (addD (.int 1))).bind fun size_685 => (((((ixD draws_2 (.int 48)).bind fun a_680 => .ok [a_680]).bind intD).bind fun a_681 => (addD (.int 1) k_675).bind (fdivD a_681)).bind fun a_683 => (lenD [numbers_470]).bind (modD a_683)).bind fun at_686 => ((((mulD (.int 12) size_685).bind fun a_687 => ((ixD (.list s_548) at_686).bind fun a_688 => ixD a_688 (.int 1)).bind (mulD a_687)).bind fun a_691 => ((ixD need_603 at_686).bind fun a_690 => .ok [a_690]).bind fun ds_692 => .ok (a_691 :: ds_692)).bind fun ds_693 => chk (ds_693.length == 2) (F__law_lowest ds_693)).bind fun hours_694 => ((((((ixD numbers_470 at_686).bind fun a_695 => .ok [a_695, size_685]).bind fun ds_696 => .ok (table_462 :: ds_696)).bind fun ds_697 => chk (ds_697.length == 3) (F_candle_hours ds_697)).bind fun a_698 => ((((ixD hours_694 (.int 0)).bind fun a_699 => ((ixD hours_694 (.int 1)).bind (mulD (.int 12))).bind (ltD a_699)).bind asB).bind fun b_702 => if b_702 = true then .ok hours_694 else .ok (.tuple [(.int 12), (.int 1)])).bind (neD a_698)).bind asB).bind fun b_704 => if b_704 = true then .ok (.bool false) else next_645 ()
def P_law (ns_1 : List Int) : R PD := ((F__law_draws ns_1 50).nx).bind fun draws_2 => (rg1 (.int 5)).bind fun items_3 => forK (P_law_l2 draws_2) items_3 () fun s_312 => (R.ok []).bind fun rows_342 => ((((ixD draws_2 (.int 35)).bind fun a_340 => .ok [a_340]).bind intD).bind fun a_341 => modD a_341 (.int 20)).bind fun number_343 => ((((((ixD draws_2 (.int 36)).bind fun a_344 => .ok [a_344]).bind intD).bind fun a_345 => modD a_345 (.int 4)).bind (addD (.int 1))).bind rg1).bind fun items_347 => forK (P_law_l3 draws_2) items_347 (rows_342, number_343) fun s_436 => (tupD [(.list s_436.1)]).bind fun table_462 => (((((ixD table_462 (.int 0)).bind fun a_463 => ixD a_463 (.int 0)).bind fun a_464 => ((((negD (.int 1)).bind (ixD table_462)).bind fun a_466 => ixD a_466 (.int 0)).bind fun a_467 => addD a_467 (.int 1)).bind (rgI2 a_464)).bind rgLst).bind fun l_469 => .ok (.list l_469)).bind fun numbers_470 => (itD numbers_470).bind fun items_471 => forK (P_law_l4 table_462) items_471 [] fun s_548 => (((itD table_462).bind fun items_573 => lcP items_573 fun row_574 => (((ixD row_574 (.int 1)).bind fun a_575 => ixD a_575 (.int 1)).bind fun a_576 => ((ixD row_574 (.int 1)).bind fun a_577 => ixD a_577 (.int 0)).bind (subD a_576)).sm).bind fun l_579 => .ok (.list l_579)).bind fun own_580 => ((((F_longest [table_462]).bind fun a_581 => (((mtL indexD own_580 ((maxD1 [own_580]).bind fun a_582 => .ok [a_582])).bind (ixD table_462)).bind fun a_584 => ixD a_584 (.int 0)).bind (neD a_581)).bind asB).bind fun b_586 => if b_586 = true then .ok true else ((F_even_days [table_462]).bind fun a_587 => ((((((lenD [numbers_470]).bind rg1).bind fun items_588 => lcP items_588 fun k_589 => ((((ixD (.list s_548) k_589).bind fun a_590 => ixD a_590 (.int 0)).bind fun a_591 => (((ixD (.list s_548) k_589).bind fun a_592 => ixD a_592 (.int 1)).bind (mulD (.int 720))).bind (eqD a_591)).bind asB).whn ((ixD numbers_470 k_589).sm)).bind fun l_595 => .ok (.list l_595)).bind fun a_596 => .ok [a_596]).bind tupD).bind (neD a_587)).bind asB).bind fun b_733 => if b_733 = true then .ok (.bool false) else ((lcP s_548 fun d_598 => un2 .bad d_598 fun up_599 down_600 => ((mulD (.int 1440) down_600).bind fun a_601 => subD a_601 up_599).sm).bind fun l_602 => .ok (.list l_602)).bind fun need_603 => (((F_shortest_candle [table_462]).bind fun a_604 => (((((rg1 (.int 1441)).bind fun items_605 => lcP items_605 fun size_606 => ((((((((lenD [numbers_470]).bind rg1).bind fun items_607 => lcP items_607 fun k_608 => ((((ixD (.list s_548) k_608).bind fun a_609 => ixD a_609 (.int 1)).bind (mulD size_606)).bind fun a_611 => (ixD need_603 k_608).bind (ltD a_611)).sm).bind fun l_613 => .ok (.list l_613)).bind fun a_614 => .ok [a_614]).bind anyD).bind tru).bind fun b_615 => .ok (!b_615)).whn (.ok (some size_606))).bind fun l_616 => .ok (.list l_616)).bind fun a_617 => .ok [a_617]).bind minD1).bind (neD a_604)).bind asB).bind fun b_732 => if b_732 = true then .ok (.bool false) else (rg1 (.int 3)).bind fun items_619 => forK (P_law_l5 draws_2 table_462 numbers_470 s_548 need_603) items_619 () fun s_705 => F__law_refuses []
theorem e_law (ns_1 : List Int) : F_law ns_1 = P_law ns_1 := by
 show Kt.top.k (g_law [.sc ns_1, .un, .un, .un, .un, .un, .un, .un, .un, .un, .un, .un, .un, .un, .un, .un, .un, .un, .un, .un, .un, .un, .un, .un, .un, .un, .un, .un]) = _
 unfold P_law
 exact (q_seq (q_setB (by kernel_rfl) fun draws_2 => (q_nx [.sc ns_1, .va draws_2, .un, .un, .un, .un, .un, .un, .un, .un, .un, .un, .un, .un, .un, .un, .un, .un, .un, .un, .un, .un, .un, .un, .un, .un, .un, .un] rfl (q_seq (q_for (by kernel_rfl) fun items_3 => (by
 refine for_sim (bodyP := P_law_l2 draws_2) (tk := (kN 2)) (fun (s_4 : Unit) ρ => ∃ j_5 j_6 j_7 j_8 j_9 j_10 j_11 j_12 j_13 j_14 j_15 j_16 j_17 j_18 j_19 j_20 j_21 j_22 j_23 j_24 j_25 j_26 j_27 j_28 j_29 j_30 j_31, ρ = [j_5, .va draws_2, j_6, j_7, j_8, j_9, j_10, j_11, j_12, j_13, j_14, j_15, j_16, j_17, j_18, j_19, j_20, j_21, j_22, j_23, j_24, j_25, j_26, j_27, j_28, j_29, j_30, j_31]) tge_n ?_ (by exact rfl) ?_ _ () _ ⟨.sc ns_1, .un, .un, .un, .un, .un, .un, .un, .un, .un, .un, .un, .un, .un, .un, .un, .un, .un, .un, .un, .un, .un, .un, .un, .un, .un, .un, rfl⟩
 · intro K_742 hr_35 k_67 s_32 r_740 next_33 brk_34 hf_741 hn_36 hc_37 hb_38; obtain ⟨j_39, j_40, j_41, j_42, j_43, j_44, j_45, j_46, j_47, j_48, j_49, j_50, j_51, j_52, j_53, j_54, j_55, j_56, j_57, j_58, j_59, j_60, j_61, j_62, j_63, j_64, j_65, rfl⟩ := hf_741; unfold P_law_l2; exact (q_kN (q_at [j_39, .va draws_2, .va k_67, j_41, j_42, j_43, j_44, j_45, j_46, j_47, j_48, j_49, j_50, j_51, j_52, j_53, j_54, j_55, j_56, j_57, j_58, j_59, j_60, j_61, j_62, j_63, j_64, j_65] rfl (q_seq (q_setB (by kernel_rfl) fun day_75 => (q_nx [j_39, .va draws_2, .va k_67, .va day_75, j_42, j_43, j_44, j_45, j_46, j_47, j_48, j_49, j_50, j_51, j_52, j_53, j_54, j_55, j_56, j_57, j_58, j_59, j_60, j_61, j_62, j_63, j_64, j_65] rfl (q_seq (q_par (by kernel_rfl) (by kernel_rfl) fun light_81 dark_82 => (q_nx [j_39, .va draws_2, .va k_67, .va day_75, .va light_81, .va dark_82, j_44, j_45, j_46, j_47, j_48, j_49, j_50, j_51, j_52, j_53, j_54, j_55, j_56, j_57, j_58, j_59, j_60, j_61, j_62, j_63, j_64, j_65] rfl (q_seq (q_if (by kernel_rfl) (q_retT hr_35 (by kernel_rfl)) (q_nx [j_39, .va draws_2, .va k_67, .va day_75, .va light_81, .va dark_82, j_44, j_45, j_46, j_47, j_48, j_49, j_50, j_51, j_52, j_53, j_54, j_55, j_56, j_57, j_58, j_59, j_60, j_61, j_62, j_63, j_64, j_65] rfl (q_seq (q_setB (by kernel_rfl) fun down_92 => (q_nx [j_39, .va draws_2, .va k_67, .va day_75, .va light_81, .va dark_82, .va down_92, j_45, j_46, j_47, j_48, j_49, j_50, j_51, j_52, j_53, j_54, j_55, j_56, j_57, j_58, j_59, j_60, j_61, j_62, j_63, j_64, j_65] rfl (q_seq (q_setB (by kernel_rfl) fun ends_93 => (q_nx [j_39, .va draws_2, .va k_67, .va day_75, .va light_81, .va dark_82, .va down_92, .va ends_93, j_46, j_47, j_48, j_49, j_50, j_51, j_52, j_53, j_54, j_55, j_56, j_57, j_58, j_59, j_60, j_61, j_62, j_63, j_64, j_65] rfl (q_seq (q_for (by kernel_rfl) fun items_113 => (by
 refine for_sim (bodyP := P_law_l1 day_75 ends_93) (tk := (kN 8)) (fun (s_114 : Unit) ρ => ∃ j_115 j_116 j_117 j_118 j_119 j_120 j_121 j_122 j_123 j_124 j_125 j_126 j_127 j_128 j_129 j_130 j_131 j_132 j_133 j_134 j_135 j_136 j_137, ρ = [j_115, .va draws_2, .va k_67, .va day_75, j_116, j_117, .va down_92, .va ends_93, j_118, j_119, j_120, j_121, j_122, j_123, j_124, j_125, j_126, j_127, j_128, j_129, j_130, j_131, j_132, j_133, j_134, j_135, j_136, j_137]) tge_n ?_ (by exact hr_35) ?_ _ () _ ⟨j_39, .va light_81, .va dark_82, j_46, j_47, j_48, j_49, j_50, j_51, j_52, j_53, j_54, j_55, j_56, j_57, j_58, j_59, j_60, j_61, j_62, j_63, j_64, j_65, rfl⟩
 · intro K_310 hr_141 minute_169 s_138 r_308 next_139 brk_140 hf_309 hn_142 hc_143 hb_144; obtain ⟨j_145, j_146, j_147, j_148, j_149, j_150, j_151, j_152, j_153, j_154, j_155, j_156, j_157, j_158, j_159, j_160, j_161, j_162, j_163, j_164, j_165, j_166, j_167, rfl⟩ := hf_309; unfold P_law_l1; exact (q_kN (q_at [j_145, .va draws_2, .va k_67, .va day_75, j_146, j_147, .va down_92, .va ends_93, .va minute_169, j_149, j_150, j_151, j_152, j_153, j_154, j_155, j_156, j_157, j_158, j_159, j_160, j_161, j_162, j_163, j_164, j_165, j_166, j_167] rfl (q_seq (q_setB (by kernel_rfl) fun told_170 => (q_nx [j_145, .va draws_2, .va k_67, .va day_75, j_146, j_147, .va down_92, .va ends_93, .va minute_169, .va told_170, j_150, j_151, j_152, j_153, j_154, j_155, j_156, j_157, j_158, j_159, j_160, j_161, j_162, j_163, j_164, j_165, j_166, j_167] rfl (q_seq (q_if (by kernel_rfl) (q_retT hr_141 (by kernel_rfl)) (q_nx [j_145, .va draws_2, .va k_67, .va day_75, j_146, j_147, .va down_92, .va ends_93, .va minute_169, .va told_170, j_150, j_151, j_152, j_153, j_154, j_155, j_156, j_157, j_158, j_159, j_160, j_161, j_162, j_163, j_164, j_165, j_166, j_167] rfl (q_seq (q_setB (by kernel_rfl) fun gone_184 => (q_nx [j_145, .va draws_2, .va k_67, .va day_75, j_146, j_147, .va down_92, .va ends_93, .va minute_169, .va told_170, .va gone_184, j_151, j_152, j_153, j_154, j_155, j_156, j_157, j_158, j_159, j_160, j_161, j_162, j_163, j_164, j_165, j_166, j_167] rfl (q_if (by kernel_rfl) (q_retT hr_141 (by kernel_rfl)) (hn_142 () _ ⟨j_145, j_146, j_147, .va minute_169, .va told_170, .va gone_184, j_151, j_152, j_153, j_154, j_155, j_156, j_157, j_158, j_159, j_160, j_161, j_162, j_163, j_164, j_165, j_166, j_167, rfl⟩)))))))))))))
 · intro s_199 r_308 hf_309; obtain ⟨j_200, j_201, j_202, j_203, j_204, j_205, j_206, j_207, j_208, j_209, j_210, j_211, j_212, j_213, j_214, j_215, j_216, j_217, j_218, j_219, j_220, j_221, j_222, rfl⟩ := hf_309; exact (q_nx [j_200, .va draws_2, .va k_67, .va day_75, j_201, j_202, .va down_92, .va ends_93, j_203, j_204, j_205, j_206, j_207, j_208, j_209, j_210, j_211, j_212, j_213, j_214, j_215, j_216, j_217, j_218, j_219, j_220, j_221, j_222] rfl (q_seq (q_par (by kernel_rfl) (by kernel_rfl) fun one_237 two_238 => (q_nx [j_200, .va draws_2, .va k_67, .va day_75, j_201, j_202, .va down_92, .va ends_93, j_203, j_204, j_205, .va one_237, .va two_238, j_208, j_209, j_210, j_211, j_212, j_213, j_214, j_215, j_216, j_217, j_218, j_219, j_220, j_221, j_222] rfl (q_seq (q_if (by kernel_rfl) (q_retT hr_35 (by kernel_rfl)) (q_nx [j_200, .va draws_2, .va k_67, .va day_75, j_201, j_202, .va down_92, .va ends_93, j_203, j_204, j_205, .va one_237, .va two_238, j_208, j_209, j_210, j_211, j_212, j_213, j_214, j_215, j_216, j_217, j_218, j_219, j_220, j_221, j_222] rfl (q_seq (q_if (by kernel_rfl) (q_retT hr_35 (by kernel_rfl)) (q_nx [j_200, .va draws_2, .va k_67, .va day_75, j_201, j_202, .va down_92, .va ends_93, j_203, j_204, j_205, .va one_237, .va two_238, j_208, j_209, j_210, j_211, j_212, j_213, j_214, j_215, j_216, j_217, j_218, j_219, j_220, j_221, j_222] rfl (q_if (by kernel_rfl) (q_retT hr_35 (by kernel_rfl)) (hn_36 () _ ⟨j_200, .va k_67, .va day_75, j_201, j_202, .va down_92, .va ends_93, j_203, j_204, j_205, .va one_237, .va two_238, j_208, j_209, j_210, j_211, j_212, j_213, j_214, j_215, j_216, j_217, j_218, j_219, j_220, j_221, j_222, rfl⟩))))))))))))))))))))))))))))))))
 · intro s_312 r_740 hf_741; obtain ⟨j_313, j_314, j_315, j_316, j_317, j_318, j_319, j_320, j_321, j_322, j_323, j_324, j_325, j_326, j_327, j_328, j_329, j_330, j_331, j_332, j_333, j_334, j_335, j_336, j_337, j_338, j_339, rfl⟩ := hf_741; exact (q_nx [j_313, .va draws_2, j_314, j_315, j_316, j_317, j_318, j_319, j_320, j_321, j_322, j_323, j_324, j_325, j_326, j_327, j_328, j_329, j_330, j_331, j_332, j_333, j_334, j_335, j_336, j_337, j_338, j_339] rfl (q_seq (q_parLB (by kernel_rfl) (by kernel_rfl) fun rows_342 number_343 => (q_nx [j_313, .va draws_2, j_314, j_315, j_316, j_317, j_318, j_319, j_320, j_321, j_322, j_323, j_324, .ol rows_342, .va number_343, j_327, j_328, j_329, j_330, j_331, j_332, j_333, j_334, j_335, j_336, j_337, j_338, j_339] rfl (q_seq (q_for (by kernel_rfl) fun items_347 => (by
 refine for_sim (bodyP := P_law_l3 draws_2) (tk := (kN 2)) (fun (s_348 : List PD × PD) ρ => ∃ j_349 j_350 j_351 j_352 j_353 j_354 j_355 j_356 j_357 j_358 j_359 j_360 j_361 j_362 j_363 j_364 j_365 j_366 j_367 j_368 j_369 j_370 j_371 j_372 j_373, ρ = [j_349, .va draws_2, j_350, j_351, j_352, j_353, j_354, j_355, j_356, j_357, j_358, j_359, j_360, .ol s_348.1, .va s_348.2, j_361, j_362, j_363, j_364, j_365, j_366, j_367, j_368, j_369, j_370, j_371, j_372, j_373]) tge_n ?_ (by exact rfl) ?_ _ (rows_342, number_343) _ ⟨j_313, j_314, j_315, j_316, j_317, j_318, j_319, j_320, j_321, j_322, j_323, j_324, j_327, j_328, j_329, j_330, j_331, j_332, j_333, j_334, j_335, j_336, j_337, j_338, j_339, rfl⟩
 · intro K_739 hr_377 k_407 s_374 r_737 next_375 brk_376 hf_738 hn_378 hc_379 hb_380; obtain ⟨j_381, j_382, j_383, j_384, j_385, j_386, j_387, j_388, j_389, j_390, j_391, j_392, j_393, j_394, j_395, j_396, j_397, j_398, j_399, j_400, j_401, j_402, j_403, j_404, j_405, rfl⟩ := hf_738; unfold P_law_l3; exact (q_kN (q_at [j_381, .va draws_2, .va k_407, j_383, j_384, j_385, j_386, j_387, j_388, j_389, j_390, j_391, j_392, .ol s_374.1, .va s_374.2, j_393, j_394, j_395, j_396, j_397, j_398, j_399, j_400, j_401, j_402, j_403, j_404, j_405] rfl (q_seq (q_setB (by kernel_rfl) fun rise_413 => (q_nx [j_381, .va draws_2, .va k_407, j_383, j_384, j_385, j_386, j_387, j_388, j_389, j_390, j_391, j_392, .ol s_374.1, .va s_374.2, .va rise_413, j_394, j_395, j_396, j_397, j_398, j_399, j_400, j_401, j_402, j_403, j_404, j_405] rfl (q_seq (q_appB rfl (by kernel_rfl) fun d_435 rows_427 => (q_nx [j_381, .va draws_2, .va k_407, j_383, j_384, j_385, j_386, j_387, j_388, j_389, j_390, j_391, j_392, .ol rows_427, .va s_374.2, .va rise_413, j_394, j_395, j_396, j_397, j_398, j_399, j_400, j_401, j_402, j_403, j_404, j_405] rfl (q_setB (by kernel_rfl) fun number_434 => (hn_378 (rows_427, number_434) _ ⟨j_381, .va k_407, j_383, j_384, j_385, j_386, j_387, j_388, j_389, j_390, j_391, j_392, .va rise_413, j_394, j_395, j_396, j_397, j_398, j_399, j_400, j_401, j_402, j_403, j_404, j_405, rfl⟩))))))))))
 · intro s_436 r_737 hf_738; obtain ⟨j_437, j_438, j_439, j_440, j_441, j_442, j_443, j_444, j_445, j_446, j_447, j_448, j_449, j_450, j_451, j_452, j_453, j_454, j_455, j_456, j_457, j_458, j_459, j_460, j_461, rfl⟩ := hf_738; exact (q_nx [j_437, .va draws_2, j_438, j_439, j_440, j_441, j_442, j_443, j_444, j_445, j_446, j_447, j_448, .ol s_436.1, .va s_436.2, j_449, j_450, j_451, j_452, j_453, j_454, j_455, j_456, j_457, j_458, j_459, j_460, j_461] rfl (q_seq (q_setB (by kernel_rfl) fun table_462 => (q_nx [j_437, .va draws_2, j_438, j_439, j_440, j_441, j_442, j_443, j_444, j_445, j_446, j_447, j_448, .ol s_436.1, .va s_436.2, j_449, .va table_462, j_451, j_452, j_453, j_454, j_455, j_456, j_457, j_458, j_459, j_460, j_461] rfl (q_seq (q_setB (by kernel_rfl) fun numbers_470 => (q_nx [j_437, .va draws_2, j_438, j_439, j_440, j_441, j_442, j_443, j_444, j_445, j_446, j_447, j_448, .ol s_436.1, .va s_436.2, j_449, .va table_462, .va numbers_470, j_452, j_453, j_454, j_455, j_456, j_457, j_458, j_459, j_460, j_461] rfl (q_seq (q_setL [] (by kernel_rfl) (q_nx [j_437, .va draws_2, j_438, j_439, j_440, j_441, j_442, j_443, j_444, j_445, j_446, j_447, j_448, .ol s_436.1, .va s_436.2, j_449, .va table_462, .va numbers_470, .ol [], j_453, j_454, j_455, j_456, j_457, j_458, j_459, j_460, j_461] rfl (q_seq (q_for (by kernel_rfl) fun items_471 => (by
 refine for_sim (bodyP := P_law_l4 table_462) (tk := (kN 11)) (fun (s_472 : List PD) ρ => ∃ j_473 j_474 j_475 j_476 j_477 j_478 j_479 j_480 j_481 j_482 j_483 j_484 j_485 j_486 j_487 j_488 j_489 j_490 j_491 j_492 j_493 j_494 j_495 j_496, ρ = [j_473, .va draws_2, j_474, j_475, j_476, j_477, j_478, j_479, j_480, j_481, j_482, j_483, j_484, j_485, j_486, j_487, .va table_462, .va numbers_470, .ol s_472, j_488, j_489, j_490, j_491, j_492, j_493, j_494, j_495, j_496]) tge_n ?_ (by exact rfl) ?_ _ [] _ ⟨j_437, j_438, j_439, j_440, j_441, j_442, j_443, j_444, j_445, j_446, j_447, j_448, .ol s_436.1, .va s_436.2, j_449, j_453, j_454, j_455, j_456, j_457, j_458, j_459, j_460, j_461, rfl⟩
 · intro K_736 hr_500 one_529 s_497 r_734 next_498 brk_499 hf_735 hn_501 hc_502 hb_503; obtain ⟨j_504, j_505, j_506, j_507, j_508, j_509, j_510, j_511, j_512, j_513, j_514, j_515, j_516, j_517, j_518, j_519, j_520, j_521, j_522, j_523, j_524, j_525, j_526, j_527, rfl⟩ := hf_735; unfold P_law_l4; exact (q_kN (q_at [j_504, .va draws_2, j_505, j_506, j_507, j_508, j_509, j_510, j_511, j_512, j_513, .va one_529, j_515, j_516, j_517, j_518, .va table_462, .va numbers_470, .ol s_497, j_519, j_520, j_521, j_522, j_523, j_524, j_525, j_526, j_527] rfl (q_seq (q_asg (k := (k2 (kN 15) (kN 19))) (tge_2 tge_n tge_n) (by kernel_rfl) fun d_530 => (q_k2 fun rise_531 fall_532 => (q_kN (q_kN (q_nx [j_504, .va draws_2, j_505, j_506, j_507, j_508, j_509, j_510, j_511, j_512, j_513, .va one_529, j_515, j_516, j_517, .va rise_531, .va table_462, .va numbers_470, .ol s_497, .va fall_532, j_520, j_521, j_522, j_523, j_524, j_525, j_526, j_527] rfl (q_seq (q_if (by kernel_rfl) (q_retT hr_500 (by kernel_rfl)) (q_nx [j_504, .va draws_2, j_505, j_506, j_507, j_508, j_509, j_510, j_511, j_512, j_513, .va one_529, j_515, j_516, j_517, .va rise_531, .va table_462, .va numbers_470, .ol s_497, .va fall_532, j_520, j_521, j_522, j_523, j_524, j_525, j_526, j_527] rfl (q_appB rfl (by kernel_rfl) fun d_546 lights_545 => (hn_501 lights_545 _ ⟨j_504, j_505, j_506, j_507, j_508, j_509, j_510, j_511, j_512, j_513, .va one_529, j_515, j_516, j_517, .va rise_531, .va fall_532, j_520, j_521, j_522, j_523, j_524, j_525, j_526, j_527, rfl⟩)))))))))))))
 · intro s_548 r_734 hf_735; obtain ⟨j_549, j_550, j_551, j_552, j_553, j_554, j_555, j_556, j_557, j_558, j_559, j_560, j_561, j_562, j_563, j_564, j_565, j_566, j_567, j_568, j_569, j_570, j_571, j_572, rfl⟩ := hf_735; exact (q_nx [j_549, .va draws_2, j_550, j_551, j_552, j_553, j_554, j_555, j_556, j_557, j_558, j_559, j_560, j_561, j_562, j_563, .va table_462, .va numbers_470, .ol s_548, j_564, j_565, j_566, j_567, j_568, j_569, j_570, j_571, j_572] rfl (q_seq (q_setB (by kernel_rfl) fun own_580 => (q_nx [j_549, .va draws_2, j_550, j_551, j_552, j_553, j_554, j_555, j_556, j_557, j_558, j_559, j_560, j_561, j_562, j_563, .va table_462, .va numbers_470, .ol s_548, j_564, .va own_580, j_566, j_567, j_568, j_569, j_570, j_571, j_572] rfl (q_seq (q_if (by kernel_rfl) (q_retT rfl (by kernel_rfl)) (q_nx [j_549, .va draws_2, j_550, j_551, j_552, j_553, j_554, j_555, j_556, j_557, j_558, j_559, j_560, j_561, j_562, j_563, .va table_462, .va numbers_470, .ol s_548, j_564, .va own_580, j_566, j_567, j_568, j_569, j_570, j_571, j_572] rfl (q_frz (q_at [j_549, .va draws_2, j_550, j_551, j_552, j_553, j_554, j_555, j_556, j_557, j_558, j_559, j_560, j_561, j_562, j_563, .va table_462, .va numbers_470, .va (.list s_548), j_564, .va own_580, j_566, j_567, j_568, j_569, j_570, j_571, j_572] rfl (q_seq (q_setB (by kernel_rfl) fun need_603 => (q_nx [j_549, .va draws_2, j_550, j_551, j_552, j_553, j_554, j_555, j_556, j_557, j_558, j_559, j_560, j_561, j_562, j_563, .va table_462, .va numbers_470, .va (.list s_548), j_564, .va own_580, .va need_603, j_567, j_568, j_569, j_570, j_571, j_572] rfl (q_seq (q_if (by kernel_rfl) (q_retT rfl (by kernel_rfl)) (q_nx [j_549, .va draws_2, j_550, j_551, j_552, j_553, j_554, j_555, j_556, j_557, j_558, j_559, j_560, j_561, j_562, j_563, .va table_462, .va numbers_470, .va (.list s_548), j_564, .va own_580, .va need_603, j_567, j_568, j_569, j_570, j_571, j_572] rfl (q_seq (q_for (by kernel_rfl) fun items_619 => (by
 refine for_sim (bodyP := P_law_l5 draws_2 table_462 numbers_470 s_548 need_603) (tk := (kN 2)) (fun (s_620 : Unit) ρ => ∃ j_621 j_622 j_623 j_624 j_625 j_626 j_627 j_628 j_629 j_630 j_631 j_632 j_633 j_634 j_635 j_636 j_637 j_638 j_639 j_640 j_641 j_642 j_643, ρ = [j_621, .va draws_2, j_622, j_623, j_624, j_625, j_626, j_627, j_628, j_629, j_630, j_631, j_632, j_633, j_634, j_635, .va table_462, .va numbers_470, .va (.list s_548), j_636, j_637, .va need_603, j_638, j_639, j_640, j_641, j_642, j_643]) tge_n ?_ (by exact rfl) ?_ _ () _ ⟨j_549, j_550, j_551, j_552, j_553, j_554, j_555, j_556, j_557, j_558, j_559, j_560, j_561, j_562, j_563, j_564, .va own_580, j_567, j_568, j_569, j_570, j_571, j_572, rfl⟩
 · intro K_731 hr_647 k_675 s_644 r_729 next_645 brk_646 hf_730 hn_648 hc_649 hb_650; obtain ⟨j_651, j_652, j_653, j_654, j_655, j_656, j_657, j_658, j_659, j_660, j_661, j_662, j_663, j_664, j_665, j_666, j_667, j_668, j_669, j_670, j_671, j_672, j_673, rfl⟩ := hf_730; unfold P_law_l5; exact (q_kN (q_at [j_651, .va draws_2, .va k_675, j_653, j_654, j_655, j_656, j_657, j_658, j_659, j_660, j_661, j_662, j_663, j_664, j_665, .va table_462, .va numbers_470, .va (.list s_548), j_666, j_667, .va need_603, j_668, j_669, j_670, j_671, j_672, j_673] rfl (q_seq (q_par (by kernel_rfl) (by kernel_rfl) fun size_685 at_686 => (q_nx [j_651, .va draws_2, .va k_675, j_653, j_654, j_655, j_656, j_657, j_658, j_659, j_660, j_661, j_662, j_663, j_664, j_665, .va table_462, .va numbers_470, .va (.list s_548), j_666, j_667, .va need_603, .va size_685, .va at_686, j_670, j_671, j_672, j_673] rfl (q_seq (q_setB (by kernel_rfl) fun hours_694 => (q_nx [j_651, .va draws_2, .va k_675, j_653, j_654, j_655, j_656, j_657, j_658, j_659, j_660, j_661, j_662, j_663, j_664, j_665, .va table_462, .va numbers_470, .va (.list s_548), j_666, j_667, .va need_603, .va size_685, .va at_686, .va hours_694, j_671, j_672, j_673] rfl (q_if (by kernel_rfl) (q_retT hr_647 (by kernel_rfl)) (hn_648 () _ ⟨j_651, .va k_675, j_653, j_654, j_655, j_656, j_657, j_658, j_659, j_660, j_661, j_662, j_663, j_664, j_665, j_666, j_667, .va size_685, .va at_686, .va hours_694, j_671, j_672, j_673, rfl⟩))))))))))
 · intro s_705 r_729 hf_730; obtain ⟨j_706, j_707, j_708, j_709, j_710, j_711, j_712, j_713, j_714, j_715, j_716, j_717, j_718, j_719, j_720, j_721, j_722, j_723, j_724, j_725, j_726, j_727, j_728, rfl⟩ := hf_730; exact (q_nx [j_706, .va draws_2, j_707, j_708, j_709, j_710, j_711, j_712, j_713, j_714, j_715, j_716, j_717, j_718, j_719, j_720, .va table_462, .va numbers_470, .va (.list s_548), j_721, j_722, .va need_603, j_723, j_724, j_725, j_726, j_727, j_728] rfl (q_retT rfl (by kernel_rfl)))))))))))))))))))))))))))))))))))))))))))))))
end K79
namespace K79
open PySem PySem.Spec L2 DL
/-! ### quotients are rational numbers -/
def encQ (q : Rat) : PD := .tuple [.int q.num, .int (q.den : Nat)]
theorem gcd1 : ∀ (n a b : Nat) (k : PD × PD → R PD), b < n → whK P_divisor_l1_c P_divisor_l1 n (.int (a : Nat), .int (b : Nat)) k = k (.int (Nat.gcd a b : Nat), .int 0)
  | 0, a, b, k, h => absurd h (Nat.not_lt_zero _)
  | n + 1, a, b, k, h => by
    rw [whK]
    by_cases hb : 0 < b
    · have hb' : (0 : Int) < (b : Int) := by omega
      have ih := gcd1 n b (a % b) k (by have := Nat.mod_lt a hb; omega)
      have e : Nat.gcd b (a % b) = Nat.gcd a b := by rw [Nat.gcd_comm b, ← Nat.gcd_rec, Nat.gcd_comm]
      rw [e] at ih
      rw [Int.natCast_emod] at ih
      simp [P_divisor_l1_c, P_divisor_l1, hb]
      exact ih
    · have : b = 0 := by omega
      subst this
      simp [P_divisor_l1_c]
theorem low_is : P__law_lowest_l1 = P_divisor_l1 ∧ P__law_lowest_l1_c = P_divisor_l1_c := ⟨rfl, rfl⟩
theorem abs_nat (i : Int) : (if i < 0 then -i else i) = ((i.natAbs : Nat) : Int) := by split <;> omega
theorem divisor_eq (a b : Int) (hb : b.natAbs < 1000000000) : F_divisor [.int a, .int b] = .ok (.int (Nat.gcd a.natAbs b.natAbs : Nat)) := by
  rw [e_divisor, P_divisor, a_abs, R.ok_bind, a_abs, R.ok_bind, abs_nat, abs_nat, gcd1 _ _ _ _ (Nat.lt_of_lt_of_le hb fuel_ge)]
/-- in lowest terms -/
theorem low_rat (u : Int) (d : Nat) (hd : 0 < d) : u / ((Nat.gcd u.natAbs d : Nat) : Int) = (mkRat u d).num ∧ (d : Int) / ((Nat.gcd u.natAbs d : Nat) : Int) = ((mkRat u d).den : Nat) := by
  rw [Rat.num_mkRat, Rat.den_mkRat, if_neg (by omega), if_neg (by omega), Nat.gcd_comm]
  exact ⟨rfl, by rw [Int.natCast_ediv]⟩
theorem gcd_fit {u : Int} {d : Nat} (h0 : 0 < d) (h : d < 1000000000) : (0 : Int) < ((Nat.gcd u.natAbs d : Nat) : Int) ∧ ((Nat.gcd u.natAbs d : Nat) : Int) < 1073741824 := by
  have h1 := Nat.gcd_pos_of_pos_right u.natAbs h0
  have h2 := Nat.gcd_le_right u.natAbs h0
  omega
theorem quotient_eq (u : Int) (d : Nat) (h0 : 0 < d) (h : d < 1000000000) : F_quotient [.int u, .int (d : Nat)] = .ok (encQ (mkRat u d)) := by
  have e := divisor_eq u d (by simpa using h)
  rw [Int.natAbs_natCast] at e
  obtain ⟨l1, l2⟩ := low_rat u d h0
  obtain ⟨f1, f2⟩ := gcd_fit (u := u) h0 h
  rw [e_quotient, P_quotient, e]
  generalize ((Nat.gcd u.natAbs d : Nat) : Int) = g at l1 l2 f1 f2
  simp [f1, f2, encQ, big, l1, l2]
theorem law_low_eq (u : Int) (d : Nat) (h0 : 0 < d) (h : d < 1000000000) : F__law_lowest [.int u, .int (d : Nat)] = .ok (encQ (mkRat u d)) := by
  obtain ⟨l1, l2⟩ := low_rat u d h0
  obtain ⟨f1, f2⟩ := gcd_fit (u := u) h0 h
  rw [e__law_lowest, P__law_lowest, a_abs, R.ok_bind, abs_nat, R.ok_bind, low_is.1, low_is.2, gcd1 _ _ _ _ (Nat.lt_of_lt_of_le h fuel_ge)]
  generalize ((Nat.gcd u.natAbs d : Nat) : Int) = g at l1 l2 f1 f2
  simp [f1, f2, encQ, big, l1, l2]
/-- with whole numbers below -/
theorem quotient_z (u d : Int) (h0 : 0 < d) (h : d < 1000000000) : F_quotient [.int u, .int d] = .ok (encQ ((u : Rat) / (d : Rat))) := by
  obtain ⟨n, rfl⟩ : ∃ n : Nat, d = (n : Int) := ⟨d.toNat, by omega⟩
  rw [quotient_eq u n (by omega) (by omega), Rat.mkRat_eq_div]; rfl
theorem low_z (u d : Int) (h0 : 0 < d) (h : d < 1000000000) : F__law_lowest [.int u, .int d] = .ok (encQ ((u : Rat) / (d : Rat))) := by
  obtain ⟨n, rfl⟩ : ∃ n : Nat, d = (n : Int) := ⟨d.toNat, by omega⟩
  rw [law_low_eq u n (by omega) (by omega), Rat.mkRat_eq_div]; rfl
theorem qnd (q : Rat) : q = (q.num : Rat) / (q.den : Rat) := by
  have := Rat.mkRat_self q
  rw [Rat.mkRat_eq_div] at this
  exact this.symm
theorem den_ne (q : Rat) : (q.den : Rat) ≠ 0 := fun z => q.den_nz (Rat.natCast_eq_zero_iff.mp z)
theorem den_p (q : Rat) : (0 : Int) < (q.den : Nat) := by have := q.den_pos; omega
theorem mul_r (i j : Int) (h : -18446744073709551616 < j ∧ j < 18446744073709551616) : mulD (.int i) (.int j) = .ok (.int (i * j)) := by
  rw [a_mulI, chk_of (decide_eq_true (.inr h))]
theorem mul_l (i j : Int) (h : -18446744073709551616 < i ∧ i < 18446744073709551616) : mulD (.int i) (.int j) = .ok (.int (i * j)) := by
  rw [a_mulI, chk_of (decide_eq_true (.inl h))]
theorem nmul {a b : Nat} (h : a * b < 1000000000) (ha : 0 < a) (hb : 0 < b) : a < 1000000000 ∧ b < 1000000000 := by
  have h3 := Nat.le_mul_of_pos_right a hb
  have h4 := Nat.le_mul_of_pos_left b ha
  omega
theorem dmul (q : Rat) (h : q.den < 1000000000) (i : Int) : mulD (.int i) (.int (q.den : Nat)) = .ok (.int (i * (q.den : Nat))) := mul_r _ _ (by omega)
section
variable {u d u' d' : Int} {z : PD}
theorem plus_st (m1 : mulD (.int u) (.int d') = .ok (.int (u * d'))) (m2 : mulD (.int u') (.int d) = .ok (.int (u' * d))) (m3 : mulD (.int d) (.int d') = .ok (.int (d * d'))) (e : F_quotient [.int (u * d' + u' * d), .int (d * d')] = .ok z) : F_plus [.tuple [.int u, .int d], .tuple [.int u', .int d']] = .ok z := by
  rw [e_plus]; unfold P_plus; simp [-a_mulI, m1, m2, m3, e]
theorem minus_st (m1 : mulD (.int u) (.int d') = .ok (.int (u * d'))) (m2 : mulD (.int u') (.int d) = .ok (.int (u' * d))) (m3 : mulD (.int d) (.int d') = .ok (.int (d * d'))) (e : F_quotient [.int (u * d' - u' * d), .int (d * d')] = .ok z) : F_minus [.tuple [.int u, .int d], .tuple [.int u', .int d']] = .ok z := by
  rw [e_minus]; unfold P_minus; simp [-a_mulI, m1, m2, m3, e]
theorem times_st (m1 : mulD (.int u) (.int u') = .ok (.int (u * u'))) (m3 : mulD (.int d) (.int d') = .ok (.int (d * d'))) (e : F_quotient [.int (u * u'), .int (d * d')] = .ok z) : F_times [.tuple [.int u, .int d], .tuple [.int u', .int d']] = .ok z := by
  rw [e_times]; unfold P_times; simp [-a_mulI, m1, m3, e]
theorem over_st (m1 : mulD (.int u) (.int d') = .ok (.int (u * d'))) (m3 : mulD (.int d) (.int u') = .ok (.int (d * u'))) (e : F_quotient [.int (u * d'), .int (d * u')] = .ok z) : F_over [.tuple [.int u, .int d], .tuple [.int u', .int d']] = .ok z := by
  rw [e_over]; unfold P_over; simp [-a_mulI, m1, m3, e]
theorem less_st (m1 : mulD (.int u) (.int d') = .ok (.int (u * d'))) (m2 : mulD (.int u') (.int d) = .ok (.int (u' * d))) : F_is_less [.tuple [.int u, .int d], .tuple [.int u', .int d']] = .ok (.bool (decide (u * d' < u' * d))) := by
  rw [e_is_less]; unfold P_is_less; simp [-a_mulI, m1, m2]
end
theorem plus_eq (a b : Rat) (h : a.den * b.den < 1000000000) : F_plus [encQ a, encQ b] = .ok (encQ (a + b)) := by
  obtain ⟨ha, hb⟩ := nmul h a.den_pos b.den_pos
  have e := quotient_eq (a.num * (b.den : Nat) + b.num * (a.den : Nat)) (a.den * b.den) (Nat.mul_pos a.den_pos b.den_pos) h
  rw [Int.natCast_mul, ← Rat.add_def' a b] at e
  exact plus_st (dmul b hb _) (dmul a ha _) (dmul b hb _) e
theorem minus_eq (a b : Rat) (h : a.den * b.den < 1000000000) : F_minus [encQ a, encQ b] = .ok (encQ (a - b)) := by
  obtain ⟨ha, hb⟩ := nmul h a.den_pos b.den_pos
  have e := quotient_eq (a.num * (b.den : Nat) - b.num * (a.den : Nat)) (a.den * b.den) (Nat.mul_pos a.den_pos b.den_pos) h
  rw [Int.natCast_mul, ← Rat.sub_def' a b] at e
  exact minus_st (dmul b hb _) (dmul a ha _) (dmul b hb _) e
theorem times_eq (a b : Rat) (h : a.den * b.den < 1000000000) (hn : -18446744073709551616 < b.num ∧ b.num < 18446744073709551616) : F_times [encQ a, encQ b] = .ok (encQ (a * b)) := by
  obtain ⟨ha, hb⟩ := nmul h a.den_pos b.den_pos
  have e := quotient_eq (a.num * b.num) (a.den * b.den) (Nat.mul_pos a.den_pos b.den_pos) h
  rw [Int.natCast_mul, ← Rat.mul_def' a b] at e
  exact times_st (mul_r _ _ hn) (dmul b hb _) e
theorem div_nd (a b : Rat) (hb : 0 < b.num) : ((a.num * (b.den : Nat) : Int) : Rat) / (((a.den : Nat) * b.num : Int) : Rat) = a / b := by
  have h1 : (b.num : Rat) ≠ 0 := fun z => by have := Rat.intCast_eq_zero_iff.mp z; omega
  have h2 := den_ne a
  have h3 := den_ne b
  rw [Rat.intCast_mul, Rat.intCast_mul]
  show (a.num : Rat) * (b.den : Rat) / ((a.den : Rat) * (b.num : Rat)) = a / b
  have ea := qnd a
  have eb := qnd b
  generalize (a.num : Rat) = an at *
  generalize (a.den : Rat) = ad at *
  generalize (b.num : Rat) = bn at *
  generalize (b.den : Rat) = bd at *
  subst ea; subst eb
  grind
theorem over_eq (a b : Rat) (hb : 0 < b.num) (h : (a.den : Int) * b.num < 1000000000) (h2 : b.den < 1000000000) : F_over [encQ a, encQ b] = .ok (encQ (a / b)) := by
  have hd := den_p a
  have hp : 0 < (a.den : Int) * b.num := Int.mul_pos hd hb
  have hl : b.num ≤ (a.den : Int) * b.num := by
    have := Int.mul_le_mul_of_nonneg_right (show (1 : Int) ≤ (a.den : Nat) by omega) (Int.le_of_lt hb)
    omega
  have e := quotient_z (a.num * (b.den : Nat)) ((a.den : Nat) * b.num) hp h
  rw [div_nd a b hb] at e
  exact over_st (dmul b h2 _) (mul_r _ _ (by omega)) e
theorem less_eq (a b : Rat) (ha : a.den < 1000000000) (hb : b.den < 1000000000) : F_is_less [encQ a, encQ b] = .ok (.bool (decide (a < b))) :=
  (less_st (dmul b hb _) (dmul a ha _)).trans (congrArg _ (congrArg PyData.bool (decide_eq_decide.mpr (Rat.lt_iff a b).symm)))
/-- a number told as a quotient -/
theorem encQ_int (n : Int) : PyData.tuple [.int n, .int 1] = encQ (n : Rat) := rfl
theorem nod_Q (q : Rat) : nod (encQ q) = true := rfl
theorem depth_Q (q : Rat) : (encQ q).depth = 1 := by simp [encQ, PyData.depth, PyData.depthAll]
theorem eqv_Q (a b : Rat) : PyData.eqv (encQ a) (encQ b) = decide (a = b) := by
  unfold encQ
  by_cases h : a = b
  · subst h; simp [PyData.eqv, PyData.eqvAll]
  · simp only [PyData.eqv, PyData.eqvAll, Bool.and_true, h, decide_false]
    refine Bool.eq_false_iff.mpr fun z => h ?_
    rw [Bool.and_eq_true, beq_iff_eq, beq_iff_eq] at z
    exact Rat.ext z.1 (by omega)
theorem neQ (a b : Rat) : neD (encQ a) (encQ b) = .ok (.bool (decide (a ≠ b))) := by
  unfold neD dOk
  rw [depth_Q, depth_Q, eqv_Q]
  simp
theorem eqQ (a b : Rat) : eqD (encQ a) (encQ b) = .ok (.bool (decide (a = b))) := by
  unfold eqD dOk
  rw [depth_Q, depth_Q, eqv_Q]
  simp
theorem is_int (i : Int) : F_is_integer [.int i] = .ok (.bool true) := by rw [e_is_integer]; rfl
theorem quot_ok (q : Rat) (h : q.den < 1000000000) : F_is_quotient [encQ q] = .ok (.bool true) := by
  have e := divisor_eq q.num (q.den : Nat) (by simpa using h)
  rw [Int.natAbs_natCast, q.reduced] at e
  have hd := q.den_pos
  rw [e_is_quotient]; unfold P_is_quotient encQ
  simp [PyData.isTuple, is_int, e, hd]
/-! sizes of denominators -/
theorem den_div (u d : Int) (h : 0 < d) : ((((u : Rat) / (d : Rat)).den : Nat) : Int) ≤ d := by
  obtain ⟨n, rfl⟩ : ∃ n : Nat, d = (n : Int) := ⟨d.toNat, by omega⟩
  have : (u : Rat) / ((n : Int) : Rat) = mkRat u n := by rw [Rat.mkRat_eq_div]; rfl
  rw [this, Rat.den_mkRat, if_neg (by omega)]
  have := Nat.div_le_self n (n.gcd u.natAbs)
  omega
theorem den_of {q : Rat} {u d : Int} (h : 0 < d) (e : q * (d : Rat) = (u : Rat)) : ((q.den : Nat) : Int) ≤ d := by
  have hd : (d : Rat) ≠ 0 := fun z => by have := Rat.intCast_eq_zero_iff.mp z; omega
  have : q = (u : Rat) / (d : Rat) := by grind
  rw [this]; exact den_div u d h
theorem qden (q : Rat) : q * ((q.den : Nat) : Int) = (q.num : Rat) := by
  have h := qnd q
  have h2 := den_ne q
  show q * (q.den : Rat) = _
  generalize (q.num : Rat) = n at *
  generalize (q.den : Rat) = d at *
  grind
end K79
namespace K79
open PySem PySem.Spec L2 DL
@[simp] theorem ixQ0 (q : Rat) : ixD (encQ q) (.int 0) = .ok (.int q.num) := rfl
@[simp] theorem ixQ1 (q : Rat) : ixD (encQ q) (.int 1) = .ok (.int (q.den : Nat)) := rfl
@[simp] theorem unQ {α : Type} (z : α) (q : Rat) (k : PD → PD → α) : un2 z (encQ q) k = k (.int q.num) (.int (q.den : Nat)) := rfl
theorem whole_eq (v a b : Int) : F_is_whole [.int v, .int a, .int b] = .ok (.bool (decide (a ≤ v) && decide (v ≤ b))) := by
  rw [e_is_whole]; unfold P_is_whole
  by_cases h : a ≤ v <;> simp [PyData.isInt, PyData.isBool, h]
def encD (r f : Int) : PD := .tuple [.int r, .int f]
@[simp] theorem ixD0 (r f : Int) : ixD (encD r f) (.int 0) = .ok (.int r) := rfl
@[simp] theorem ixD1 (r f : Int) : ixD (encD r f) (.int 1) = .ok (.int f) := rfl
structure Dy (r f : Int) : Prop where
  h0 : 0 ≤ r
  h1 : r < f
  h2 : f ≤ 1439
/-- the length of an hour, twelve times it whole -/
def hl (w : Int) : Rat := (w : Rat) / ((12 : Int) : Rat)
section
variable {r f : Int} (D : Dy r f)
include D
theorem Dy.ok : F_is_day [encD r f] = .ok (.bool true) := by
  have := D.h0; have := D.h1; have := D.h2
  rw [e_is_day]; unfold P_is_day encD
  simp [PyData.isTuple, lcP, big_eq, whole_eq, flat1, PyData.truthy, *, show r ≤ 1439 by omega, show 0 ≤ f by omega]
theorem Dy.chk : F__check_day [encD r f] = .ok .none := by
  rw [e__check_day]; unfold P__check_day
  simp [D.ok]
theorem Dy.lens : F__lengths [encD r f] = .ok (.tuple [encQ (hl (f - r)), encQ (hl (1440 - (f - r)))]) := by
  have e1 := quotient_z (f - r) 12 (by decide) (by decide)
  have e2 := quotient_z (1440 - (f - r)) 12 (by decide) (by decide)
  unfold hl
  rw [e__lengths]; unfold P__lengths
  simp [e1, e2, big_eq]
theorem Dy.hours : F_hour_lengths [encD r f] = .ok (.tuple [encQ (hl (f - r)), encQ (hl (1440 - (f - r)))]) := by
  rw [e_hour_lengths]; unfold P_hour_lengths
  simp [D.chk, D.lens]
end
/-- a moment -/
structure Mo (r f : Int) (m : Rat) : Prop extends Dy r f where
  lo : (r : Rat) ≤ m
  hi : m < ((r + 1440 : Int) : Rat)
  dn : m.den ≤ 12
theorem den_sub (m : Rat) (n : Int) : (m - (n : Rat)).den ≤ m.den := by
  have h := den_of (q := m - (n : Rat)) (u := m.num - n * (m.den : Nat)) (den_p m) (by
    have := qden m
    rw [Rat.intCast_sub, Rat.intCast_mul]
    grind)
  omega
theorem num_nn {q : Rat} (h : 0 ≤ q) : 0 ≤ q.num := Rat.num_nonneg.mpr h
theorem hl_num {w : Int} (h : 0 < w) : 0 < (hl w).num ∧ (hl w).num ≤ w ∧ (hl w).den ≤ 12 := by
  have e : hl w = mkRat w 12 := by rw [Rat.mkRat_eq_div]; rfl
  have hd : (hl w).den ≤ 12 := by
    rw [e, Rat.den_mkRat, if_neg (by decide)]
    exact Nat.div_le_self _ _
  rw [e] at hd ⊢
  refine ⟨?_, ?_, hd⟩
  · rw [Rat.num_mkRat, if_neg (by decide)]
    have h1 : ((Nat.gcd 12 w.natAbs : Nat) : Int) ≤ w := by have := Nat.gcd_le_right 12 (show 0 < w.natAbs by omega); omega
    have h2 : 0 < Nat.gcd 12 w.natAbs := Nat.gcd_pos_of_pos_left _ (by decide)
    exact Int.ediv_pos_of_pos_of_dvd h (by omega) (by
      have := Int.natCast_dvd_natCast.mpr (Nat.gcd_dvd_right 12 w.natAbs)
      rwa [Int.dvd_natAbs] at this)
  · rw [Rat.num_mkRat, if_neg (by decide)]
    exact Int.ediv_le_self _ (by omega)
theorem pos_of_num {q : Rat} (h : 0 < q.num) : 0 < q := (Rat.lt_iff 0 q).mpr (by simpa using h)
theorem num_of_pos {q : Rat} (h : 0 < q) : 0 < q.num := by simpa using (Rat.lt_iff 0 q).mp h
theorem hl_pos {w : Int} (h : 0 < w) : 0 < hl w := pos_of_num (hl_num h).1
theorem lt_int (m : Rat) (n : Int) : m < (n : Rat) ↔ m.num < n * (m.den : Nat) := by
  rw [Rat.lt_iff, Rat.num_intCast, Rat.den_intCast]
  simp
theorem le_int (m : Rat) (n : Int) : (n : Rat) ≤ m ↔ n * (m.den : Nat) ≤ m.num := by
  rw [← Rat.not_lt, lt_int]; omega
/-- the hours that are told -/
def hh (r f : Int) (m : Rat) : Rat := if m < (f : Rat) then (m - (r : Rat)) / hl (f - r) else (m - (f : Rat)) / hl (1440 - (f - r))
def kd (f : Int) (m : Rat) : Str := if m < (f : Rat) then "day" else "night"
def encT (r f : Int) (m : Rat) : PD := .tuple [.str (kd f m), encQ (hh r f m)]
section
variable {r f : Int} {m : Rat} (M : Mo r f m)
include M
theorem Mo.chk : F__check_moment [encD r f, encQ m] = .ok .none := by
  have := M.dn
  have l1 := less_eq m (r : Rat) (by omega) (by rw [Rat.den_intCast]; decide)
  have l2 := less_eq m ((r + 1440 : Int) : Rat) (by omega) (by rw [Rat.den_intCast]; decide)
  have n1 : ¬ m < (r : Rat) := Rat.not_lt.mpr M.lo
  have n2 := M.hi
  rw [e__check_moment]; unfold P__check_moment
  simp only [← encQ_int] at l1 l2
  simp [M.toDy.chk, quot_ok m (by omega), l1, l2, n1, n2, big_eq, -Rat.intCast_add]
theorem Mo.hh_eq {g w : Int} (hw : 0 < w ∧ w ≤ 1440) : F_over [encQ (m - (g : Rat)), encQ (hl w)] = .ok (encQ ((m - (g : Rat)) / hl w)) := by
  have := M.dn
  obtain ⟨h1, h2, h3⟩ := hl_num hw.1
  have hd := den_sub m g
  have hp := den_p (m - (g : Rat))
  refine over_eq _ _ h1 ?_ (by omega)
  have h4 : (((m - (g : Rat)).den : Nat) : Int) * (hl w).num ≤ 12 * 1440 := by
    refine Int.le_trans (Int.mul_le_mul_of_nonneg_left (show (hl w).num ≤ 1440 by omega) (by omega)) ?_
    omega
  omega
theorem Mo.told : F__told_at [encD r f, encQ m] = .ok (encT r f m) := by
  have := M.dn; have := M.h0; have := M.h1; have := M.h2
  have l1 := less_eq m (f : Rat) (by omega) (by rw [Rat.den_intCast]; decide)
  have m1 := minus_eq m (r : Rat) (by rw [Rat.den_intCast]; omega)
  have m2 := minus_eq m (f : Rat) (by rw [Rat.den_intCast]; omega)
  have o1 := M.hh_eq (g := r) (w := f - r) (by omega)
  have o2 := M.hh_eq (g := f) (w := 1440 - (f - r)) (by omega)
  simp only [← encQ_int] at l1 m1 m2
  rw [e__told_at]; unfold P__told_at encT hh kd
  by_cases h : m < (f : Rat)
  · simp [M.toDy.lens, l1, h, m1, o1, big_eq]
  · simp [M.toDy.lens, l1, h, m2, o2, big_eq]
theorem Mo.told_at : F_told_at [encD r f, encQ m] = .ok (encT r f m) := by
  rw [e_told_at]; unfold P_told_at
  simp [M.chk, M.told]
theorem Mo.div_eq {g w : Int} (hw : 0 < w) : ((12 * (m.num - g * (m.den : Nat)) : Int) : Rat) / (((m.den : Nat) * w : Int) : Rat) = (m - (g : Rat)) / hl w := by
  unfold hl
  have h2 := den_ne m
  have hw' : (w : Rat) ≠ 0 := fun z => by have := Rat.intCast_eq_zero_iff.mp z; omega
  have em := qnd m
  rw [Rat.intCast_mul, Rat.intCast_sub, Rat.intCast_mul, Rat.intCast_mul]
  show ((12 : Int) : Rat) * ((m.num : Rat) - (g : Rat) * (m.den : Rat)) / ((m.den : Rat) * (w : Rat)) = _
  have h12 : ((12 : Int) : Rat) ≠ 0 := by decide
  generalize ((12 : Int) : Rat) = t at *
  generalize (m.num : Rat) = n at *
  generalize (m.den : Rat) = d at *
  subst em
  grind
omit M in
theorem ltold_st {u d g w : Int} {z : PD} (b : Bool) (hb : decide (u < f * d) = b) (hg : g = if b then r else f) (hw : w = if b then f - r else 1440 - f + r) (m1 : mulD (.int g) (.int d) = .ok (.int (g * d))) (m2 : mulD (.int f) (.int d) = .ok (.int (f * d))) (m3 : mulD (.int 12) (.int (u - g * d)) = .ok (.int (12 * (u - g * d)))) (m4 : mulD (.int d) (.int w) = .ok (.int (d * w)))
    (e : F__law_lowest [.int (12 * (u - g * d)), .int (d * w)] = .ok z) : F__law_told [encD r f, .tuple [.int u, .int d]] = .ok (.tuple [.str (if b then "day" else "night"), z]) := by
  rw [e__law_told]; unfold P__law_told
  cases b with
  | true => 
    have h' := of_decide_eq_true hb
    simp only [if_true] at hg hw
    subst hg; subst hw
    simp [-a_mulI, h', e, big_eq, m1, m2, m3, m4]
  | false => 
    have h' := of_decide_eq_false hb
    simp at hg hw
    subst hg; subst hw
    simp [-a_mulI, h', e, big_eq, m1, m2, m3, m4]
theorem Mo.law_told : F__law_told [encD r f, encQ m] = .ok (encT r f m) := by
  have hdn := M.dn; have := M.h0; have := M.h1; have := M.h2
  have hp := den_p m
  have p1 : 0 < ((m.den : Nat) : Int) * (f - r) := Int.mul_pos hp (by omega)
  have p2 : 0 < ((m.den : Nat) : Int) * (1440 - f + r) := Int.mul_pos hp (by omega)
  have b1 : ((m.den : Nat) : Int) * (f - r) ≤ 12 * 1440 := Int.le_trans (Int.mul_le_mul_of_nonneg_left (show f - r ≤ 1440 by omega) (by omega)) (by omega)
  have b2 : ((m.den : Nat) : Int) * (1440 - f + r) ≤ 12 * 1440 := Int.le_trans (Int.mul_le_mul_of_nonneg_left (show 1440 - f + r ≤ 1440 by omega) (by omega)) (by omega)
  have e1 := low_z (12 * (m.num - r * (m.den : Nat))) ((m.den : Nat) * (f - r)) p1 (by omega)
  have e2 := low_z (12 * (m.num - f * (m.den : Nat))) ((m.den : Nat) * (1440 - f + r)) p2 (by omega)
  have hv : 1440 - f + r = 1440 - (f - r) := by omega
  rw [M.div_eq (by omega)] at e1
  rw [M.div_eq (by omega)] at e2
  rw [hv] at e2
  have lt := lt_int m f
  unfold encT hh kd
  have k := fun (g : Int) => dmul m (by omega) g
  by_cases h : m < (f : Rat)
  · rw [if_pos h, if_pos h]
    have h' := lt.mp h
    exact ltold_st true (decide_eq_true h') rfl rfl (k r) (k f) (mul_l _ _ (by decide)) (mul_r _ _ (by omega)) e1
  · rw [if_neg h, if_neg h]
    have h' : ¬ m.num < f * (m.den : Nat) := fun z => h (lt.mpr z)
    rw [← hv] at e2 ⊢
    exact ltold_st false (decide_eq_false h') rfl rfl (k f) (k f) (mul_l _ _ (by decide)) (mul_r _ _ (by omega)) e2
end
end K79
namespace K79
open PySem PySem.Spec L2 DL
def kdS (b : Bool) : Str := match b with | true => "day" | false => "night"
/-- half of the day in which a moment lies -/
structure Ha (r f : Int) (m : Rat) (b : Bool) (g w : Int) : Prop where
  k : kd f m = kdS b
  h : hh r f m = (m - (g : Rat)) / hl w
  w0 : 0 < w
  w1 : w ≤ 1440
  lo : (g : Rat) ≤ m
  hi : m < ((g + w : Int) : Rat)
  g0 : 0 ≤ g ∧ g ≤ 1439
  bt : b = true → g = r ∧ w = f - r
  bf : b = false → g = f ∧ w = 1440 - (f - r)
theorem Mo.half {r f : Int} {m : Rat} (M : Mo r f m) : ∃ b g w, Ha r f m b g w := by
  have := M.h0; have := M.h1; have := M.h2
  by_cases h : m < (f : Rat)
  · refine ⟨true, r, f - r, ?_, ?_, by omega, by omega, M.lo, ?_, by omega, fun _ => ⟨rfl, rfl⟩, fun z => nomatch z⟩
    · unfold kd; rw [if_pos h]; rfl
    · unfold hh; rw [if_pos h]
    · rwa [show r + (f - r) = f by omega]
  · refine ⟨false, f, 1440 - (f - r), ?_, ?_, by omega, by omega, Rat.not_lt.mp h, ?_, by omega, (fun z => nomatch z), fun _ => ⟨rfl, rfl⟩⟩
    · unfold kd; rw [if_neg h]; rfl
    · unfold hh; rw [if_neg h]
    · have := M.hi
      rwa [show f + (1440 - (f - r)) = r + 1440 by omega]
section
variable {r f : Int} {m : Rat} {b : Bool} {g w : Int}
theorem hl12 (w : Int) : ((12 : Int) : Rat) * hl w = (w : Rat) := by
  unfold hl
  have h12 : ((12 : Int) : Rat) ≠ 0 := by decide
  generalize ((12 : Int) : Rat) = t at *
  grind
theorem Ha.nn (A : Ha r f m b g w) : 0 ≤ hh r f m := by
  have hp := hl_pos A.w0
  rw [A.h]
  rcases Rat.le_total (a := 0) (b := (m - (g : Rat)) / hl w) with z | z
  · exact z
  · have : 0 ≤ m - (g : Rat) := (Rat.le_iff_sub_nonneg _ _).mp A.lo
    rcases Rat.le_iff_lt_or_eq.mp z with y | y
    · have := (Rat.div_lt_iff hp).mp y
      rw [Rat.zero_mul] at this
      exact absurd (Rat.le_trans ‹_› (Rat.le_of_lt this)) (fun q => absurd (Rat.lt_iff_le_and_not_ge.mp this).2 (fun k => k (by assumption)))
    · rw [y]; exact Rat.le_refl
theorem Ha.lt12 (A : Ha r f m b g w) : hh r f m < ((12 : Int) : Rat) := by
  have hp := hl_pos A.w0
  rw [A.h, Rat.div_lt_iff hp, hl12]
  have := A.hi
  rw [Rat.intCast_add] at this
  rw [Rat.sub_lt_iff]
  rwa [Rat.add_comm] at this
theorem Ha.mul (A : Ha r f m b g w) : hh r f m * hl w = m - (g : Rat) := by
  rw [A.h]
  exact Rat.div_mul_cancel (Rat.ne_of_gt (hl_pos A.w0))
theorem Ha.den (A : Ha r f m b g w) (hd : m.den ≤ 12) : (hh r f m).den ≤ 20000 := by
  have hp := den_p m
  have p1 : 0 < ((m.den : Nat) : Int) * w := Int.mul_pos hp A.w0
  have b1 : ((m.den : Nat) : Int) * w ≤ 12 * 1440 := Int.le_trans (Int.mul_le_mul_of_nonneg_left A.w1 (by omega)) (by omega)
  have e := den_div (12 * (m.num - g * (m.den : Nat))) ((m.den : Nat) * w) p1
  have M : ∀ (M : Mo 0 1 0), True := fun _ => trivial
  rw [show ((12 * (m.num - g * (m.den : Nat)) : Int) : Rat) / (((m.den : Nat) * w : Int) : Rat) = hh r f m by
    rw [A.h]
    unfold hl
    have h2 := den_ne m
    have hw' : (w : Rat) ≠ 0 := fun z => by have := Rat.intCast_eq_zero_iff.mp z; have := A.w0; omega
    have em := qnd m
    rw [Rat.intCast_mul, Rat.intCast_sub, Rat.intCast_mul, Rat.intCast_mul]
    show ((12 : Int) : Rat) * ((m.num : Rat) - (g : Rat) * (m.den : Rat)) / ((m.den : Rat) * (w : Rat)) = _
    have h12 : ((12 : Int) : Rat) ≠ 0 := by decide
    generalize ((12 : Int) : Rat) = t at *
    generalize (m.num : Rat) = n at *
    generalize (m.den : Rat) = d at *
    subst em
    grind] at e
  omega
/-- whole hours -/
def fl (q : Rat) : Int := q.num / (q.den : Nat)
theorem le_fl (q : Rat) (n : Int) : n ≤ fl q ↔ (n : Rat) ≤ q := by
  unfold fl
  rw [Int.le_ediv_iff_mul_le (den_p q), le_int]
theorem Ha.fl0 (A : Ha r f m b g w) : 0 ≤ fl (hh r f m) ∧ fl (hh r f m) < 12 := by
  refine ⟨(le_fl _ 0).mpr (by have := A.nn; simpa using this), ?_⟩
  have h : ¬ 12 ≤ fl (hh r f m) := fun z => by
    have := (le_fl _ 12).mp z
    exact absurd A.lt12 (Rat.not_lt.mpr this)
  omega
theorem Ha.fdiv (A : Ha r f m b g w) (hd : m.den ≤ 12) : fdivD (.int (hh r f m).num) (.int ((hh r f m).den : Nat)) = .ok (.int (fl (hh r f m))) := by
  have h1 := A.den hd
  have h2 := den_p (hh r f m)
  rw [a_divI, chk_of (decide_eq_true ⟨h2, by omega⟩)]; rfl
theorem is_told_st {x : Str} {z : PD} (h1 : x = "day" ∨ x = "night") (h2 : F_is_quotient [z] = .ok (.bool true)) (h3 : F_is_less [z, .tuple [.int 0, .int 1]] = .ok (.bool false)) (h4 : F_is_less [z, .tuple [.int 12, .int 1]] = .ok (.bool true)) : F__is_told [.tuple [.str x, z]] = .ok (.bool true) := by
  have h5 : notinD (.str x) (.tuple [.str "day", .str "night"]) = .ok (.bool false) := by rcases h1 with rfl | rfl <;> kernel_rfl
  rw [e__is_told]; unfold P__is_told
  simp [PyData.isTuple, PyData.isStr, h2, h3, h4, h5]
theorem minute_st {z l1 l2 t o : PD} (b : Bool) (h0 : F__check_day [encD r f] = .ok .none) (h1 : F__is_told [.tuple [.str (kdS b), z]] = .ok (.bool true)) (h2 : F__lengths [encD r f] = .ok (.tuple [l1, l2])) (h3 : F_times [z, if b then l1 else l2] = .ok t)
    (h4 : F_plus [.tuple [.int (if b then r else f), .int 1], t] = .ok o) : F_minute_of [encD r f, .tuple [.str (kdS b), z]] = .ok o := by
  have d1 : eqD (.str "day") (.str "day") = .ok (.bool true) := by kernel_rfl
  have d2 : eqD (.str "night") (.str "day") = .ok (.bool false) := by kernel_rfl
  rw [e_minute_of]; unfold P_minute_of
  cases b with
  | true => simp [kdS] at h1 h3 h4; simp [kdS, h0, h1, h2, h3, h4, d1, big_eq]
  | false => simp [kdS] at h1 h3 h4; simp [kdS, h0, h1, h2, h3, h4, d2, big_eq]
theorem Ha.len (A : Ha r f m b g w) : encQ (hl w) = (if b then encQ (hl (f - r)) else encQ (hl (1440 - (f - r)))) := by
  cases b with
  | true => rw [(A.bt rfl).2]; rfl
  | false => rw [(A.bf rfl).2]; rfl
theorem Ha.beg (A : Ha r f m b g w) : g = if b then r else f := by
  cases b with
  | true => exact (A.bt rfl).1
  | false => exact (A.bf rfl).1
theorem encT_of (A : Ha r f m b g w) : encT r f m = .tuple [.str (kdS b), encQ (hh r f m)] := by
  unfold encT; rw [A.k]
theorem Mo.minute_of (M : Mo r f m) : F_minute_of [encD r f, encT r f m] = .ok (encQ m) := by
  obtain ⟨b, g, w, A⟩ := M.half
  have hd := A.den M.dn
  obtain ⟨n1, n2, n3⟩ := hl_num A.w0
  have l1 := less_eq (hh r f m) ((0 : Int) : Rat) (by omega) (by decide)
  have l2 := less_eq (hh r f m) ((12 : Int) : Rat) (by omega) (by decide)
  rw [decide_eq_false (Rat.not_lt.mpr (by have := A.nn; simpa using this))] at l1
  rw [decide_eq_true A.lt12] at l2
  have q := quot_ok (hh r f m) (by omega)
  have t := times_eq (hh r f m) (hl w) (Nat.lt_of_le_of_lt (Nat.mul_le_mul hd n3) (by decide)) (by have := A.w1; omega)
  rw [A.mul] at t
  have p := plus_eq (g : Rat) (m - (g : Rat)) (by have := den_sub m g; have := M.dn; rw [Rat.den_intCast]; omega)
  rw [show (g : Rat) + (m - (g : Rat)) = m by grind] at p
  rw [encT_of A]
  rw [A.len] at t
  refine minute_st b M.toDy.chk (is_told_st (by cases b; exact .inr rfl; exact .inl rfl) q l1 l2) M.toDy.lens t ?_
  rw [← A.beg]
  exact p
end
end K79
namespace K79
open PySem PySem.Spec L2 DL
section
variable {r f : Int} {m : Rat} {b : Bool} {g w : Int}
/-- the end of hour i, from the rise on -/
def En' (r f : Int) (i : Nat) : Rat := if i < 12 then (r : Rat) + (((i + 1 : Nat) : Int) : Rat) * hl (f - r) else (f : Rat) + (((i - 11 : Nat) : Int) : Rat) * hl (1440 - (f - r))
def gone (r f : Int) (m : Rat) : Int := fl (hh r f m) + (if kd f m == ("night" : Str) then 12 else 0)
theorem kds_eq (b : Bool) : (kdS b == ("night" : Str)) = !b := by cases b <;> rfl
theorem kds_eq2 (b : Bool) : (kdS b == ("day" : Str)) = b := by cases b <;> rfl
theorem Ha.gone_eq (A : Ha r f m b g w) : gone r f m = fl (hh r f m) + (if b then 0 else 12) := by
  unfold gone; rw [A.k, kds_eq]; cases b <;> rfl
theorem Ha.gone_b (A : Ha r f m b g w) : 0 ≤ gone r f m ∧ gone r f m < 24 := by
  have := A.fl0
  rw [A.gone_eq]
  cases b <;> simp <;> omega
theorem Mo.strokes_by (M : Mo r f m) : F_strokes_by [encD r f, encQ m] = .ok (.int (gone r f m)) := by
  obtain ⟨b, g, w, A⟩ := M.half
  have d := A.fdiv M.dn
  have c := M.chk
  have t := M.told
  unfold gone
  unfold encT at t
  rw [e_strokes_by]; unfold P_strokes_by
  simp [-a_divI, c, t, d, a_eqS]
  by_cases hx : kd f m = ("night" : Str) <;> simp [hx]
theorem Mo.stroke (M : Mo r f m) : F_stroke [encD r f, encQ m] = .ok (.tuple [.str (kd f m), .int (fl (hh r f m) + 1)]) := by
  obtain ⟨b, g, w, A⟩ := M.half
  have d := A.fdiv M.dn
  have c := M.chk
  have t := M.told
  unfold encT at t
  rw [e_stroke]; unfold P_stroke
  simp [-a_divI, c, t, d, big_eq]
theorem next_st {l1 l2 t o mq : PD} (b : Bool) {n : Int} {h0 h1 : Int} (c0 : F__check_moment [encD r f, mq] = .ok .none) (c1 : F__told_at [encD r f, mq] = .ok (.tuple [.str (kdS b), .tuple [.int h0, .int h1]])) (c2 : F__lengths [encD r f] = .ok (.tuple [l1, l2]))
    (c3 : fdivD (.int h0) (.int h1) = .ok (.int n)) (c4 : F_times [.tuple [.int (n + 1), .int 1], if b then l1 else l2] = .ok t) (c5 : F_plus [.tuple [.int (if b then r else f), .int 1], t] = .ok o) : F_next_stroke [encD r f, mq] = .ok o := by
  have d1 : eqD (.str "day") (.str "day") = .ok (.bool true) := by kernel_rfl
  have d2 : eqD (.str "night") (.str "day") = .ok (.bool false) := by kernel_rfl
  rw [e_next_stroke]; unfold P_next_stroke
  cases b with
  | true => simp [kdS] at c1 c4 c5; simp [-a_divI, c0, c1, c2, c3, c4, c5, d1, big_eq]
  | false => simp [kdS] at c1 c4 c5; simp [-a_divI, c0, c1, c2, c3, c4, c5, d2, big_eq]
theorem Ha.next_eq (A : Ha r f m b g w) : (g : Rat) + ((fl (hh r f m) + 1 : Int) : Rat) * hl w = En' r f (gone r f m).toNat := by
  have h := A.fl0
  rw [A.gone_eq]
  unfold En'
  cases b with
  | true =>
    rw [if_pos (by simp; omega)]
    rw [(A.bt rfl).1, (A.bt rfl).2]
    simp only [if_true, Int.add_zero]
    rw [show (((fl (hh r f m)).toNat + 1 : Nat) : Int) = fl (hh r f m) + 1 by omega]
  | false =>
    rw [if_neg (by simp; omega)]
    rw [(A.bf rfl).1, (A.bf rfl).2]
    rw [show (((fl (hh r f m) + if false = true then 0 else 12).toNat - 11 : Nat) : Int) = fl (hh r f m) + 1 by simp; omega]
theorem mul_den (n : Int) (q : Rat) : ((n : Rat) * q).den ≤ q.den := by
  have h := den_of (q := (n : Rat) * q) (u := n * q.num) (den_p q) (by
    have := qden q
    rw [Rat.intCast_mul]
    grind)
  omega
theorem Mo.next (M : Mo r f m) : F_next_stroke [encD r f, encQ m] = .ok (encQ (En' r f (gone r f m).toNat)) := by
  obtain ⟨b, g, w, A⟩ := M.half
  obtain ⟨n1, n2, n3⟩ := hl_num A.w0
  have t := times_eq ((fl (hh r f m) + 1 : Int) : Rat) (hl w) (by rw [Rat.den_intCast]; omega) (by have := A.w1; omega)
  have hm := mul_den (fl (hh r f m) + 1) (hl w)
  have p := plus_eq (g : Rat) (((fl (hh r f m) + 1 : Int) : Rat) * hl w) (by rw [Rat.den_intCast]; omega)
  rw [A.next_eq] at p
  have tl := M.told
  rw [encT_of A] at tl
  rw [A.len] at t
  refine next_st b M.chk tl M.toDy.lens (A.fdiv M.dn) t ?_
  rw [← A.beg]
  exact p
/-- what is gone by is counted -/
theorem Ha.count (A : Ha r f m b g w) (D : Dy r f) (i : Nat) (hi : i < 24) : En' r f i ≤ m ↔ (i : Int) < gone r f m := by
  have h0 := D.h0; have h1 := D.h1; have h2 := D.h2
  have hf := A.fl0
  have p1 : 0 < hl (f - r) := hl_pos (by omega)
  have p2 : 0 < hl (1440 - (f - r)) := hl_pos (by omega)
  have key : ∀ n : Int, ((g : Rat) + (n : Rat) * hl w ≤ m ↔ n ≤ fl (hh r f m)) := fun n => by
    have hp := hl_pos A.w0
    rw [le_fl, A.h]
    constructor
    · intro z
      rw [← Rat.not_lt, Rat.div_lt_iff hp, Rat.not_lt]
      have := Rat.add_le_iff_le_sub.mp (show (n : Rat) * hl w + (g : Rat) ≤ m by rwa [Rat.add_comm] at z)
      exact this
    · intro z
      rw [← Rat.not_lt, Rat.div_lt_iff hp, Rat.not_lt] at z
      have := Rat.add_le_iff_le_sub.mpr z
      rwa [Rat.add_comm] at this
  rw [A.gone_eq]
  unfold En'
  cases b with
  | true =>
    obtain ⟨rfl, rfl⟩ := A.bt rfl
    by_cases hi : i < 12
    · rw [if_pos hi, key]; simp; omega
    · rw [if_neg hi]
      constructor
      · intro z
        have hn : ((0 : Int) : Rat) ≤ (((i - 11 : Nat) : Int) : Rat) := Rat.intCast_le_intCast.mpr (by omega)
        have := Rat.mul_nonneg hn (Rat.le_of_lt p2)
        have hm := A.hi
        rw [show g + (f - g) = f by omega] at hm
        have z2 : (f : Rat) ≤ m := Rat.le_trans (by have := (Rat.add_le_add_left (c := (f : Rat))).mpr this; rwa [Rat.add_zero] at this) z
        exact absurd hm (Rat.not_lt.mpr z2)
      · intro z; simp at z; omega
  | false =>
    obtain ⟨rfl, rfl⟩ := A.bf rfl
    by_cases hi : i < 12
    · rw [if_pos hi]
      refine ⟨fun _ => by simp; omega, fun _ => ?_⟩
      refine Rat.le_trans ?_ A.lo
      have e : (r : Rat) + ((12 : Int) : Rat) * hl (g - r) = (g : Rat) := by
        rw [hl12, ← Rat.intCast_add]; congr 1; omega
      rw [← e]
      refine Rat.add_le_add_left.mpr (Rat.mul_le_mul_of_nonneg_right ?_ (Rat.le_of_lt p1))
      exact Rat.intCast_le_intCast.mpr (by omega)
    · rw [if_neg hi, key]; simp; omega
theorem En_den (D : Dy r f) (i : Nat) : (En' r f i).den ≤ 12 := by
  have key : ∀ (a n w : Int), ((a : Rat) + (n : Rat) * hl w).den ≤ 12 := fun a n w => by
    have h := den_of (q := (a : Rat) + (n : Rat) * hl w) (d := 12) (u := a * 12 + n * w) (by decide) (by
      have := hl12 w
      rw [Rat.intCast_add, Rat.intCast_mul, Rat.intCast_mul]
      grind)
    omega
  unfold En'
  split <;> exact key _ _ _
theorem law_end (a k w : Int) (h : True) : F__law_lowest [.int (12 * a + (k + 1) * w), .int 12] = .ok (encQ ((a : Rat) + ((k + 1 : Int) : Rat) * hl w)) := by
  rw [low_z _ 12 (by decide) (by decide)]
  congr 2
  have := hl12 w
  have h12 : ((12 : Int) : Rat) ≠ 0 := by decide
  rw [Rat.intCast_add, Rat.intCast_mul, Rat.intCast_mul]
  generalize ((12 : Int) : Rat) = t at *
  grind
theorem Dy.ends (D : Dy r f) : F__law_ends [encD r f] = .ok (.list ((List.range 24).map fun i => encQ (En' r f i))) := by
  have h0 := D.h0; have h1 := D.h1; have h2 := D.h2
  have e1 : ∀ x ∈ rng 0 12, F__law_lowest [.int (12 * r + (x + 1) * (f - r)), .int 12] = .ok (encQ ((r : Rat) + ((x + 1 : Int) : Rat) * hl (f - r))) := fun x hx => law_end r x (f - r) trivial
  have e2 : ∀ x ∈ rng 0 12, F__law_lowest [.int (12 * f + (x + 1) * (1440 - f + r)), .int 12] = .ok (encQ ((f : Rat) + ((x + 1 : Int) : Rat) * hl (1440 - f + r))) := fun x hx => law_end f x (1440 - f + r) trivial
  rw [e__law_ends]; unfold P__law_ends
  have k1 : ∀ z : Int, mulD (.int 12) (.int z) = .ok (.int (12 * z)) := fun z => mul_l _ _ (by decide)
  have k2 : ∀ z : Int, mulD (.int z) (.int (f - r)) = .ok (.int (z * (f - r))) := fun z => mul_r _ _ (by omega)
  have k3 : ∀ z : Int, mulD (.int z) (.int (1440 - f + r)) = .ok (.int (z * (1440 - f + r))) := fun z => mul_r _ _ (by omega)
  have rg : rg1 (.int 12) = .ok ((rng 0 12).map PyData.int) := rg1_rng (n := 12) (by decide)
  have z1 : ∀ q, (∀ x ∈ rng 0 12, q (PyData.int x) = .ok (some (encQ ((r : Rat) + ((x + 1 : Int) : Rat) * hl (f - r))))) → lcP ((rng 0 12).map PyData.int) q = .ok (((rng 0 12).map fun x => (r : Rat) + ((x + 1 : Int) : Rat) * hl (f - r)).map encQ) := fun q hq => lcP_all PyData.int encQ _ _ (by decide) hq
  have z2 : ∀ q, (∀ x ∈ rng 0 12, q (PyData.int x) = .ok (some (encQ ((f : Rat) + ((x + 1 : Int) : Rat) * hl (1440 - f + r))))) → lcP ((rng 0 12).map PyData.int) q = .ok (((rng 0 12).map fun x => (f : Rat) + ((x + 1 : Int) : Rat) * hl (1440 - f + r)).map encQ) := fun q hq => lcP_all PyData.int encQ _ _ (by decide) hq
  simp only [ixD1, ixD0, R.ok_bind, a_subI, a_addI, a_mkT, big_eq, un2_t, rg, k1, k2, k3, chk_t, decide_true, List.length_cons, List.length_nil, Nat.reduceAdd, Nat.reduceLeDiff]
  rw [z1 _ fun x hx => by simp only [a_addI, R.ok_bind, k2, R.ok_bind, chk_t, List.length_cons, List.length_nil, Nat.reduceAdd, BEq.rfl]; rw [e1 x hx]; rfl]
  rw [z2 _ fun x hx => by simp only [a_addI, R.ok_bind, k3, R.ok_bind, chk_t, List.length_cons, List.length_nil, Nat.reduceAdd, BEq.rfl]; rw [e2 x hx]; rfl]
  simp only [R.ok_bind]
  rw [a_addL, chk_of (by simp [rng_len, big_eq])]
  congr 2
  rw [show (1440 - f + r) = 1440 - (f - r) by omega]
  have hr : List.range 24 = List.range 12 ++ (List.range 12).map (12 + ·) := by decide
  rw [hr, List.map_append, List.map_map, List.map_map]
  unfold rng
  rw [List.map_map, List.map_map, List.map_map]
  congr 1
end
end K79
namespace K79
open PySem PySem.Spec L2 DL
theorem l1_st {day mq told nx : PD} {es fs : List PD} {n : Int} {kn : PD} {next brk : Unit → R PD} (h1 : F__law_told [day, mq] = .ok told) (h2 : F_told_at [day, mq] = .ok told) (n1 : neD told told = .ok (.bool false)) (h3 : F_minute_of [day, told] = .ok mq) (n2 : neD mq mq = .ok (.bool false))
    (h4 : (lcP es fun end_175 => ((((ixD end_175 (.int 0)).bind fun a_176 => (ixD mq (.int 1)).bind (mulD a_176)).bind fun a_178 => ((ixD mq (.int 0)).bind fun a_179 => (ixD end_175 (.int 1)).bind (mulD a_179)).bind (leD a_178)).bind asB).whn (.ok (some end_175))) = .ok fs) (hl : (fs.length : Int) = n)
    (h5 : F_strokes_by [day, mq] = .ok (.int n)) (hn0 : 0 ≤ n) (h6 : F_stroke [day, mq] = .ok (.tuple [kn, .int (n % 12 + 1)])) (h7 : ixD (.list [.str "day", .str "night"]) (.int (n / 12)) = .ok kn) (n3 : neD (.tuple [kn, .int (n % 12 + 1)]) (.tuple [kn, .int (n % 12 + 1)]) = .ok (.bool false))
    (h8 : F_next_stroke [day, mq] = .ok nx) (h9 : ixD (.list es) (.int n) = .ok nx) (n4 : neD nx nx = .ok (.bool false)) : P_law_l1 day (.list es) mq () next brk = next () := by
  unfold P_law_l1
  simp only [h1, h2, n1, h3, n2, R.ok_bind, a_asB, Bool.false_eq_true, if_false, a_itL, h4, a_lenL, hl, h5, a_neI, ne_eq, not_true_eq_false, decide_false, a_divI, Int.reduceLT, and_self, decide_true, chk_t, h7, a_modI, a_addI, a_mkT, big_eq, List.length_cons, List.length_nil, Nat.reduceAdd, Nat.reduceLeDiff, h6, n3, h8, h9, n4]
theorem Mo.l1 {r f : Int} {m : Rat} (M : Mo r f m) (next brk : Unit → R PD) : P_law_l1 (encD r f) (.list ((List.range 24).map fun i => encQ (En' r f i))) (encQ m) () next brk = next () := by
  obtain ⟨b, g, w, A⟩ := M.half
  have gb := A.gone_b
  have fb := A.fl0
  have ge := A.gone_eq
  have nq : ∀ q : Rat, neD (encQ q) (encQ q) = .ok (.bool false) := fun q => ne_refl (nod_Q q) (by rw [depth_Q]; decide)
  have e12 : gone r f m % 12 = fl (hh r f m) ∧ gone r f m / 12 = (if b then 0 else 1) := by
    rw [ge]; cases b <;> simp <;> omega
  have hs := M.stroke
  rw [← e12.1] at hs
  have hd := den_p m
  have hdn := M.dn
  refine l1_st (fs := ((List.range 24).filter fun i => decide (En' r f i ≤ m)).map fun i => encQ (En' r f i)) M.law_told M.told_at (ne_refl rfl ?_) M.minute_of (nq m) ?_ ?_ M.strokes_by gb.1 hs ?_ (ne_refl rfl ?_) M.next ?_ (nq _)
  · simp [encT, PyData.depth, PyData.depthAll, depth_Q]
  · refine lcP_fil (fun i => encQ (En' r f i)) (fun i => decide (En' r f i ≤ m)) _ (by decide) fun i hi => ?_
    have := En_den M.toDy i
    have h1 := dmul m (by omega) (En' r f i).num
    have h2 := dmul (En' r f i) (by omega) m.num
    have h3 : decide ((En' r f i).num * (m.den : Nat) ≤ m.num * ((En' r f i).den : Nat)) = decide (En' r f i ≤ m) := decide_eq_decide.mpr (Rat.le_iff (En' r f i) m).symm
    simp only [ixQ0, ixQ1, R.ok_bind, h1, h2, a_leI, a_asB, R.ok_whn, h3]
    split <;> rfl
  · rw [List.length_map]
    rw [List.filter_congr (q := fun i => decide (i < (gone r f m).toNat)) (fun i hi => decide_eq_decide.mpr ((A.count M.toDy i (List.mem_range.mp hi)).trans (by omega)))]
    have : ∀ n : Nat, n ≤ 24 → ((List.range 24).filter fun i => decide (i < n)).length = n := by decide
    rw [this _ (by omega)]
    omega
  · rw [e12.2, A.k]; cases b <;> rfl
  · simp [PyData.depth, PyData.depthAll]
  · obtain ⟨n, hn⟩ : ∃ n : Nat, gone r f m = (n : Int) := ⟨(gone r f m).toNat, by omega⟩
    rw [hn, a_ixL, atI_nn, List.getElem?_map, List.getElem?_range (by omega)]; rfl
theorem law_day {a b : Int} (ha : 0 ≤ a) (hb : 0 ≤ b) : ∃ r f, Dy r f ∧ F__law_day [.int a, .int b] = .ok (encD r f) := by
  refine ⟨a % 900, a % 900 + 1 + b % (1439 - a % 900), ⟨by omega, ?_, ?_⟩, ?_⟩
  · have := Int.emod_nonneg b (show 1439 - a % 900 ≠ 0 by omega); omega
  · have := Int.emod_lt_of_pos b (show 0 < 1439 - a % 900 by omega); omega
  · rw [e__law_day]; unfold P__law_day encD
    simp [show a % 900 < 1439 by omega, big_eq]
theorem Mo.frac {r f d e : Int} (D : Dy r f) (h : 0 < d ∧ d ≤ 12) (he : 0 ≤ e ∧ e < 1440 * d) : Mo r f (((r * d + e : Int) : Rat) / (d : Rat)) := by
  have hd : (0 : Rat) < (d : Rat) := by have := Rat.intCast_lt_intCast.mpr h.1; simpa using this
  refine ⟨D, ?_, ?_, ?_⟩
  · rw [← Rat.not_lt, Rat.div_lt_iff hd, ← Rat.intCast_mul, Rat.not_lt]
    exact Rat.intCast_le_intCast.mpr (by omega)
  · rw [Rat.div_lt_iff hd, ← Rat.intCast_mul]
    refine Rat.intCast_lt_intCast.mpr ?_
    rw [Int.add_mul]; omega
  · have := den_div (r * d + e) d h.1; omega
theorem Mo.whole {r f : Int} (D : Dy r f) : Mo r f (r : Rat) := ⟨D, Rat.le_refl, Rat.intCast_lt_intCast.mpr (by omega), by rw [Rat.den_intCast]; decide⟩
theorem Mo.ends {r f : Int} (D : Dy r f) {i : Nat} (h : i < 23) : Mo r f (En' r f i) := by
  have h0 := D.h0; have h1 := D.h1; have h2 := D.h2
  have p1 : 0 < hl (f - r) := hl_pos (by omega)
  have p2 : 0 < hl (1440 - (f - r)) := hl_pos (by omega)
  have key : ∀ (a w : Int) (n : Nat), 0 < w → n < 12 → (a : Rat) ≤ (a : Rat) + ((n : Int) : Rat) * hl w ∧ (a : Rat) + ((n : Int) : Rat) * hl w < ((a + w : Int) : Rat) := fun a w n hw hn => by
    have hp := hl_pos hw
    constructor
    · have : ((0 : Int) : Rat) ≤ ((n : Int) : Rat) := Rat.intCast_le_intCast.mpr (by omega)
      have := Rat.mul_nonneg this (Rat.le_of_lt hp)
      have := (Rat.add_le_add_left (c := (a : Rat))).mpr this
      rwa [Rat.add_zero] at this
    · rw [Rat.intCast_add, ← hl12 w]
      refine Rat.add_lt_add_left.mpr ((Rat.mul_lt_mul_right hp).mpr ?_)
      exact Rat.intCast_lt_intCast.mpr (by omega)
  refine ⟨D, ?_, ?_, En_den D i⟩
  · unfold En'
    split
    · by_cases h11 : i = 11
      · subst h11
        have : (((11 + 1 : Nat) : Int) : Rat) = ((12 : Int) : Rat) := rfl
        rw [this, hl12, ← Rat.intCast_add]
        exact Rat.intCast_le_intCast.mpr (by omega)
      · exact (key r (f - r) (i + 1) (by omega) (by omega)).1
    · exact Rat.le_trans (Rat.intCast_le_intCast.mpr (by omega)) (key f (1440 - (f - r)) (i - 11) (by omega) (by omega)).1
  · unfold En'
    split
    · by_cases h11 : i = 11
      · subst h11
        have : (((11 + 1 : Nat) : Int) : Rat) = ((12 : Int) : Rat) := rfl
        rw [this, hl12, ← Rat.intCast_add]
        exact Rat.intCast_lt_intCast.mpr (by omega)
      · have := (key r (f - r) (i + 1) (by omega) (by omega)).2
        rw [show r + (f - r) = f by omega] at this
        have h3 : (f : Rat) ≤ ((r + 1440 : Int) : Rat) := Rat.intCast_le_intCast.mpr (by omega)
        grind
    · have := (key f (1440 - (f - r)) (i - 11) (by omega) (by omega)).2
      rwa [show f + (1440 - (f - r)) = r + 1440 by omega] at this
end K79
namespace K79
open PySem PySem.Spec L2 DL
/-! ### the law's own reckoning with two quotients -/
structure Qs (o0 o1 t0 t1 : Int) : Prop where
  a : -18446744073709551616 < o0 ∧ o0 < 18446744073709551616
  b : -18446744073709551616 < o1 ∧ o1 < 18446744073709551616
  c : -18446744073709551616 < t0 ∧ t0 < 18446744073709551616
  d : -18446744073709551616 < t1 ∧ t1 < 18446744073709551616
theorem tail_st {r f k v0 v5 v10 v15 v20 v25 v30 o0 o1 t0 t1 : Int} {dr x y q1 q2 ps ms ts os : PD} {es : List PD} {next brk : Unit → R PD}
    (d0 : ixD dr (.int k) = .ok (.int v0)) (d5 : ixD dr (.int (5 + k)) = .ok (.int v5)) (d10 : ixD dr (.int (10 + k)) = .ok (.int v10)) (d15 : ixD dr (.int (15 + k)) = .ok (.int v15)) (d20 : ixD dr (.int (20 + k)) = .ok (.int v20)) (d25 : ixD dr (.int (25 + k)) = .ok (.int v25)) (d30 : ixD dr (.int (30 + k)) = .ok (.int v30))
    (hday : F__law_day [.int v0, .int v5] = .ok (encD r f)) (hlen : F_hour_lengths [encD r f] = .ok (.tuple [x, y])) (hx : F__law_lowest [.int (f - r), .int 12] = .ok x) (hy : F__law_lowest [.int (1440 - f + r), .int 12] = .ok y) (n1 : neD (.tuple [x, y]) (.tuple [x, y]) = .ok (.bool false))
    (hes : F__law_ends [encD r f] = .ok (.list es)) (hdn : 0 < 1 + v10 % 9 ∧ 1 + v10 % 9 < 10) (m1 : mulD (.int r) (.int (1 + v10 % 9)) = .ok (.int (r * (1 + v10 % 9)))) (hq1 : F__law_lowest [.int (r * (1 + v10 % 9) + v15 % (1440 * (1 + v10 % 9))), .int (1 + v10 % 9)] = .ok q1) (hq2 : ixD (.list es) (.int (v20 % 23)) = .ok q2)
    (loop : ∀ k : Unit → R PD, forK (P_law_l1 (encD r f) (.list es)) [q1, q2, .tuple [.int r, .int 1]] () k = k ())
    (ho : F__law_lowest [.int (v25 % 99), .int (1 + v10 % 9)] = .ok (.tuple [.int o0, .int o1])) (ht : F__law_lowest [.int (1 + v30 % 99), .int (1 + (1 + v10 % 9) % 7)] = .ok (.tuple [.int t0, .int t1])) (Q : Qs o0 o1 t0 t1)
    (p1 : F_plus [.tuple [.int o0, .int o1], .tuple [.int t0, .int t1]] = .ok ps) (p2 : F__law_lowest [.int (o0 * t1 + t0 * o1), .int (o1 * t1)] = .ok ps) (np : neD ps ps = .ok (.bool false))
    (s1 : F_minus [.tuple [.int o0, .int o1], .tuple [.int t0, .int t1]] = .ok ms) (s2 : F__law_lowest [.int (o0 * t1 - t0 * o1), .int (o1 * t1)] = .ok ms) (nm : neD ms ms = .ok (.bool false))
    (u1 : F_times [.tuple [.int o0, .int o1], .tuple [.int t0, .int t1]] = .ok ts) (u2 : F__law_lowest [.int (o0 * t0), .int (o1 * t1)] = .ok ts) (nt : neD ts ts = .ok (.bool false))
    (w1 : F_over [.tuple [.int o0, .int o1], .tuple [.int t0, .int t1]] = .ok os) (w2 : F__law_lowest [.int (o0 * t1), .int (o1 * t0)] = .ok os) (no : neD os os = .ok (.bool false))
    (z1 : F_quotient [.int (10 * o0), .int (10 * o1)] = .ok (.tuple [.int o0, .int o1])) (nz : neD (.tuple [.int o0, .int o1]) (.tuple [.int o0, .int o1]) = .ok (.bool false))
    (l1 : F_is_less [.tuple [.int o0, .int o1], .tuple [.int t0, .int t1]] = .ok (.bool (decide (o0 * t1 < t0 * o1)))) : P_law_l2 dr (.int k) () next brk = next () := by
  have nb : ∀ b : Bool, neD (.bool b) (.bool b) = .ok (.bool false) := fun b => ne_refl rfl (by simp [PyData.depth])
  have k1 := mul_l 1440 (1 + v10 % 9) (by decide)
  have g1 := mul_r o0 t1 Q.d
  have g2 := mul_r t0 o1 Q.b
  have g3 := mul_r o1 t1 Q.d
  have g4 := mul_r o0 t0 Q.c
  have g5 := mul_r o1 t0 Q.c
  have g6 := mul_l 10 o0 (by decide)
  have g7 := mul_l 10 o1 (by decide)
  have h0 : (0 : Int) < 1440 * (1 + v10 % 9) := by omega
  unfold P_law_l2
  simp only [d0, d5, d10, d15, d20, d25, d30, R.ok_bind, a_int, hday, a_addI, ixD0, ixD1, a_subI, hlen, hx, hy, a_mkT, big_eq, List.length_cons, List.length_nil, Nat.reduceAdd, Nat.reduceLeDiff, decide_true, chk_t, BEq.rfl, n1, a_asB, Bool.false_eq_true, if_false, a_modI, Int.reduceLT, hes, m1, k1, h0, hq1, hq2, a_itT, loop, ho, ht, p1, p2, np, s1, s2, nm, u1, u2, nt, w1, w2, no, z1, nz, l1, a_ixT, atI_z, atI_o, g1, g2, g3, g4, g5, g6, g7, nb, a_ltI]
end K79
namespace K79
open PySem PySem.Spec L2 DL
theorem num_div (u d : Int) (hu : 0 ≤ u) (h : 0 < d) : 0 ≤ ((u : Rat) / (d : Rat)).num ∧ ((u : Rat) / (d : Rat)).num ≤ u := by
  obtain ⟨n, rfl⟩ : ∃ n : Nat, d = (n : Int) := ⟨d.toNat, by omega⟩
  have e : (u : Rat) / ((n : Int) : Rat) = mkRat u n := by rw [Rat.mkRat_eq_div]; rfl
  rw [e, Rat.num_mkRat, if_neg (by omega)]
  exact ⟨Int.ediv_nonneg hu (by omega), Int.ediv_le_self _ hu⟩
theorem div_pos (u d : Int) (hu : 0 < u) (h : 0 < d) : 0 < (u : Rat) / (d : Rat) := by
  have h1 : (0 : Rat) < (u : Rat) := by have := Rat.intCast_lt_intCast.mpr hu; simpa using this
  have h2 : (0 : Rat) < (d : Rat) := by have := Rat.intCast_lt_intCast.mpr h; simpa using this
  exact (Rat.lt_div_iff h2).mpr (by rw [Rat.zero_mul]; exact h1)
/-- quotients of the law's small draws -/
structure Sm (a b : Rat) : Prop where
  a0 : 0 ≤ a.num ∧ a.num ≤ 1000
  a1 : a.den ≤ 1000
  b0 : 0 < b.num ∧ b.num ≤ 1000
  b1 : b.den ≤ 1000
section
variable {a b : Rat} (S : Sm a b)
include S
theorem Sm.dd : a.den * b.den < 1000000000 := by
  have := Nat.mul_le_mul S.a1 S.b1; omega
theorem Sm.lplus : F__law_lowest [.int (a.num * (b.den : Nat) + b.num * (a.den : Nat)), .int ((a.den : Nat) * (b.den : Nat))] = .ok (encQ (a + b)) := by
  have e := law_low_eq (a.num * (b.den : Nat) + b.num * (a.den : Nat)) (a.den * b.den) (Nat.mul_pos a.den_pos b.den_pos) S.dd
  rwa [Int.natCast_mul, ← Rat.add_def' a b] at e
theorem Sm.lminus : F__law_lowest [.int (a.num * (b.den : Nat) - b.num * (a.den : Nat)), .int ((a.den : Nat) * (b.den : Nat))] = .ok (encQ (a - b)) := by
  have e := law_low_eq (a.num * (b.den : Nat) - b.num * (a.den : Nat)) (a.den * b.den) (Nat.mul_pos a.den_pos b.den_pos) S.dd
  rwa [Int.natCast_mul, ← Rat.sub_def' a b] at e
theorem Sm.ltimes : F__law_lowest [.int (a.num * b.num), .int ((a.den : Nat) * (b.den : Nat))] = .ok (encQ (a * b)) := by
  have e := law_low_eq (a.num * b.num) (a.den * b.den) (Nat.mul_pos a.den_pos b.den_pos) S.dd
  rwa [Int.natCast_mul, ← Rat.mul_def' a b] at e
theorem Sm.dn : (a.den : Int) * b.num < 1000000000 := by
  have := Int.mul_le_mul (show ((a.den : Nat) : Int) ≤ 1000 by have := S.a1; omega) S.b0.2 (by have := S.b0.1; omega) (by decide)
  omega
theorem Sm.lover : F__law_lowest [.int (a.num * (b.den : Nat)), .int ((a.den : Nat) * b.num)] = .ok (encQ (a / b)) := by
  have e := low_z (a.num * (b.den : Nat)) ((a.den : Nat) * b.num) (Int.mul_pos (den_p a) S.b0.1) S.dn
  rwa [div_nd a b S.b0.1] at e
theorem Sm.ten : F_quotient [.int (10 * a.num), .int (10 * (a.den : Nat))] = .ok (encQ a) := by
  have hd := den_p a
  have := S.a1
  have e := quotient_z (10 * a.num) (10 * (a.den : Nat)) (by omega) (by omega)
  rw [show ((10 * a.num : Int) : Rat) / ((10 * (a.den : Nat) : Int) : Rat) = a by
    have h := qnd a
    have h2 := den_ne a
    rw [Rat.intCast_mul, Rat.intCast_mul]
    show ((10 : Int) : Rat) * (a.num : Rat) / (((10 : Int) : Rat) * (a.den : Rat)) = a
    have h12 : ((10 : Int) : Rat) ≠ 0 := by decide
    generalize ((10 : Int) : Rat) = t at *
    generalize (a.num : Rat) = n at *
    generalize (a.den : Rat) = d at *
    subst h
    grind] at e
  exact e
end
theorem l2_go {ds : List Int} (hlen50 : ds.length = 50) (ho : DrawOk ds) {k : Int} (hk : 0 ≤ k ∧ k < 5) (next brk : Unit → R PD) : P_law_l2 (.list (ds.map PyData.int)) (.int k) () next brk = next () := by
  obtain ⟨v0, d0, b0⟩ := dr_ix hlen50 ho k (by omega)
  obtain ⟨v5, d5, b5⟩ := dr_ix hlen50 ho (5 + k) (by omega)
  obtain ⟨v10, d10, b10⟩ := dr_ix hlen50 ho (10 + k) (by omega)
  obtain ⟨v15, d15, b15⟩ := dr_ix hlen50 ho (15 + k) (by omega)
  obtain ⟨v20, d20, b20⟩ := dr_ix hlen50 ho (20 + k) (by omega)
  obtain ⟨v25, d25, b25⟩ := dr_ix hlen50 ho (25 + k) (by omega)
  obtain ⟨v30, d30, b30⟩ := dr_ix hlen50 ho (30 + k) (by omega)
  obtain ⟨r, f, D, hday⟩ := law_day b0.1 b5.1
  have r0 := D.h0; have r1 := D.h1; have r2 := D.h2
  have nq : ∀ q : Rat, neD (encQ q) (encQ q) = .ok (.bool false) := fun q => ne_refl (nod_Q q) (by rw [depth_Q]; decide)
  have hx := low_z (f - r) 12 (by decide) (by decide)
  have hy := low_z (1440 - f + r) 12 (by decide) (by decide)
  have hlen := D.hours
  rw [show 1440 - (f - r) = 1440 - f + r by omega] at hlen
  have hdn : 0 < 1 + v10 % 9 ∧ 1 + v10 % 9 < 10 := by omega
  generalize hdd : 1 + v10 % 9 = dn at *
  have he := Int.emod_nonneg v15 (show 1440 * dn ≠ 0 by omega)
  have he2 := Int.emod_lt_of_pos v15 (show 0 < 1440 * dn by omega)
  have M1 := Mo.frac (e := v15 % (1440 * dn)) D (show 0 < dn ∧ dn ≤ 12 by omega) ⟨he, he2⟩
  have hq1 := low_z (r * dn + v15 % (1440 * dn)) dn (by omega) (by omega)
  have M2 := Mo.ends D (i := (v20 % 23).toNat) (by omega)
  have hq2 : ixD (.list ((List.range 24).map fun i => encQ (En' r f i))) (.int (v20 % 23)) = .ok (encQ (En' r f (v20 % 23).toNat)) := by
    obtain ⟨n, hn⟩ : ∃ n : Nat, v20 % 23 = (n : Int) := ⟨(v20 % 23).toNat, by omega⟩
    rw [hn, a_ixL, atI_nn, List.getElem?_map, List.getElem?_range (by omega)]; rfl
  have M3 := Mo.whole D
  have S : Sm (((v25 % 99 : Int) : Rat) / (dn : Rat)) (((1 + v30 % 99 : Int) : Rat) / ((1 + dn % 7 : Int) : Rat)) := by
    have n1 := num_div (v25 % 99) dn (by omega) (by omega)
    have n2 := num_div (1 + v30 % 99) (1 + dn % 7) (by omega) (by omega)
    have p2 := num_of_pos (div_pos (1 + v30 % 99) (1 + dn % 7) (by omega) (by omega))
    have e1 := den_div (v25 % 99) dn (by omega)
    have e2 := den_div (1 + v30 % 99) (1 + dn % 7) (by omega)
    exact ⟨by omega, by omega, by omega, by omega⟩
  have hone := low_z (v25 % 99) dn (by omega) (by omega)
  have htwo := low_z (1 + v30 % 99) (1 + dn % 7) (by omega) (by omega)
  generalize ((v25 % 99 : Int) : Rat) / (dn : Rat) = a at *
  generalize ((1 + v30 % 99 : Int) : Rat) / ((1 + dn % 7 : Int) : Rat) = b at *
  have a0 := S.a0; have a1 := S.a1; have b0' := S.b0; have b1 := S.b1
  have da := den_p a
  have db := den_p b
  have pl := plus_eq a b S.dd
  have mi := minus_eq a b S.dd
  have ti := times_eq a b S.dd (by omega)
  have ov := over_eq a b b0'.1 S.dn (by omega)
  have le := less_st (u := a.num) (d := (a.den : Nat)) (u' := b.num) (d' := (b.den : Nat)) (dmul b (by omega) _) (dmul a (by omega) _)
  refine tail_st (x := encQ (hl (f - r))) (y := encQ (hl (1440 - f + r))) (q1 := encQ (((r * dn + v15 % (1440 * dn) : Int) : Rat) / (dn : Rat))) d0 d5 d10 d15 d20 d25 d30 hday hlen hx hy (ne_refl rfl (by simp [PyData.depth, PyData.depthAll, depth_Q])) D.ends (by omega) (mul_r _ _ (by omega)) (by rw [hdd]; exact hq1) hq2 ?_ (by rw [hdd]; exact hone) (by rw [hdd]; exact htwo) ⟨by omega, by omega, by omega, by omega⟩
    pl S.lplus (nq _) mi S.lminus (nq _) ti S.ltimes (nq _) ov S.lover (nq _) S.ten (nq a) le
  intro k
  refine forK_skip (k := k) encQ () [((r * dn + v15 % (1440 * dn) : Int) : Rat) / (dn : Rat), En' r f (v20 % 23).toNat, (r : Rat)] fun m hm next brk => ?_
  have : Mo r f m := by
    rcases List.mem_cons.mp hm with rfl | hm
    · exact M1
    rcases List.mem_cons.mp hm with rfl | hm
    · exact M2
    rcases List.mem_cons.mp hm with rfl | hm
    · exact M3
    cases hm
  exact this.l1 next brk
end K79
namespace K79
open PySem PySem.Spec L2 DL
/-! ### tables -/
structure Row where
  n : Int
  r : Int
  f : Int
def encR (x : Row) : PD := .tuple [.int x.n, encD x.r x.f]
@[simp] theorem ixR0 (x : Row) : ixD (encR x) (.int 0) = .ok (.int x.n) := rfl
@[simp] theorem ixR1 (x : Row) : ixD (encR x) (.int 1) = .ok (encD x.r x.f) := rfl
def encTb (t : List Row) : PD := .tuple (t.map encR)
structure RowOk (x : Row) : Prop where
  n0 : 0 ≤ x.n ∧ x.n ≤ 400
  dy : Dy x.r x.f
structure Tb (t : List Row) : Prop where
  ne : t ≠ []
  len : t.length ≤ 40
  ok : ∀ x ∈ t, RowOk x
  so : t.Pairwise fun a b => a.n < b.n
theorem ascends_ok : ∀ (ns : List Int), ns.Pairwise (· < ·) → ns.length ≤ 1000 → F_ascends [.list (ns.map PyData.int)] = .ok (.bool true) := fun ns h hl => by
  have e1 := sl_dropL PyData.int ns 1
  have e2 : zpD (.list (ns.map PyData.int)) (.list ((ns.drop 1).map PyData.int)) = .ok ((ns.zip (ns.drop 1)).map fun p => .tuple [.int p.1, .int p.2]) := by
    rw [a_zpL, zipL_map]
  have e3 : ∀ q, (∀ p ∈ ns.zip (ns.drop 1), q (PyData.tuple [.int p.1, .int p.2]) = .ok (some (.bool true))) → lcP ((ns.zip (ns.drop 1)).map fun p => .tuple [.int p.1, .int p.2]) q = .ok (((ns.zip (ns.drop 1)).map fun _ => true).map PyData.bool) := fun q hq => lcP_all (fun p : Int × Int => .tuple [.int p.1, .int p.2]) PyData.bool (fun _ => true) _ (by rw [List.length_zip]; omega) hq
  have lt : ∀ (ns : List Int), ns.Pairwise (· < ·) → ∀ p ∈ ns.zip (ns.drop 1), p.1 < p.2 := by
    intro ns
    induction ns with
    | nil => intro _ p hp; simp at hp
    | cons x xs ih =>
      intro h p hp
      cases xs with
      | nil => simp at hp
      | cons y ys =>
        rw [List.pairwise_cons] at h
        simp only [List.drop_succ_cons, List.drop_zero, List.zip_cons_cons, List.mem_cons] at hp
        rcases hp with rfl | hp
        · exact h.1 y List.mem_cons_self
        · exact ih h.2 p (by simpa using hp)
  rw [e_ascends]; unfold P_ascends
  rw [show (some (1 : Int)) = some ((1 : Nat) : Int) from rfl, e1, R.ok_bind, e2, R.ok_bind, e3 _ fun p hp => by
    have := lt ns h p hp
    simp [this]]
  rw [R.ok_bind, R.ok_bind, R.ok_bind, all_bools]
  simp
theorem Tb.chk {t : List Row} (T : Tb t) : F__check_table [encTb t] = .ok .none := by
  have hl := T.len
  have hn : 1 ≤ t.length := by cases t with
    | nil => exact absurd rfl T.ne
    | cons => simp
  have z1 : ∀ q, (∀ x ∈ t, q (encR x) = .ok (some (.bool true))) → lcP (t.map encR) q = .ok ((t.map fun _ => true).map PyData.bool) := fun q hq => lcP_all encR PyData.bool _ _ (by omega) hq
  have z2 : ∀ q, (∀ x ∈ t, q (encR x) = .ok (some (.int x.n))) → lcP (t.map encR) q = .ok ((t.map Row.n).map PyData.int) := fun q hq => lcP_all encR PyData.int _ _ (by omega) hq
  have asc := ascends_ok (t.map Row.n) (List.pairwise_map.mpr T.so) (by rw [List.length_map]; omega)
  rw [e__check_table]; unfold P__check_table
  have h1 : (1 : Int) ≤ (t.length : Int) := by omega
  have h2 : (t.length : Int) ≤ 40 := by omega
  have ah : ((t.map fun _ => true).all id) = true := by simp
  simp only [show encTb t = .tuple (t.map encR) from rfl, PyData.isTuple, Bool.not_true, Bool.false_eq_true, if_false, a_lenT, List.length_map, R.ok_bind, a_leI, h1, h2, decide_true, a_asB, if_true, Bool.not_false, a_itT]
  rw [z1 _ fun x hx => by
    have d := (T.ok x hx).dy.ok
    unfold encR
    simp [PyData.isTuple, d]]
  simp only [R.ok_bind, all_bools, ah, a_truB, Bool.not_true, Bool.false_eq_true, if_false]
  rw [z1 _ fun x hx => by
    have d := (T.ok x hx).n0
    simp [whole_eq, d.1, d.2]]
  simp only [R.ok_bind, all_bools, ah, a_truB, Bool.not_true, Bool.false_eq_true, if_false]
  rw [z2 _ fun x hx => by simp]
  simp only [R.ok_bind, List.length_cons, List.length_nil, Nat.reduceAdd, BEq.rfl, chk_t, asc, a_truB, Bool.not_true, Bool.false_eq_true, if_false]
/-- where a day stands in a table -/
inductive Loc (t : List Row) (x : Int) : Prop
  | at (pre : List Row) (a : Row) (post : List Row) (e : t = pre ++ a :: post) (h : a.n = x) (h1 : ∀ p ∈ pre, p.n < x) (h2 : ∀ p ∈ post, x < p.n)
  | mid (pre : List Row) (a b : Row) (post : List Row) (e : t = pre ++ a :: b :: post) (ha : a.n < x) (hb : x < b.n) (h1 : ∀ p ∈ pre, p.n < x) (h2 : ∀ p ∈ post, x < p.n)
def hd (t : List Row) : Row := t.headD ⟨0, 0, 0⟩
def la (t : List Row) : Row := t.getLastD ⟨0, 0, 0⟩
theorem loc : ∀ (t : List Row) (x : Int), t ≠ [] → t.Pairwise (fun a b => a.n < b.n) → (hd t).n ≤ x → x ≤ (la t).n → Loc t x
  | [], x, h, _, _, _ => absurd rfl h
  | [a], x, _, _, h1, h2 => .at [] a [] rfl (Int.le_antisymm h1 h2) (fun p hp => nomatch hp) (fun p hp => nomatch hp)
  | a :: b :: t, x, _, so, h1, h2 => by
    have so' := List.pairwise_cons.mp so
    have so2 := List.pairwise_cons.mp so'.2
    by_cases hb : x < b.n
    · by_cases ha : a.n = x
      · exact .at [] a (b :: t) rfl ha (fun p hp => nomatch hp) (fun p hp => by
          rcases List.mem_cons.mp hp with rfl | hp
          · exact hb
          · exact Int.lt_trans hb (so2.1 p hp))
      · exact .mid [] a b t rfl (by have : a.n ≤ x := h1; omega) hb (fun p hp => nomatch hp) (fun p hp => Int.lt_trans hb (so2.1 p hp))
    · have h3 : la (a :: b :: t) = la (b :: t) := by unfold la; simp [List.getLastD_cons]
      rw [h3] at h2
      have := loc (b :: t) x (by simp) so'.2 (by show b.n ≤ x; omega) h2
      have hab : a.n < x := by have := so'.1 b List.mem_cons_self; omega
      have hx : ∀ pre : List Row, (∀ p ∈ pre, p.n < x) → ∀ p ∈ a :: pre, p.n < x := fun pre h p hp => by
        rcases List.mem_cons.mp hp with rfl | hp
        · exact hab
        · exact h p hp
      cases this with
      | «at» pre c post e h h1 h2 => exact .at (a :: pre) c post (by rw [e]; rfl) h (hx pre h1) h2
      | mid pre c d post e ha hb h1 h2 => exact .mid (a :: pre) c d post (by rw [e]; rfl) ha hb (hx pre h1) h2
/-- between two rows -/
def btw (a b : Row) (x u v : Int) : Rat := ((u * (b.n - a.n) + (v - u) * (x - a.n) : Int) : Rat) / ((b.n - a.n : Int) : Rat)
theorem Tb.mem {t : List Row} (T : Tb t) {x : Row} (h : x ∈ t) : RowOk x := T.ok x h
theorem hd_mem {t : List Row} (h : t ≠ []) : hd t ∈ t := by
  cases t with
  | nil => exact absurd rfl h
  | cons x xs => exact List.mem_cons_self
theorem la_app (pre : List Row) (a : Row) : la (pre ++ [a]) = a := by unfold la; simp
theorem la_eq {t : List Row} (h : t ≠ []) : ∃ pre, t = pre ++ [la t] := by
  refine ⟨t.dropLast, ?_⟩
  have := List.dropLast_concat_getLast h
  unfold la
  rw [List.getLastD_eq_getLast?, List.getLast?_eq_some_getLast h]
  exact this.symm
theorem ix_hd {t : List Row} (h : t ≠ []) : ixD (encTb t) (.int 0) = .ok (encR (hd t)) := by
  cases t with
  | nil => exact absurd rfl h
  | cons x xs => exact ix_T encR (i := 0) rfl
theorem ix_la {t : List Row} (h : t ≠ []) : ixD (encTb t) (.int (-1)) = .ok (encR (la t)) := by
  obtain ⟨pre, e⟩ := la_eq h
  have := ix_lastT encR pre (la t)
  rwa [← e] at this
theorem Tb.num {t : List Row} (T : Tb t) {x : Int} (h : (hd t).n ≤ x ∧ x ≤ (la t).n) : F__check_number [encTb t, .int x] = .ok .none := by
  rw [e__check_number]; unfold P__check_number
  simp [ix_hd T.ne, ix_la T.ne, neg1, whole_eq, h.1, h.2]
theorem btw_st {a b : Row} {x u v w : Int} {k : Int} {z : PD} (hk : (k = 0 ∧ u = a.r ∧ v = b.r) ∨ (k = 1 ∧ u = a.f ∧ v = b.f)) (hw : w = b.n - a.n) (m1 : mulD (.int (v - u)) (.int (x - a.n)) = .ok (.int ((v - u) * (x - a.n)))) (m2 : mulD (.int u) (.int w) = .ok (.int (u * w))) (e : F_quotient [.int (u * w + (v - u) * (x - a.n)), .int w] = .ok z) : F__between [encR a, encR b, .int x, .int k] = .ok z := by
  subst hw
  rw [e__between]; unfold P__between
  rcases hk with ⟨rfl, rfl, rfl⟩ | ⟨rfl, rfl, rfl⟩ <;> simp [-a_mulI, m1, m2, e]
/-- rise and fall of a day -/
inductive RF (t : List Row) (x : Int) : Rat → Rat → Prop
  | at (pre : List Row) (a : Row) (post : List Row) (e : t = pre ++ a :: post) (h : a.n = x) (h1 : ∀ p ∈ pre, p.n < x) (h2 : ∀ p ∈ post, x < p.n) : RF t x (a.r : Rat) (a.f : Rat)
  | mid (pre : List Row) (a b : Row) (post : List Row) (e : t = pre ++ a :: b :: post) (ha : a.n < x) (hb : x < b.n) (h1 : ∀ p ∈ pre, p.n < x) (h2 : ∀ p ∈ post, x < p.n) : RF t x (btw a b x a.r b.r) (btw a b x a.f b.f)
theorem fil_le {t : List Row} {x : Int} {pre post : List Row} {a : Row} (e : t = pre ++ a :: post) (h : a.n ≤ x) (h1 : ∀ p ∈ pre, p.n < x) (h2 : ∀ p ∈ post, x < p.n) : (t.filter fun p => decide (p.n ≤ x)) = pre ++ [a] ∧ (t.filter fun p => decide (x < p.n)) = post := by
  subst e
  have f1 : pre.filter (fun p => decide (p.n ≤ x)) = pre := List.filter_eq_self.mpr fun p hp => decide_eq_true (by have := h1 p hp; omega)
  have f2 : pre.filter (fun p => decide (x < p.n)) = [] := List.filter_eq_nil_iff.mpr fun p hp => by have := h1 p hp; simp; omega
  have f3 : post.filter (fun p => decide (p.n ≤ x)) = [] := List.filter_eq_nil_iff.mpr fun p hp => by have := h2 p hp; simp; omega
  have f4 : post.filter (fun p => decide (x < p.n)) = post := List.filter_eq_self.mpr fun p hp => decide_eq_true (h2 p hp)
  constructor
  · rw [List.filter_append, f1, List.filter_cons_of_pos (by simpa using h), f3]
  · rw [List.filter_append, f2, List.filter_cons_of_neg (by simpa using h), f4, List.nil_append]
theorem day_st {t : List Row} {x : Int} {ahead z : PD} {fs : List PD} (h1 : lcP (t.map encR) (fun row_4 => (((ixD row_4 (.int 0)).bind fun a_5 => leD a_5 (.int x)).bind asB).whn (.ok (some row_4))) = .ok fs) (h2 : ixD (.list fs) (.int (-1)) = .ok ahead)
    (h3 : ((((ixD ahead (.int 0)).bind fun a_10 => eqD a_10 (.int x)).bind asB).bind fun b_27 => if b_27 = true then (((((ixD ahead (.int 1)).bind fun a_11 => ixD a_11 (.int 0)).bind fun a_12 => .ok [a_12, (.int 1)]).bind mkT).bind fun a_16 => (((((ixD ahead (.int 1)).bind fun a_13 => ixD a_13 (.int 1)).bind fun a_14 => .ok [a_14, (.int 1)]).bind mkT).bind fun a_15 => .ok [a_15]).bind fun ds_17 => .ok (a_16 :: ds_17)).bind mkT else ((((itD (encTb t)).bind fun items_18 => lcP items_18 fun row_19 => (((ixD row_19 (.int 0)).bind fun a_20 => gtD a_20 (.int x)).bind asB).whn (.ok (some row_19))).bind fun l_21 => .ok (.list l_21)).bind fun a_22 => ixD a_22 (.int 0)).bind fun behind_23 => ((F__between [ahead, behind_23, (.int x), (.int 0)]).bind fun a_25 => ((F__between [ahead, behind_23, (.int x), (.int 1)]).bind fun a_24 => .ok [a_24]).bind fun ds_26 => .ok (a_25 :: ds_26)).bind mkT) = .ok z) : F__day_on [encTb t, .int x] = .ok z := by
  rw [e__day_on]; unfold P__day_on
  rw [show itD (encTb t) = .ok (t.map encR) from rfl] at h3 ⊢
  simp only [R.ok_bind, neg1, h1, h2]
  exact h3
theorem wb {a b : Row} {x : Int} (ha : 0 ≤ a.n ∧ a.n ≤ 400) (hb : 0 ≤ b.n ∧ b.n ≤ 400) (h : a.n < x) (h2 : x < b.n) (u v : Int) : (0 < b.n - a.n) ∧ b.n - a.n ≤ 400 ∧ (mulD (.int (v - u)) (.int (x - a.n)) = .ok (.int ((v - u) * (x - a.n)))) ∧ (mulD (.int u) (.int (b.n - a.n)) = .ok (.int (u * (b.n - a.n)))) :=
  ⟨by omega, by omega, mul_r _ _ (by omega), mul_r _ _ (by omega)⟩
theorem Tb.day {t : List Row} (T : Tb t) {x : Int} (h : (hd t).n ≤ x ∧ x ≤ (la t).n) : ∃ R F, RF t x R F ∧ F__day_on [encTb t, .int x] = .ok (.tuple [encQ R, encQ F]) := by
  have hl := T.len
  have z1 : lcP (t.map encR) (fun row_4 => (((ixD row_4 (.int 0)).bind fun a_5 => leD a_5 (.int x)).bind asB).whn (.ok (some row_4))) = .ok ((t.filter fun p => decide (p.n ≤ x)).map encR) := lcP_fil encR _ _ (by omega) fun y hy => by simp [R.ok_whn]; split <;> rfl
  have z2 : lcP (t.map encR) (fun row_19 => (((ixD row_19 (.int 0)).bind fun a_20 => gtD a_20 (.int x)).bind asB).whn (.ok (some row_19))) = .ok ((t.filter fun p => decide (x < p.n)).map encR) := lcP_fil encR _ _ (by omega) fun y hy => by simp [R.ok_whn]; split <;> rfl
  cases loc t x T.ne T.so h.1 h.2 with
  | «at» pre a post e h h1 h2 =>
    obtain ⟨f1, f2⟩ := fil_le e (by omega) h1 h2
    rw [f1] at z1
    refine ⟨_, _, .at pre a post e h h1 h2, day_st z1 (ix_lastL encR pre a) ?_⟩
    simp [h, big_eq, encQ_int]
  | mid pre a b post e ha hb h1 h2 =>
    have oa := T.ok a (by rw [e]; simp)
    have ob := T.ok b (by rw [e]; simp)
    obtain ⟨f1, f2⟩ := fil_le (post := b :: post) e (by omega) h1 (fun p hp => by
      rcases List.mem_cons.mp hp with rfl | hp
      · exact hb
      · exact h2 p hp)
    rw [f1] at z1
    rw [f2] at z2
    have w := fun u v => wb oa.n0 ob.n0 ha hb u v
    have q1 := btw_st (k := 0) (.inl ⟨rfl, rfl, rfl⟩) rfl (w a.r b.r).2.2.1 (w a.r b.r).2.2.2 (quotient_z _ _ (w 0 0).1 (by have := (w 0 0).2.1; omega))
    have q2 := btw_st (k := 1) (.inr ⟨rfl, rfl, rfl⟩) rfl (w a.f b.f).2.2.1 (w a.f b.f).2.2.2 (quotient_z _ _ (w 0 0).1 (by have := (w 0 0).2.1; omega))
    refine ⟨_, _, .mid pre a b post e ha hb h1 h2, day_st z1 (ix_lastL encR pre a) ?_⟩
    have i0 : ixD (.list ((b :: post).map encR)) (.int 0) = .ok (encR b) := ix_L encR (i := 0) rfl
    rw [show itD (encTb t) = .ok (t.map encR) from rfl]
    simp only [ixR0, R.ok_bind, a_eqI, show ¬ a.n = x by omega, decide_false, a_asB, Bool.false_eq_true, if_false, z2, i0, q1, q2, a_mkT, List.length_cons, List.length_nil, Nat.reduceAdd, big_eq, Nat.reduceLeDiff, decide_true, chk_t]
    rfl
end K79
namespace K79
open PySem PySem.Spec L2 DL
/-! ### the law's own days -/
theorem lon_at {t : List Row} {x : Int} {pre post : List Row} {a : Row} (hl : t.length ≤ 40) (e : t = pre ++ a :: post) (h : a.n = x) (h1 : ∀ p ∈ pre, p.n < x) : F__law_on [encTb t, .int x] = .ok (.tuple [encQ (a.r : Rat), encQ (a.f : Rat)]) := by
  have hlen : t.length = pre.length + 1 + post.length := by rw [e]; simp; omega
  have rg : rg1 (.int (t.length : Nat)) = .ok ((rng 0 t.length).map PyData.int) := rg1_rng (by omega)
  have split : (rng 0 t.length).map PyData.int = ((List.range pre.length).map fun i => PyData.int (i : Nat)) ++ (PyData.int (pre.length : Nat) :: ((List.range post.length).map fun i => PyData.int ((pre.length + 1 + i : Nat) : Nat))) := by
    unfold rng
    rw [hlen, List.range_add, List.range_add, List.map_append, List.map_append, List.map_append, List.map_append, List.map_map, List.map_map, List.map_map, List.append_assoc]
    simp [Function.comp_def]
  have get : ∀ i (y : Row), t[i]? = some y → ixD (encTb t) (.int (i : Nat)) = .ok (encR y) := fun i y hy => ix_T encR hy
  rw [e__law_on]; unfold P__law_on
  rw [show lenD [encTb t] = .ok (.int (t.length : Nat)) by unfold encTb; rw [a_lenT, List.length_map]]
  rw [R.ok_bind, rg, R.ok_bind, split]
  rw [forK_pre (fun i : Nat => PyData.int (i : Nat)) () _ _ fun i hi next brk => ?_]
  · rw [forK]
    unfold P__law_on_l1
    rw [get pre.length a (by rw [e]; simp)]
    simp [h, big_eq, encQ_int]
  · have hi' := List.mem_range.mp hi
    have hy : t[i]? = some pre[i] := by rw [e, List.getElem?_append_left hi', List.getElem?_eq_getElem hi']
    have := h1 _ (List.getElem_mem hi')
    unfold P__law_on_l1
    rw [get i _ hy]
    simp [show ¬ pre[i].n = x by omega]
theorem btw_law {a b : Row} {x u v : Int} : ((u * (b.n - x) + v * (x - a.n) : Int) : Rat) / ((b.n - a.n : Int) : Rat) = btw a b x u v := by
  unfold btw
  congr 2
  grind
theorem lon_mid {t : List Row} (T : Tb t) {x : Int} {pre post : List Row} {a b : Row} (e : t = pre ++ a :: b :: post) (ha : a.n < x) (hb : x < b.n) (h1 : ∀ p ∈ pre, p.n < x) (h2 : ∀ p ∈ post, x < p.n) : F__law_on [encTb t, .int x] = .ok (.tuple [encQ (btw a b x a.r b.r), encQ (btw a b x a.f b.f)]) := by
  have hl := T.len
  have oa := T.ok a (by rw [e]; simp)
  have ob := T.ok b (by rw [e]; simp)
  have hlen : t.length = pre.length + 2 + post.length := by rw [e]; simp; omega
  have rg : rg1 (.int (t.length : Nat)) = .ok ((rng 0 t.length).map PyData.int) := rg1_rng (by omega)
  have rgn : (rng 0 t.length).map PyData.int = (List.range t.length).map fun i => PyData.int (i : Nat) := by
    unfold rng; rw [List.map_map]; simp [Function.comp_def]
  have get : ∀ i (y : Row), t[i]? = some y → ixD (encTb t) (.int (i : Nat)) = .ok (encR y) := fun i y hy => ix_T encR hy
  have cmp : ∀ i, i < t.length → ∃ y : Row, t[i]? = some y ∧ (y.n < x ↔ i < pre.length + 1) ∧ y.n ≠ x := fun i hi => by
    refine ⟨t[i], List.getElem?_eq_getElem hi, ?_⟩
    by_cases c1 : i < pre.length
    · have : t[i] = pre[i] := by simp only [e, List.getElem_append_left c1]
      have := h1 _ (List.getElem_mem c1)
      rw [‹t[i] = pre[i]›]; omega
    · by_cases c2 : i = pre.length
      · subst c2
        have : t[pre.length] = a := by simp [e]
        rw [this]; omega
      · by_cases c3 : i = pre.length + 1
        · subst c3
          have : t[pre.length + 1] = b := by simp [e]
          rw [this]; omega
        · obtain ⟨k, rfl⟩ : ∃ k, i = pre.length + 2 + k := ⟨i - pre.length - 2, by omega⟩
          have hk : k < post.length := by omega
          have : t[pre.length + 2 + k]? = some post[k] := by
            rw [e, List.getElem?_append_right (by omega), show pre.length + 2 + k - pre.length = k + 2 by omega]
            simp
          rw [List.getElem?_eq_getElem hi] at this
          have h3 := h2 _ (List.getElem_mem hk)
          rw [Option.some.inj this]; omega
  have w := fun u v => wb oa.n0 ob.n0 ha hb u v
  have wd := (w 0 0).1
  have wd2 := (w 0 0).2.1
  rw [e__law_on]; unfold P__law_on
  rw [show lenD [encTb t] = .ok (.int (t.length : Nat)) by unfold encTb; rw [a_lenT, List.length_map]]
  rw [R.ok_bind, rg, R.ok_bind, rgn]
  rw [forK_skip (fun i : Nat => PyData.int (i : Nat)) () _ fun i hi next brk => by
    obtain ⟨y, hy, _, hn⟩ := cmp i (List.mem_range.mp hi)
    unfold P__law_on_l1
    rw [get i _ hy]
    simp [hn]]
  rw [R.ok_bind]
  have mx := max_is (xs := (List.range (pre.length + 1)).map fun i : Nat => (i : Int)) (c := (pre.length : Nat)) (List.mem_map.mpr ⟨pre.length, List.mem_range.mpr (by omega), rfl⟩) (fun y hy => by
    obtain ⟨i, hi, rfl⟩ := List.mem_map.mp hy
    have := List.mem_range.mp hi
    omega)
  rw [List.map_map] at mx
  rw [lcP_fil (fun i : Nat => PyData.int (i : Nat)) (fun i => decide (i < pre.length + 1)) (List.range t.length) (by rw [List.length_range]; omega) fun i hi => by
    obtain ⟨y, hy, hc, _⟩ := cmp i (List.mem_range.mp hi)
    rw [get i _ hy]
    have : decide (y.n < x) = decide (i < pre.length + 1) := decide_eq_decide.mpr hc
    simp only [R.ok_bind, ixR0, a_ltI, a_asB, this, R.ok_whn]
    split <;> rfl]
  rw [show (List.range t.length).filter (fun i => decide (i < pre.length + 1)) = List.range (pre.length + 1) by
    rw [hlen, show pre.length + 2 + post.length = (pre.length + 1) + (1 + post.length) by omega, List.range_add, List.filter_append]
    rw [List.filter_eq_self.mpr fun i hi => decide_eq_true (List.mem_range.mp hi), List.filter_eq_nil_iff.mpr fun i hi => by
      obtain ⟨k, _, rfl⟩ := List.mem_map.mp hi
      simp, List.append_nil]]
  rw [show ((List.range (pre.length + 1)).map fun i : Nat => PyData.int (i : Nat)) = (List.range (pre.length + 1)).map (PyData.int ∘ fun i : Nat => (i : Int)) from rfl]
  simp only [R.ok_bind, mx]
  rw [get pre.length a (by rw [e]; simp)]
  have gb : ixD (encTb t) (.int ((pre.length : Nat) + 1 : Int)) = .ok (encR b) := get (pre.length + 1) b (by rw [e]; simp)
  have m1 : ∀ z : Int, mulD (.int z) (.int (b.n - x)) = .ok (.int (z * (b.n - x))) := fun z => mul_r _ _ (by have := oa.n0; have := ob.n0; omega)
  have m2 : ∀ z : Int, mulD (.int z) (.int (x - a.n)) = .ok (.int (z * (x - a.n))) := fun z => mul_r _ _ (by have := oa.n0; have := ob.n0; omega)
  have q1 := low_z (a.r * (b.n - x) + b.r * (x - a.n)) (b.n - a.n) wd (by omega)
  have q2 := low_z (a.f * (b.n - x) + b.f * (x - a.n)) (b.n - a.n) wd (by omega)
  rw [btw_law] at q1 q2
  have r2 : rg1 (.int 2) = .ok [.int 0, .int 1] := by rfl
  have un : ∀ (k : PD → PD → R PD) (y : Row), un2 .bad (encR y) k = k (.int y.n) (encD y.r y.f) := fun _ _ => rfl
  simp [-a_mulI, gb, big_eq, un, r2, lcP, m1, m2, q1, q2]
theorem lon {t : List Row} (T : Tb t) {x : Int} {R F : Rat} (h : RF t x R F) : F__law_on [encTb t, .int x] = .ok (.tuple [encQ R, encQ F]) := by
  cases h with
  | «at» pre a post e h h1 h2 => exact lon_at T.len e h h1
  | mid pre a b post e ha hb h1 h2 => exact lon_mid T e ha hb h1 h2
end K79
namespace K79
open PySem PySem.Spec L2 DL
theorem btw_mul {a b : Row} {x u v : Int} (h : 0 < b.n - a.n) : btw a b x u v * ((b.n - a.n : Int) : Rat) = ((u * (b.n - a.n) + (v - u) * (x - a.n) : Int) : Rat) := by
  unfold btw
  exact Rat.div_mul_cancel (fun z => by have := Rat.intCast_eq_zero_iff.mp z; omega)
/-- rise, fall, light -/
structure LtOk (R F : Rat) : Prop where
  rd : R.den ≤ 400
  fd : F.den ≤ 400
  lo : 0 < F - R
  hi : F - R < ((1440 : Int) : Rat)
theorem RF.ok {t : List Row} (T : Tb t) {x : Int} {R F : Rat} (h : RF t x R F) : LtOk R F := by
  cases h with
  | «at» pre a post e h h1 h2 =>
    have D := (T.ok a (by rw [e]; simp)).dy
    have d0 := D.h0; have d1 := D.h1; have d2 := D.h2
    refine ⟨by rw [Rat.den_intCast]; decide, by rw [Rat.den_intCast]; decide, ?_, ?_⟩
    · rw [← Rat.intCast_sub]
      have := Rat.intCast_lt_intCast.mpr (show (0 : Int) < a.f - a.r by omega)
      simpa using this
    · rw [← Rat.intCast_sub]
      exact Rat.intCast_lt_intCast.mpr (by omega)
  | mid pre a b post e ha hb h1 h2 =>
    have oa := T.ok a (by rw [e]; simp)
    have ob := T.ok b (by rw [e]; simp)
    have na := oa.n0; have nb := ob.n0
    have a0 := oa.dy.h0; have a1 := oa.dy.h1; have a2 := oa.dy.h2
    have b0 := ob.dy.h0; have b1 := ob.dy.h1; have b2 := ob.dy.h2
    have hw : 0 < b.n - a.n := by omega
    have hwr : (0 : Rat) < ((b.n - a.n : Int) : Rat) := by have := Rat.intCast_lt_intCast.mpr hw; simpa using this
    have e1 := btw_mul (a := a) (b := b) (x := x) (u := a.r) (v := b.r) hw
    have e2 := btw_mul (a := a) (b := b) (x := x) (u := a.f) (v := b.f) hw
    have g1 := den_of hw e1
    have g2 := den_of hw e2
    have hs : (btw a b x a.f b.f - btw a b x a.r b.r) * ((b.n - a.n : Int) : Rat) = (((a.f - a.r) * (b.n - x) + (b.f - b.r) * (x - a.n) : Int) : Rat) := by
      rw [Rat.sub_eq_add_neg, Rat.add_mul, Rat.neg_mul, e1, e2, ← Rat.sub_eq_add_neg, ← Rat.intCast_sub]
      congr 1
      grind
    have p1 : 0 < (a.f - a.r) * (b.n - x) := Int.mul_pos (by omega) (by omega)
    have p2 : 0 < (b.f - b.r) * (x - a.n) := Int.mul_pos (by omega) (by omega)
    have q1 : (a.f - a.r) * (b.n - x) < 1440 * (b.n - x) := Int.mul_lt_mul_of_pos_right (by omega) (by omega)
    have q2 : (b.f - b.r) * (x - a.n) < 1440 * (x - a.n) := Int.mul_lt_mul_of_pos_right (by omega) (by omega)
    refine ⟨by omega, by omega, ?_, ?_⟩
    · refine (Rat.mul_lt_mul_right hwr).mp ?_
      rw [hs, Rat.zero_mul]
      have := Rat.intCast_lt_intCast.mpr (show (0 : Int) < (a.f - a.r) * (b.n - x) + (b.f - b.r) * (x - a.n) by omega)
      simpa using this
    · refine (Rat.mul_lt_mul_right hwr).mp ?_
      rw [hs, ← Rat.intCast_mul]
      exact Rat.intCast_lt_intCast.mpr (by omega)
section
variable {t : List Row} (T : Tb t)
/-- days of the table -/
def Day (t : List Row) (x : Int) : Prop := (hd t).n ≤ x ∧ x ≤ (la t).n
open Classical in
noncomputable def rr (t : List Row) (x : Int) : Rat := if h : ∃ R F, RF t x R F then Classical.choose h else 0
open Classical in
noncomputable def ff (t : List Row) (x : Int) : Rat := if h : ∃ R F, RF t x R F then Classical.choose (Classical.choose_spec h) else 0
theorem day_rf {x : Int} {R F : Rat} (h : RF t x R F) : RF t x (rr t x) (ff t x) := by
  have h' : ∃ R F, RF t x R F := ⟨R, F, h⟩
  unfold rr ff
  rw [dif_pos h', dif_pos h']
  exact Classical.choose_spec (Classical.choose_spec h')
include T
theorem Tb.rf {x : Int} (h : Day t x) : RF t x (rr t x) (ff t x) := by
  obtain ⟨R, F, h1, _⟩ := T.day h
  exact day_rf h1
theorem Tb.lon {x : Int} (h : Day t x) : F__law_on [encTb t, .int x] = .ok (.tuple [encQ (rr t x), encQ (ff t x)]) := K79.lon T (T.rf h)
theorem Tb.on {x : Int} (h : Day t x) : F__day_on [encTb t, .int x] = .ok (.tuple [encQ (rr t x), encQ (ff t x)]) := by
  obtain ⟨R, F, h1, h2⟩ := T.day h
  have h3 := K79.lon T h1
  have h4 := T.lon h
  rw [h3] at h4
  rw [h2]; exact h4
theorem Tb.day_on {x : Int} (h : Day t x) : F_day_on [encTb t, .int x] = .ok (.tuple [encQ (rr t x), encQ (ff t x)]) := by
  rw [e_day_on]; unfold P_day_on
  simp [T.chk, T.num h, T.on h]
theorem Tb.lt {x : Int} (h : Day t x) : LtOk (rr t x) (ff t x) := (T.rf h).ok T
omit T in
theorem dd400 {R F : Rat} (h : LtOk R F) : F.den * R.den ≤ 160000 ∧ R.den * F.den ≤ 160000 := ⟨Nat.mul_le_mul h.fd h.rd, Nat.mul_le_mul h.rd h.fd⟩
theorem Tb.light {x : Int} (h : Day t x) : F__light [encTb t, .int x] = .ok (encQ (ff t x - rr t x)) := by
  have m := minus_eq (ff t x) (rr t x) (by have := dd400 (T.lt h); omega)
  rw [e__light]; unfold P__light
  simp [T.on h, m]
end
/-- the law's two numbers of a light -/
noncomputable def up (t : List Row) (x : Int) : Int := (ff t x).num * ((rr t x).den : Nat) - (rr t x).num * ((ff t x).den : Nat)
noncomputable def dn (t : List Row) (x : Int) : Int := ((rr t x).den : Nat) * ((ff t x).den : Nat)
noncomputable def lt (t : List Row) (x : Int) : Rat := ff t x - rr t x
noncomputable def dk (t : List Row) (x : Int) : Rat := ((1440 : Int) : Rat) - lt t x
theorem up_dn (t : List Row) (x : Int) : lt t x * (dn t x : Rat) = (up t x : Rat) := by
  unfold lt up dn
  rw [Rat.intCast_sub, Rat.intCast_mul, Rat.intCast_mul, Rat.intCast_mul]
  have h1 := qden (ff t x)
  have h2 := qden (rr t x)
  grind
section
variable {t : List Row} (T : Tb t) {x : Int} (h : Day t x)
include T h
theorem dn_pos : 0 < dn t x ∧ dn t x ≤ 160000 := by
  have := (dd400 (T.lt h)).2
  unfold dn
  rw [← Int.natCast_mul]
  have := Nat.mul_pos (rr t x).den_pos (ff t x).den_pos
  omega
theorem dnr : (0 : Rat) < (dn t x : Rat) := by have := Rat.intCast_lt_intCast.mpr (dn_pos T h).1; simpa using this
theorem dk_mul : dk t x * (dn t x : Rat) = ((1440 * dn t x - up t x : Int) : Rat) := by
  have := up_dn t x
  unfold dk
  rw [Rat.intCast_sub, Rat.intCast_mul]
  grind
theorem dk_b : 0 < dk t x ∧ dk t x < ((1440 : Int) : Rat) := by
  have l := T.lt h
  have h1 := l.lo
  have h2 := l.hi
  unfold dk lt
  generalize ((1440 : Int) : Rat) = z at *
  grind
theorem need_b : 0 < 1440 * dn t x - up t x ∧ 1440 * dn t x - up t x < 1440 * dn t x := by
  have d := dnr T h
  have b := dk_b T h
  have e := dk_mul T h
  have h1 := (Rat.mul_lt_mul_right d).mpr b.1
  have h2 := (Rat.mul_lt_mul_right d).mpr b.2
  rw [e, Rat.zero_mul] at h1
  rw [e, ← Rat.intCast_mul] at h2
  have h1' : ((0 : Int) : Rat) < ((1440 * dn t x - up t x : Int) : Rat) := h1
  exact ⟨Rat.intCast_lt_intCast.mp h1', Rat.intCast_lt_intCast.mp h2⟩
theorem lt_size (s : Int) : s * dn t x < 1440 * dn t x - up t x ↔ (s : Rat) < dk t x := by
  have d := dnr T h
  rw [← Rat.mul_lt_mul_right d, dk_mul T h, ← Rat.intCast_mul, Rat.intCast_lt_intCast]
theorem half_eq : up t x = 720 * dn t x ↔ lt t x = ((720 : Int) : Rat) := by
  have d := dnr T h
  have e := up_dn t x
  constructor
  · intro z
    have : lt t x * (dn t x : Rat) = ((720 : Int) : Rat) * (dn t x : Rat) := by rw [e, z, Rat.intCast_mul]
    have hd : (dn t x : Rat) ≠ 0 := Rat.ne_of_gt d
    grind
  · intro z
    rw [z, ← Rat.intCast_mul] at e
    exact (Rat.intCast_inj.mp e).symm
theorem dk_den : (dk t x).den ≤ 160000 := by
  have := den_of (dn_pos T h).1 (dk_mul T h)
  have := (dn_pos T h).2
  omega
theorem dk_num : 0 < (dk t x).num ∧ (dk t x).num ≤ 1440 * dn t x - up t x := by
  have e : dk t x = ((1440 * dn t x - up t x : Int) : Rat) / (dn t x : Rat) := by
    rw [← dk_mul T h, Rat.mul_div_cancel (Rat.ne_of_gt (dnr T h))]
  have := num_div (1440 * dn t x - up t x) (dn t x) (by have := (need_b T h).1; omega) (dn_pos T h).1
  rw [← e] at this
  exact ⟨num_of_pos (dk_b T h).1, this.2⟩
theorem dark_eq : F_minus [.tuple [.int 1440, .int 1], encQ (lt t x)] = .ok (encQ (dk t x)) := by
  have hd := (T.lt h)
  have hl : (lt t x).den ≤ 160000 := by
    have := den_of (dn_pos T h).1 (up_dn t x)
    have := (dn_pos T h).2
    omega
  have m := minus_eq ((1440 : Int) : Rat) (lt t x) (by rw [Rat.den_intCast]; omega)
  exact m
end
end K79
namespace K79
open PySem PySem.Spec L2 DL
noncomputable def encLt (t : List Row) (x : Int) : PD := .tuple [.int (up t x), .int (dn t x)]
theorem l4_st {tb : PD} {x u0 u1 w0 w1 : Int} {l : List PD} {next brk : List PD → R PD} (h1 : F__law_on [tb, .int x] = .ok (.tuple [.tuple [.int u0, .int u1], .tuple [.int w0, .int w1]])) (h2 : F_day_on [tb, .int x] = .ok (.tuple [.tuple [.int u0, .int u1], .tuple [.int w0, .int w1]]))
    (m1 : mulD (.int w0) (.int u1) = .ok (.int (w0 * u1))) (m2 : mulD (.int u0) (.int w1) = .ok (.int (u0 * w1))) (m3 : mulD (.int u1) (.int w1) = .ok (.int (u1 * w1))) (hl : l.length < big) : P_law_l4 tb (.int x) l next brk = next (l ++ [.tuple [.int (w0 * u1 - u0 * w1), .int (u1 * w1)]]) := by
  have nt : neD (.tuple [.tuple [.int u0, .int u1], .tuple [.int w0, .int w1]]) (.tuple [.tuple [.int u0, .int u1], .tuple [.int w0, .int w1]]) = .ok (.bool false) := ne_refl rfl (by simp [PyData.depth, PyData.depthAll])
  unfold P_law_l4
  simp [-a_mulI, h1, h2, m1, m2, m3, nt, big_eq]
  rw [appK_lt hl]
section
variable {t : List Row} (T : Tb t)
include T
theorem l4_go {x : Int} (h : Day t x) {l : List PD} {next brk : List PD → R PD} (hl : l.length < big) : P_law_l4 (encTb t) (.int x) l next brk = next (l ++ [encLt t x]) := by
  have L := T.lt h
  have h1 := L.rd
  have h2 := L.fd
  exact l4_st (T.lon h) (T.day_on h) (dmul _ (by omega) _) (dmul _ (by omega) _) (dmul _ (by omega) _) hl
/-- all days -/
def nums (t : List Row) : List Int := rng (hd t).n ((la t).n + 1 - (hd t).n).toNat
omit T in
theorem mem_nums {x : Int} : x ∈ nums t ↔ Day t x := by
  unfold nums Day
  rw [mem_rng]; omega
theorem Tb.hdla : (hd t).n ≤ (la t).n ∧ 0 ≤ (hd t).n ∧ (la t).n ≤ 400 := by
  have h1 := (T.ok _ (hd_mem T.ne)).n0
  obtain ⟨pre, e⟩ := la_eq T.ne
  have hm : la t ∈ pre ++ [la t] := List.mem_append_right _ (List.mem_singleton.mpr rfl)
  have hm2 : la t ∈ t := by rwa [← e] at hm
  have h2 := (T.ok (la t) hm2).n0
  refine ⟨?_, h1.1, h2.2⟩
  generalize la t = z at *
  cases pre with
  | nil => rw [e]; exact Int.le_refl _
  | cons p pre =>
    have so := T.so
    rw [e] at so
    have h5 := (List.pairwise_cons.mp so).1 z (by simp)
    have h6 : hd t = p := by rw [e]; rfl
    rw [h6]; omega
theorem nums_len : (nums t).length ≤ 401 := by
  have := T.hdla
  unfold nums
  rw [rng_len]; omega
theorem nums_rg : ((((ixD (encTb t) (.int 0)).bind fun a_2 => ixD a_2 (.int 0)).bind fun a_3 => ((((negD (.int 1)).bind (ixD (encTb t))).bind fun a_5 => ixD a_5 (.int 0)).bind fun a_6 => addD a_6 (.int 1)).bind (rgI2 a_3)).bind rgLst) = .ok ((nums t).map PyData.int) := by
  have := T.hdla
  simp only [ix_hd T.ne, ix_la T.ne, neg1, R.ok_bind, ixR0, a_addI, a_rgI2]
  rw [rgI_ok (by omega) (by omega) (by omega)]; rfl
theorem nums_rg2 : (((ixD (encTb t) (.int 0)).bind fun a_2 => ixD a_2 (.int 0)).bind fun a_3 => ((((negD (.int 1)).bind (ixD (encTb t))).bind fun a_5 => ixD a_5 (.int 0)).bind fun a_6 => addD a_6 (.int 1)).bind (rg2 a_3)) = .ok ((nums t).map PyData.int) := by
  have := T.hdla
  simp only [ix_hd T.ne, ix_la T.ne, neg1, R.ok_bind, ixR0, a_addI]
  rw [rg2_ok (by omega) (by omega) (by omega)]; rfl
omit T in
theorem eqQ_int (a : Rat) (n : Int) : eqD (encQ a) (.tuple [.int n, .int 1]) = .ok (.bool (decide (a = (n : Rat)))) := eqQ a (n : Rat)
theorem even_eq : F_even_days [encTb t] = .ok (.tuple (((nums t).filter fun x => decide (up t x = 720 * dn t x)).map PyData.int)) := by
  have hl := nums_len T
  rw [e_even_days]; unfold P_even_days
  rw [T.chk, R.ok_bind, nums_rg T, R.ok_bind, R.ok_bind, a_itL, R.ok_bind]
  rw [lcP_fil PyData.int (fun x => decide (up t x = 720 * dn t x)) _ (by omega) fun x hx => by
    have h := mem_nums.mp hx
    rw [T.light h]
    have e : decide (ff t x - rr t x = ((720 : Int) : Rat)) = decide (up t x = 720 * dn t x) := decide_eq_decide.mpr (half_eq T h).symm
    rw [R.ok_bind, eqQ_int, e]
    simp only [R.ok_bind, a_asB, R.ok_whn]
    split <;> rfl]
  rfl
/-- .. as the law finds them -/
theorem even_law : ((((lenD [.list ((nums t).map PyData.int)]).bind rg1).bind fun items_588 => lcP items_588 fun k_589 => ((((ixD (.list ((nums t).map (encLt t))) k_589).bind fun a_590 => ixD a_590 (.int 0)).bind fun a_591 => (((ixD (.list ((nums t).map (encLt t))) k_589).bind fun a_592 => ixD a_592 (.int 1)).bind (mulD (.int 720))).bind (eqD a_591)).bind asB).whn ((ixD (.list ((nums t).map PyData.int)) k_589).sm)).bind fun l_595 => R.ok (PyData.list l_595)) = .ok (.list (((nums t).filter fun x => decide (up t x = 720 * dn t x)).map PyData.int)) := by
  have hl := nums_len T
  rw [a_lenL, List.length_map, R.ok_bind, rg1_rng (by omega), R.ok_bind]
  have hr : (rng 0 (nums t).length).map PyData.int = (List.range (nums t).length).map fun i : Nat => PyData.int (i : Nat) := by
    unfold rng; rw [List.map_map]; simp [Function.comp_def]
  have get : ∀ i, i < (nums t).length → (nums t)[i]? = some ((nums t).getD i 0) := fun i hi => by
    rw [List.getD_eq_getElem?_getD, List.getElem?_eq_getElem hi]; rfl
  rw [hr, lcP_fm (fun i : Nat => PyData.int (i : Nat)) PyData.int (fun i => decide (up t ((nums t).getD i 0) = 720 * dn t ((nums t).getD i 0))) (fun i => (nums t).getD i 0) _ (by rw [List.length_range]; omega) fun i hi => by
    have g := get i (List.mem_range.mp hi)
    rw [ix_L (encLt t) g, ix_L PyData.int g]
    have m := mul_l 720 (dn t ((nums t).getD i 0)) (by decide)
    simp only [encLt, R.ok_bind, a_ixT, atI_z, atI_o, m, a_eqI, a_asB, R.ok_whn, R.ok_sm]
    split <;> rfl]
  rw [R.ok_bind]
  have : ((List.range (nums t).length).map fun i => (nums t).getD i 0) = nums t := by
    apply List.ext_getElem?
    intro i
    rw [List.getElem?_map]
    by_cases hi : i < (nums t).length
    · rw [List.getElem?_range hi, get i hi]; rfl
    · rw [List.getElem?_eq_none (by rw [List.length_range]; omega), List.getElem?_eq_none (by omega)]; rfl
  have e2 := List.filter_map (f := fun i => (nums t).getD i 0) (p := fun x => decide (up t x = 720 * dn t x)) (l := List.range (nums t).length)
  rw [this] at e2
  rw [e2]; rfl
end
end K79
namespace K79
open PySem PySem.Spec L2 DL
section
variable {t : List Row} (T : Tb t)
include T
/-- the greatest darkness -/
structure Gd (t : List Row) (q : Rat) : Prop where
  ex : ∃ x, Day t x ∧ q = dk t x
  mx : ∀ x, Day t x → dk t x ≤ q
theorem l_short {tb : PD} {x : Int} {q a d : PD} {b : Bool} {next brk : PD → R PD} (h1 : F__light [tb, .int x] = .ok a) (h2 : F_minus [.tuple [.int 1440, .int 1], a] = .ok d) (h3 : F_is_less [q, d] = .ok (.bool b)) : P_shortest_candle_l1 tb (.int x) q next brk = next (if b then d else q) := by
  unfold P_shortest_candle_l1
  cases b <;> simp [h1, h2, h3]
theorem short_eq : ∃ q, Gd t q ∧ F_shortest_candle [encTb t] = .ok (.int ((q.num + (q.den : Nat) - 1) / (q.den : Nat))) := by
  have hl := nums_len T
  have hdla := T.hdla
  rw [e_shortest_candle]; unfold P_shortest_candle
  rw [T.chk, R.ok_bind, nums_rg2 T, R.ok_bind]
  obtain ⟨s, ⟨q, rfl, hq1, hq2⟩, e⟩ := forK_inv (body := P_shortest_candle_l1 (encTb t)) (k := fun s_29 => (((ixD s_29 (.int 0)).bind fun a_32 => (ixD s_29 (.int 1)).bind (addD a_32)).bind fun a_34 => subD a_34 (.int 1)).bind fun a_35 => (ixD s_29 (.int 1)).bind (fdivD a_35)) PyData.int
    (fun j s => ∃ q, s = encQ q ∧ (q = 0 ∨ ∃ x, Day t x ∧ q = dk t x) ∧ ∀ i x, i < j → (nums t)[i]? = some x → dk t x ≤ q) (nums t) (s := .tuple [.int 0, .int 1]) ⟨0, rfl, .inl rfl, fun i x h => absurd h (Nat.not_lt_zero _)⟩
    (fun j x s next brk hj ⟨q, hs, h1, h2⟩ => by
      subst hs
      have hx := mem_nums.mp (List.mem_of_getElem? hj)
      have hd := dk_den T hx
      have hqd : q.den ≤ 160000 := by
        rcases h1 with rfl | ⟨y, hy, rfl⟩
        · decide
        · exact dk_den T hy
      have le := less_eq q (dk t x) (by omega) (by omega)
      refine ⟨_, ?_, l_short T (T.light hx) (dark_eq T hx) le⟩
      by_cases c : q < dk t x
      · refine ⟨dk t x, by simp [c], .inr ⟨x, hx, rfl⟩, fun i y hi hy => ?_⟩
        by_cases hij : i = j
        · subst hij; rw [hj] at hy; cases hy; exact Rat.le_refl
        · exact Rat.le_trans (h2 i y (by omega) hy) (Rat.le_of_lt c)
      · refine ⟨q, by simp [c], h1, fun i y hi hy => ?_⟩
        by_cases hij : i = j
        · subst hij; rw [hj] at hy; cases hy; exact Rat.not_lt.mp c
        · exact h2 i y (by omega) hy)
  rw [e]
  have mx : ∀ x, Day t x → dk t x ≤ q := fun x hx => by
    obtain ⟨i, hi⟩ := List.mem_iff_getElem?.mp (mem_nums.mpr hx)
    exact hq2 i x (List.getElem?_eq_some_iff.mp hi).1 hi
  have d0 : Day t (hd t).n := ⟨Int.le_refl _, hdla.1⟩
  have hq : ∃ x, Day t x ∧ q = dk t x := by
    rcases hq1 with rfl | h
    · exact absurd (mx _ d0) (Rat.not_le.mpr (dk_b T d0).1)
    · exact h
  refine ⟨q, ⟨hq, mx⟩, ?_⟩
  obtain ⟨y, hy, rfl⟩ := hq
  have hd := dk_den T hy
  have hp := den_p (dk t y)
  simp only [ixQ0, ixQ1, R.ok_bind, a_addI, a_subI, a_divI]
  rw [chk_of (decide_eq_true ⟨hp, by omega⟩)]
omit T in
/-- the least whole number that is not less -/
theorem ceil_is (q : Rat) (s : Int) : ((q.num + (q.den : Nat) - 1) / (q.den : Nat) ≤ s ↔ q ≤ (s : Rat)) := by
  have hp := den_p q
  have : q ≤ (s : Rat) ↔ q.num ≤ s * (q.den : Nat) := by
    rw [Rat.le_iff, Rat.num_intCast, Rat.den_intCast]; simp
  rw [this]
  constructor
  · intro h
    have h1 := (Int.ediv_lt_iff_lt_mul hp).mp (show (q.num + (q.den : Nat) - 1) / (q.den : Nat) < s + 1 by omega)
    rw [Int.add_mul] at h1; omega
  · intro h
    have : (q.num + (q.den : Nat) - 1) / (q.den : Nat) < s + 1 := (Int.ediv_lt_iff_lt_mul hp).mpr (by rw [Int.add_mul]; omega)
    omega
theorem short_law {q : Rat} (G : Gd t q) : ((((rg1 (.int 1441)).bind fun items_605 => lcP items_605 fun size_606 => ((((((((lenD [.list ((nums t).map PyData.int)]).bind rg1).bind fun items_607 => lcP items_607 fun k_608 => ((((ixD (.list ((nums t).map (encLt t))) k_608).bind fun a_609 => ixD a_609 (.int 1)).bind (mulD size_606)).bind fun a_611 => (ixD (.list ((nums t).map fun x => .int (1440 * dn t x - up t x))) k_608).bind (ltD a_611)).sm).bind fun l_613 => R.ok (PyData.list l_613)).bind fun a_614 => R.ok [a_614]).bind anyD).bind tru).bind fun b_615 => .ok (!b_615)).whn (.ok (some size_606))).bind fun l_616 => R.ok (PyData.list l_616)).bind fun a_617 => .ok [a_617]).bind minD1 = .ok (.int ((q.num + (q.den : Nat) - 1) / (q.den : Nat))) := by
  have hl := nums_len T
  have hr : (rng 0 (nums t).length).map PyData.int = (List.range (nums t).length).map fun i : Nat => PyData.int (i : Nat) := by
    unfold rng; rw [List.map_map]; simp [Function.comp_def]
  have get : ∀ i, i < (nums t).length → (nums t)[i]? = some ((nums t).getD i 0) := fun i hi => by
    rw [List.getD_eq_getElem?_getD, List.getElem?_eq_getElem hi]; rfl
  have rg : rg1 (.int 1441) = .ok ((rng 0 1441).map PyData.int) := rg1_rng (n := 1441) (by decide)
  rw [rg, R.ok_bind]
  rw [lcP_fil PyData.int (fun s => decide (q ≤ (s : Rat))) _ (by rw [rng_len]; decide) fun s hs => by
    have hs := mem_rng.mp hs
    rw [a_lenL, List.length_map, R.ok_bind, rg1_rng (by omega), R.ok_bind, hr, lcP_all (fun i : Nat => PyData.int (i : Nat)) PyData.bool (fun i => decide (s * dn t ((nums t).getD i 0) < 1440 * dn t ((nums t).getD i 0) - up t ((nums t).getD i 0))) _ (by rw [List.length_range]; omega) fun i hi => by
      have g := get i (List.mem_range.mp hi)
      rw [ix_L (encLt t) g, ix_L (fun x => PyData.int (1440 * dn t x - up t x)) g]
      have m := mul_l s (dn t ((nums t).getD i 0)) (by omega)
      simp only [encLt, R.ok_bind, a_ixT, atI_z, atI_o, m, a_ltI, R.ok_sm]]
    simp only [R.ok_bind, any_bools, a_truB, R.ok_whn]
    have e : (!((List.range (nums t).length).map fun i => decide (s * dn t ((nums t).getD i 0) < 1440 * dn t ((nums t).getD i 0) - up t ((nums t).getD i 0))).any id) = decide (q ≤ (s : Rat)) := by
      have key : (((List.range (nums t).length).map fun i => decide (s * dn t ((nums t).getD i 0) < 1440 * dn t ((nums t).getD i 0) - up t ((nums t).getD i 0))).any id = true) ↔ ¬ q ≤ (s : Rat) := by
        rw [List.any_map, List.any_eq_true]
        constructor
        · rintro ⟨i, hi, h⟩
          have g := get i (List.mem_range.mp hi)
          have hx := mem_nums.mp (List.mem_of_getElem? g)
          have h2 := (lt_size T hx s).mp (of_decide_eq_true h)
          exact fun z => absurd h2 (Rat.not_lt.mpr (Rat.le_trans (G.mx _ hx) z))
        · intro h
          obtain ⟨x, hx, e⟩ := G.ex
          obtain ⟨i, hi⟩ := List.mem_iff_getElem?.mp (mem_nums.mpr hx)
          have hi2 := (List.getElem?_eq_some_iff.mp hi).1
          have g := get i hi2
          rw [hi] at g
          have ge := Option.some.inj g
          refine ⟨i, List.mem_range.mpr hi2, decide_eq_true ?_⟩
          rw [← ge]
          rw [e] at h
          exact (lt_size T hx s).mpr (Rat.not_le.mp h)
      by_cases hq : q ≤ (s : Rat)
      · rw [decide_eq_true hq, Bool.eq_false_iff.mpr fun z => key.mp z hq]; rfl
      · rw [decide_eq_false hq, key.mpr hq]; rfl
    rw [e]
    split <;> rfl]
  simp only [R.ok_bind]
  obtain ⟨x, hx, e⟩ := G.ex
  have b := dk_b T hx
  rw [← e] at b
  have c0 : 0 ≤ (q.num + (q.den : Nat) - 1) / (q.den : Nat) := Int.ediv_nonneg (by have := num_of_pos b.1; have := den_p q; omega) (by have := den_p q; omega)
  have c1 := (ceil_is q 1440).mpr (Rat.le_of_lt b.2)
  refine min_is (List.mem_filter.mpr ⟨mem_rng.mpr (by omega), decide_eq_true ((ceil_is q _).mp (Int.le_refl _))⟩) fun y hy => ?_
  have := List.mem_filter.mp hy
  exact (ceil_is q y).mpr (of_decide_eq_true this.2)
/-! the longest day -/
def len (x : Row) : Int := x.f - x.r
omit T in
theorem best_go : ∀ (ts : List Row) (b : Row), ∃ j : Nat, (b :: ts)[j]? = some (ts.foldl (fun s r => if len r > len s then r else s) b) ∧ (∀ y ∈ b :: ts, len y ≤ len (ts.foldl (fun s r => if len r > len s then r else s) b)) ∧ ∀ (m : Nat) (y : Row), m < j → (b :: ts)[m]? = some y → len y < len (ts.foldl (fun s r => if len r > len s then r else s) b)
  | [], b => ⟨0, rfl, fun y hy => by rw [List.mem_singleton.mp hy]; exact Int.le_refl _, fun m y h => absurd h (Nat.not_lt_zero _)⟩
  | r :: ts, b => by
    rw [List.foldl_cons]
    by_cases c : len r > len b
    · rw [if_pos c]
      obtain ⟨j, h1, h2, h3⟩ := best_go ts r
      have hr := h2 r List.mem_cons_self
      refine ⟨j + 1, by simpa using h1, fun y hy => ?_, fun m y hm hy => ?_⟩
      · rcases List.mem_cons.mp hy with rfl | hy
        · omega
        · exact h2 y hy
      · cases m with
        | zero => simp at hy; subst hy; omega
        | succ m => exact h3 m y (by omega) (by simpa using hy)
    · rw [if_neg c]
      obtain ⟨j, h1, h2, h3⟩ := best_go ts b
      have hb := h2 b List.mem_cons_self
      cases j with
      | zero =>
        refine ⟨0, by simpa using h1, fun y hy => ?_, fun m y hm => absurd hm (Nat.not_lt_zero _)⟩
        rcases List.mem_cons.mp hy with rfl | hy
        · exact hb
        · rcases List.mem_cons.mp hy with rfl | hy
          · omega
          · exact h2 y (List.mem_cons_of_mem _ hy)
      | succ j =>
        have hb2 := h3 0 b (by omega) rfl
        refine ⟨j + 2, by simpa using h1, fun y hy => ?_, fun m y hm hy => ?_⟩
        · rcases List.mem_cons.mp hy with rfl | hy
          · exact hb
          · rcases List.mem_cons.mp hy with rfl | hy
            · omega
            · exact h2 y (List.mem_cons_of_mem _ hy)
        · cases m with
          | zero => simp at hy; subst hy; exact hb2
          | succ m =>
            cases m with
            | zero => simp at hy; subst hy; omega
            | succ m => exact h3 (m + 1) y (by omega) (by simpa using hy)
theorem longest_eq : ∃ (j : Nat) (y : Row), F_longest [encTb t] = .ok (.int y.n) ∧ t[j]? = some y ∧ maxD1 [.list ((t.map len).map PyData.int)] = .ok (.int (len y)) ∧ indexD ((t.map len).map PyData.int) [.int (len y)] = .ok (.int (j : Nat)) := by
  obtain ⟨b, ts, e⟩ : ∃ b ts, t = b :: ts := by
    cases t with
    | nil => exact absurd rfl T.ne
    | cons b ts => exact ⟨b, ts, rfl⟩
  obtain ⟨j, h1, h2, h3⟩ := best_go ts b
  refine ⟨j, _, ?_, by rw [e]; exact h1, ?_, ?_⟩
  · have s1 := sl_dropT encR t 1
    rw [e_longest]; unfold P_longest
    rw [T.chk, R.ok_bind, ix_hd T.ne, R.ok_bind, show (some (1 : Int)) = some ((1 : Nat) : Int) from rfl, show encTb t = .tuple (t.map encR) from rfl, s1, R.ok_bind, a_itT, R.ok_bind]
    rw [e]
    show forK P_longest_l1 (ts.map encR) (encR b) _ = _
    rw [forK_fold encR encR (fun s r => if len r > len s then r else s) ts b fun x hx s next brk => by
      unfold P_longest_l1
      by_cases c : len x > len s
      · have c' : s.f - s.r < x.f - x.r := c
        simp [c, c']
      · have c' : ¬ s.f - s.r < x.f - x.r := c
        simp [c, c']]
    rfl
  · refine max_is (List.mem_map.mpr ⟨_, by rw [e]; exact List.mem_of_getElem? h1, rfl⟩) fun z hz => ?_
    obtain ⟨y, hy, rfl⟩ := List.mem_map.mp hz
    rw [e] at hy
    exact h2 y hy
  · refine index_is (by rw [List.getElem?_map, e, h1]; rfl) fun m hm hq => ?_
    rw [List.getElem?_map, e] at hq
    cases hy : (b :: ts)[m]? with
    | none => rw [hy] at hq; cases hq
    | some y =>
      rw [hy] at hq
      have := h3 m y hm hy
      have h5 := Option.some.inj hq
      omega
/-! the hours of a candle -/
theorem candle_st {tb : PD} {x s : Int} {a d h : PD} {b : Bool} (h1 : F__check_table [tb] = .ok .none) (h2 : F__check_number [tb, .int x] = .ok .none) (hs : 1 ≤ s ∧ s ≤ 1440) (h3 : F__light [tb, .int x] = .ok a) (h4 : F_minus [.tuple [.int 1440, .int 1], a] = .ok d) (h5 : F_over [.tuple [.int (s * 12), .int 1], d] = .ok h)
    (h6 : F_is_less [h, .tuple [.int 12, .int 1]] = .ok (.bool b)) : F_candle_hours [tb, .int x, .int s] = .ok (if b then h else .tuple [.int 12, .int 1]) := by
  have m := mul_r s 12 (by decide)
  rw [e_candle_hours]; unfold P_candle_hours
  cases b <;> simp [-a_mulI, h1, h2, whole_eq, hs.1, hs.2, h3, h4, m, h5, h6, big_eq]
theorem candle_eq {x s : Int} (h : Day t x) (hs : 1 ≤ s ∧ s ≤ 1440) : ∃ q : Rat, F_candle_hours [encTb t, .int x, .int s] = .ok (if q < ((12 : Int) : Rat) then encQ q else .tuple [.int 12, .int 1]) ∧ F__law_lowest [.int (12 * s * dn t x), .int (1440 * dn t x - up t x)] = .ok (encQ q) ∧ q.den < 1000000000 := by
  have d := dnr T h
  have dp := dn_pos T h
  have nb := need_b T h
  have kb := dk_b T h
  have kn := dk_num T h
  refine ⟨((12 * s * dn t x : Int) : Rat) / ((1440 * dn t x - up t x : Int) : Rat), ?_, ?_, ?_⟩
  · have e : ((12 * s * dn t x : Int) : Rat) / ((1440 * dn t x - up t x : Int) : Rat) = ((s * 12 : Int) : Rat) / dk t x := by
      have h1 := dk_mul T h
      rw [← h1, Rat.intCast_mul, show 12 * s = s * 12 by omega]
      have k0 := Rat.ne_of_gt kb.1
      have d0 := Rat.ne_of_gt d
      generalize ((s * 12 : Int) : Rat) = u at *
      generalize (dn t x : Rat) = v at *
      generalize dk t x = w at *
      grind
    have ov := over_eq ((s * 12 : Int) : Rat) (dk t x) kn.1 (by rw [Rat.den_intCast]; omega) (by have := dk_den T h; omega)
    rw [← e] at ov
    have hd := den_div (12 * s * dn t x) (1440 * dn t x - up t x) nb.1
    have le := less_eq (((12 * s * dn t x : Int) : Rat) / ((1440 * dn t x - up t x : Int) : Rat)) ((12 : Int) : Rat) (by omega) (by decide)
    have := candle_st T T.chk (T.num h) hs (T.light h) (dark_eq T h) ov le
    rw [this]
    congr 1
    by_cases c : ((12 * s * dn t x : Int) : Rat) / ((1440 * dn t x - up t x : Int) : Rat) < ((12 : Int) : Rat) <;> simp [c]
  · exact low_z _ _ nb.1 (by omega)
  · have hd := den_div (12 * s * dn t x) (1440 * dn t x - up t x) nb.1
    omega
end
end K79
namespace K79
open PySem PySem.Spec L2 DL
theorem refuses_ok : F__law_refuses [] = .ok (.bool true) := by kernel_rfl
end K79
namespace K79
open PySem PySem.Spec L2 DL
theorem l3_st {dr : PD} {k v37 v41 n f : Int} {rows : List PD} {next brk : List PD × PD → R PD} (d37 : ixD dr (.int (37 + k)) = .ok (.int v37)) (d41 : ixD dr (.int (41 + k)) = .ok (.int v41)) (hf : ixD (.list [.int (1440 - (300 + v37 % 13 * 10)), .int (300 + v37 % 13 * 10 + 720)]) (.int (v41 % 2)) = .ok (.int f)) (hl : rows.length < big) :
    P_law_l3 dr (.int k) (rows, .int n) next brk = next (rows ++ [encR ⟨n, 300 + v37 % 13 * 10, f⟩], .int (n + 1 + v41 / 2 % 9)) := by
  have m := mul_r (v37 % 13) 10 (by decide)
  unfold P_law_l3
  simp only [d37, d41, R.ok_bind, a_addI, a_int, a_modI, Int.reduceLT, decide_true, chk_t, m, a_subI, hf, a_mkL, a_mkT, big_eq, List.length_cons, List.length_nil, Nat.reduceAdd, Nat.reduceLeDiff, appK_lt hl, a_divI, and_self]
  rfl
theorem l5_st {dr nb nd : PD} {lts : List PD} {tb : PD} {k v45 v48 ln x up dn : Int} {h0 h1 : Int} {b : Bool} {next brk : Unit → R PD} (hk : 0 < 1 + k ∧ 1 + k < 100) (d45 : ixD dr (.int (45 + k)) = .ok (.int v45)) (d48 : ixD dr (.int 48) = .ok (.int v48)) (hln : lenD [nb] = .ok (.int ln)) (hl0 : 0 < ln)
    (e1 : ixD (.list lts) (.int (v48 / (1 + k) % ln)) = .ok (.tuple [.int up, .int dn])) (e2 : ixD nd (.int (v48 / (1 + k) % ln)) = .ok (.int (1440 * dn - up))) (e3 : ixD nb (.int (v48 / (1 + k) % ln)) = .ok (.int x)) (m1 : mulD (.int (12 * (1 + v45 % 1440))) (.int dn) = .ok (.int (12 * (1 + v45 % 1440) * dn)))
    (el : F__law_lowest [.int (12 * (1 + v45 % 1440) * dn), .int (1440 * dn - up)] = .ok (.tuple [.int h0, .int h1])) (ec : F_candle_hours [tb, .int x, .int (1 + v45 % 1440)] = .ok (if b then .tuple [.int h0, .int h1] else .tuple [.int 12, .int 1])) (hb : b = decide (h0 < 12 * h1)) (m2 : mulD (.int 12) (.int h1) = .ok (.int (12 * h1))) :
    P_law_l5 dr tb nb lts nd (.int k) () next brk = next () := by
  have m0 := mul_l 12 (1 + v45 % 1440) (by decide)
  have n1 : ∀ u v : Int, neD (.tuple [.int u, .int v]) (.tuple [.int u, .int v]) = .ok (.bool false) := fun u v => ne_refl rfl (by simp [PyData.depth, PyData.depthAll])
  unfold P_law_l5
  simp only [d45, d48, R.ok_bind, a_addI, a_int, a_modI, Int.reduceLT, decide_true, chk_t, a_divI, hk, hln, hl0, m0, e1, e2, e3, a_ixT, atI_z, atI_o, m1, el, ec, m2, a_ltI, a_asB, ← hb, List.length_cons, List.length_nil, Nat.reduceAdd, BEq.rfl, show 1 + k < 1073741824 by omega, and_self]
  cases b <;> simp [n1]
structure Bld (j : Nat) (rows : List Row) (num : Int) : Prop where
  len : rows.length = j
  ok : ∀ x ∈ rows, RowOk x ∧ x.n < num
  so : rows.Pairwise fun a b => a.n < b.n
  nb : 0 ≤ num ∧ num ≤ 19 + 9 * j
theorem build {ds : List Int} (hl50 : ds.length = 50) (ho : DrawOk ds) {n : Nat} (hn : 1 ≤ n ∧ n ≤ 4) {v : Int} (hv : 0 ≤ v ∧ v ≤ 19) : ∃ (t : List Row) (num : Int), Tb t ∧ ∀ k, forK (P_law_l3 (.list (ds.map PyData.int))) ((rng 0 n).map PyData.int) ([], .int v) k = k (t.map encR, .int num) := by
  obtain ⟨s, ⟨t, num, rfl, B⟩, e⟩ := forK_invA (body := P_law_l3 (.list (ds.map PyData.int))) PyData.int (fun j s => ∃ rows num, s = (List.map encR rows, PyData.int num) ∧ Bld j rows num) (rng 0 n) (s := ([], .int v))
    ⟨[], _, rfl, rfl, fun x hx => (nomatch hx), List.Pairwise.nil, by omega, by omega⟩ (fun j x s hj ⟨rows, num, hs, B⟩ => by
      subst hs
      have hj2 := (List.getElem?_eq_some_iff.mp hj).1
      rw [rng_len] at hj2
      rw [rng_get hj2] at hj
      cases hj
      obtain ⟨v37, d37, b37⟩ := dr_ix hl50 ho (37 + (0 + (j : Int))) (by omega)
      obtain ⟨v41, d41, b41⟩ := dr_ix hl50 ho (41 + (0 + (j : Int))) (by omega)
      have hf : ∃ f, ixD (.list [.int (1440 - (300 + v37 % 13 * 10)), .int (300 + v37 % 13 * 10 + 720)]) (.int (v41 % 2)) = .ok (.int f) ∧ 300 + v37 % 13 * 10 < f ∧ f ≤ 1439 := by
        rcases (show v41 % 2 = 0 ∨ v41 % 2 = 1 by omega) with h | h
        · exact ⟨1440 - (300 + v37 % 13 * 10), by rw [h]; rfl, by omega, by omega⟩
        · exact ⟨300 + v37 % 13 * 10 + 720, by rw [h]; rfl, by omega, by omega⟩
      obtain ⟨f, hf, hf1, hf2⟩ := hf
      refine ⟨_, ⟨rows ++ [⟨num, 300 + v37 % 13 * 10, f⟩], num + 1 + v41 / 2 % 9, by rw [List.map_append]; rfl, by rw [List.length_append, B.len]; rfl, fun x hx => ?_, ?_, by have := B.nb; omega, by have := B.nb; omega⟩, fun next brk => l3_st d37 d41 hf (by rw [List.length_map, B.len, big_eq]; omega)⟩
      · have nb := B.nb
        rcases List.mem_append.mp hx with hx | hx
        · have := B.ok x hx
          exact ⟨this.1, by omega⟩
        · rw [List.mem_singleton.mp hx]
          exact ⟨⟨⟨nb.1, by show num ≤ 400; omega⟩, ⟨by show 0 ≤ 300 + v37 % 13 * 10; omega, hf1, hf2⟩⟩, by show num < _; omega⟩
      · rw [List.pairwise_append]
        refine ⟨B.so, List.pairwise_singleton _ _, fun a ha b hb => ?_⟩
        rw [List.mem_singleton.mp hb]
        exact (B.ok a ha).2)
  have hl := B.len
  rw [rng_len] at hl
  refine ⟨t, num, ⟨fun z => ?_, by omega, fun x hx => (B.ok x hx).1, B.so⟩, e⟩
  rw [z] at hl
  simp at hl
  omega
theorem law_main {ds : List Int} (hl50 : ds.length = 50) (ho : DrawOk ds) {ns : List Int} (hd : F__law_draws ns 50 = .ok (.list (ds.map PyData.int))) : P_law ns = .ok (.bool true) := by
  unfold P_law
  rw [hd, R.ok_nx, R.ok_bind]
  have rg5 : rg1 (.int 5) = .ok ((rng 0 5).map PyData.int) := rg1_rng (n := 5) (by decide)
  have rg3 : rg1 (.int 3) = .ok ((rng 0 3).map PyData.int) := rg1_rng (n := 3) (by decide)
  rw [rg5, R.ok_bind, forK_skip PyData.int () _ fun x hx next brk => l2_go hl50 ho (by have := mem_rng.mp hx; omega) next brk]
  obtain ⟨v35, d35, b35⟩ := dr_ix hl50 ho 35 (by omega)
  obtain ⟨v36, d36, b36⟩ := dr_ix hl50 ho 36 (by omega)
  obtain ⟨v48, d48, b48⟩ := dr_ix hl50 ho 48 (by omega)
  obtain ⟨n, hn⟩ : ∃ n : Nat, 1 + v36 % 4 = (n : Int) := ⟨(1 + v36 % 4).toNat, by omega⟩
  have rgn : rg1 (.int (n : Nat)) = .ok ((rng 0 n).map PyData.int) := rg1_rng (by omega)
  obtain ⟨t, num, T, e⟩ := build hl50 ho (n := n) (by omega) (v := v35 % 20) (by omega)
  have nl := nums_len T
  have rgt := nums_rg T
  have i1 : itD (.list ((nums t).map PyData.int)) = .ok ((nums t).map PyData.int) := rfl
  have l4 : ∀ k, forK (P_law_l4 (encTb t)) ((nums t).map PyData.int) [] k = k ((nums t).map (encLt t)) := fun k =>
    forK_acc (k := k) PyData.int (encLt t) (nums t) [] (by simp; omega) fun x hx l next brk hl => l4_go T (mem_nums.mp hx) hl
  have hl := T.len
  have own : lcP (t.map encR) (fun row_574 => (((ixD row_574 (.int 1)).bind fun a_575 => ixD a_575 (.int 1)).bind fun a_576 => ((ixD row_574 (.int 1)).bind fun a_577 => ixD a_577 (.int 0)).bind (subD a_576)).sm) = .ok ((t.map len).map PyData.int) :=
    lcP_all encR PyData.int len t (by omega) fun x hx => by simp [len]
  obtain ⟨j, y, g1, g2, g3, g4⟩ := longest_eq T
  have ev1 := even_eq T
  have ev2 := even_law T
  have need : lcP ((nums t).map (encLt t)) (fun d_598 => un2 .bad d_598 fun up_599 down_600 => ((mulD (.int 1440) down_600).bind fun a_601 => subD a_601 up_599).sm) = .ok ((nums t).map fun x => .int (1440 * dn t x - up t x)) := by
    have := lcP_all (q := fun d_598 => un2 .bad d_598 fun up_599 down_600 => ((mulD (.int 1440) down_600).bind fun a_601 => subD a_601 up_599).sm) (encLt t) PyData.int (fun x => 1440 * dn t x - up t x) (nums t) (by omega) fun x hx => by
      have m := mul_l 1440 (dn t x) (by decide)
      simp [-a_mulI, encLt, m]
    rwa [List.map_map] at this
  obtain ⟨q, G, sh⟩ := short_eq T
  have shl := short_law T G
  have nT : ∀ xs : List Int, neD (.tuple (xs.map PyData.int)) (.tuple (xs.map PyData.int)) = .ok (.bool false) := fun xs => ne_refl (nodAll_of _ fun d hd => by obtain ⟨_, _, rfl⟩ := List.mem_map.mp hd; rfl) (by
    have := depthAll_le (xs.map PyData.int) 0 fun d hd => by obtain ⟨_, _, rfl⟩ := List.mem_map.mp hd; exact Nat.le_refl _
    simp only [PyData.depth]; omega)
  have it : itD (encTb t) = .ok (t.map encR) := rfl
  have tp : tupD [.list (t.map encR)] = .ok (encTb t) := rfl
  have l5 : ∀ k, forK (P_law_l5 (.list (ds.map PyData.int)) (encTb t) (.list ((nums t).map PyData.int)) ((nums t).map (encLt t)) (.list ((nums t).map fun x => .int (1440 * dn t x - up t x)))) ((rng 0 3).map PyData.int) () k = k () := fun k =>
    forK_skip (k := k) PyData.int () _ fun x hx next brk => by
      have hx := mem_rng.mp hx
      obtain ⟨v45, d45, b45⟩ := dr_ix hl50 ho (45 + x) (by omega)
      have hdl := T.hdla
      have hnl : 0 < (nums t).length := by unfold nums; rw [rng_len]; omega
      have h0 := Int.emod_nonneg (v48 / (1 + x)) (show (((nums t).length : Nat) : Int) ≠ 0 by omega)
      have h1 := Int.emod_lt_of_pos (v48 / (1 + x)) (show (0 : Int) < (((nums t).length : Nat) : Int) by omega)
      obtain ⟨i, hi⟩ : ∃ i : Nat, v48 / (1 + x) % ((nums t).length : Nat) = (i : Int) := ⟨(v48 / (1 + x) % ((nums t).length : Nat)).toNat, by omega⟩
      have hil : i < (nums t).length := by omega
      have gt := List.getElem?_eq_getElem hil
      generalize (nums t)[i] = z at gt
      have hz := mem_nums.mp (List.mem_of_getElem? gt)
      obtain ⟨q, c1, c2, c3⟩ := candle_eq T hz (s := 1 + v45 % 1440) (by omega)
      have dp := dn_pos T hz
      refine l5_st (b := decide (q < ((12 : Int) : Rat))) (by omega) d45 d48 (by rw [a_lenL, List.length_map]) (by omega) (by rw [hi]; exact ix_L (encLt t) gt) (by rw [hi]; exact ix_L _ gt) (by rw [hi]; exact ix_L _ gt) (mul_r _ _ (by omega)) c2 ?_ (decide_eq_decide.mpr (lt_int q 12)) (dmul q c3 12)
      rw [c1]
      by_cases c : q < ((12 : Int) : Rat)
      · rw [if_pos c, decide_eq_true c]; rfl
      · rw [if_neg c, decide_eq_false c]; rfl
  simp only [R.ok_bind, d35, d36, a_int, a_modI, Int.reduceLT, decide_true, chk_t, a_addI, hn, rgn, e, tp, i1, l4, it, own, rgt]
  have ixj : ixD (encTb t) (.int (j : Nat)) = .ok (encR y) := ix_T encR g2
  simp only [R.ok_bind, g1, g3, mtL, g4, ixj, ixR0, a_neI, ne_eq, not_true_eq_false, decide_false, a_asB, Bool.false_eq_true, if_false]
  rw [ev1, R.ok_bind, ev2]
  simp only [R.ok_bind, a_tupL, nT, a_asB, Bool.false_eq_true, if_false]
  rw [need]
  simp only [R.ok_bind]
  rw [sh, R.ok_bind, shl]
  simp only [R.ok_bind, a_neI, ne_eq, not_true_eq_false, decide_false, a_asB, Bool.false_eq_true, if_false, rg3, l5, refuses_ok]
theorem holds (ns : List Int) (h : ns.length ≤ 63) : F_law ns = .ok (.bool true) := by
  obtain ⟨ds, e, hl, ho⟩ := draws_ok ns 50 (by decide)
  have hd : F__law_draws ns 50 = .ok (.list (ds.map PyData.int)) := e
  rw [e_law]
  exact law_main hl ho hd
end K79
namespace K79
open PySem PySem.Spec PyProof.Rows L2 DL
def topS (i : Nat) : Stmt := PySem.Challenge.pw_sandwright_k79_whole_hours.main.body.getD i (.Pass ⟨0, 0, 0, 0⟩)
abbrev s_is_whole : Stmt := topS 9
abbrev s_ascends : Stmt := topS 10
abbrev s_divisor : Stmt := topS 12
abbrev s_is_less : Stmt := topS 18
abbrev s_is_integer : Stmt := topS 19
abbrev s__law_draws : Stmt := topS 54
abbrev s__law_lowest : Stmt := topS 55
abbrev s__law_day : Stmt := topS 56
abbrev s_quotient : Stmt := topS 13
abbrev s_is_quotient : Stmt := topS 20
abbrev s_is_day : Stmt := topS 27
abbrev s__check_number : Stmt := topS 44
abbrev s__law_told : Stmt := topS 57
abbrev s__law_ends : Stmt := topS 58
abbrev s__law_on : Stmt := topS 59
abbrev s_plus : Stmt := topS 14
abbrev s_minus : Stmt := topS 15
abbrev s_times : Stmt := topS 16
abbrev s_over : Stmt := topS 17
abbrev s__check_day : Stmt := topS 28
abbrev s__lengths : Stmt := topS 29
abbrev s__is_told : Stmt := topS 34
abbrev s__check_table : Stmt := topS 43
abbrev s__between : Stmt := topS 45
abbrev s_hour_lengths : Stmt := topS 30
abbrev s__check_moment : Stmt := topS 31
abbrev s__told_at : Stmt := topS 32
abbrev s_minute_of : Stmt := topS 35
abbrev s__day_on : Stmt := topS 46
abbrev s_longest : Stmt := topS 49
abbrev s_told_at : Stmt := topS 33
abbrev s_stroke : Stmt := topS 36
abbrev s_strokes_by : Stmt := topS 37
abbrev s_next_stroke : Stmt := topS 38
abbrev s_day_on : Stmt := topS 47
abbrev s__light : Stmt := topS 48
abbrev s_even_days : Stmt := topS 50
abbrev s_candle_hours : Stmt := topS 51
abbrev s_shortest_candle : Stmt := topS 52
abbrev s__law_error : Stmt := topS 60
abbrev s__law_refuses : Stmt := topS 61
abbrev s_law : Stmt := topS 62
structure Tx (K : PySem.W.Frag) (mg : Str → Option Value) where
  f_is_whole : Addr
  fd_is_whole : FuncData
  F_is_whole : Fun K "is_whole" "is_whole" s_is_whole f_is_whole fd_is_whole
  b_is_whole : Binds K fd_is_whole ["value", "least", "most"] []
  m_is_whole : mg "is_whole" = some (.ref f_is_whole)
  k_is_whole : PySem.W.keepIn K (.ref f_is_whole) = true
  f_ascends : Addr
  fd_ascends : FuncData
  F_ascends : Fun K "ascends" "ascends" s_ascends f_ascends fd_ascends
  b_ascends : Binds K fd_ascends ["values"] []
  m_ascends : mg "ascends" = some (.ref f_ascends)
  k_ascends : PySem.W.keepIn K (.ref f_ascends) = true
  f_divisor : Addr
  fd_divisor : FuncData
  F_divisor : Fun K "divisor" "divisor" s_divisor f_divisor fd_divisor
  b_divisor : Binds K fd_divisor ["one", "other"] []
  m_divisor : mg "divisor" = some (.ref f_divisor)
  k_divisor : PySem.W.keepIn K (.ref f_divisor) = true
  f_is_less : Addr
  fd_is_less : FuncData
  F_is_less : Fun K "is_less" "is_less" s_is_less f_is_less fd_is_less
  b_is_less : Binds K fd_is_less ["one", "other"] []
  m_is_less : mg "is_less" = some (.ref f_is_less)
  k_is_less : PySem.W.keepIn K (.ref f_is_less) = true
  f_is_integer : Addr
  fd_is_integer : FuncData
  F_is_integer : Fun K "is_integer" "is_integer" s_is_integer f_is_integer fd_is_integer
  b_is_integer : Binds K fd_is_integer ["value"] []
  m_is_integer : mg "is_integer" = some (.ref f_is_integer)
  k_is_integer : PySem.W.keepIn K (.ref f_is_integer) = true
  f__law_draws : Addr
  fd__law_draws : FuncData
  F__law_draws : Fun K "_law_draws" "_law_draws" s__law_draws f__law_draws fd__law_draws
  b__law_draws : Binds K fd__law_draws ["script", "many"] []
  m__law_draws : mg "_law_draws" = some (.ref f__law_draws)
  k__law_draws : PySem.W.keepIn K (.ref f__law_draws) = true
  f__law_lowest : Addr
  fd__law_lowest : FuncData
  F__law_lowest : Fun K "_law_lowest" "_law_lowest" s__law_lowest f__law_lowest fd__law_lowest
  b__law_lowest : Binds K fd__law_lowest ["up", "down"] []
  m__law_lowest : mg "_law_lowest" = some (.ref f__law_lowest)
  k__law_lowest : PySem.W.keepIn K (.ref f__law_lowest) = true
  f__law_day : Addr
  fd__law_day : FuncData
  F__law_day : Fun K "_law_day" "_law_day" s__law_day f__law_day fd__law_day
  b__law_day : Binds K fd__law_day ["number", "more"] []
  m__law_day : mg "_law_day" = some (.ref f__law_day)
  k__law_day : PySem.W.keepIn K (.ref f__law_day) = true
  f_quotient : Addr
  fd_quotient : FuncData
  F_quotient : Fun K "quotient" "quotient" s_quotient f_quotient fd_quotient
  b_quotient : Binds K fd_quotient ["up", "down"] []
  m_quotient : mg "quotient" = some (.ref f_quotient)
  k_quotient : PySem.W.keepIn K (.ref f_quotient) = true
  f_is_quotient : Addr
  fd_is_quotient : FuncData
  F_is_quotient : Fun K "is_quotient" "is_quotient" s_is_quotient f_is_quotient fd_is_quotient
  b_is_quotient : Binds K fd_is_quotient ["value"] []
  m_is_quotient : mg "is_quotient" = some (.ref f_is_quotient)
  k_is_quotient : PySem.W.keepIn K (.ref f_is_quotient) = true
  f_is_day : Addr
  fd_is_day : FuncData
  F_is_day : Fun K "is_day" "is_day" s_is_day f_is_day fd_is_day
  b_is_day : Binds K fd_is_day ["value"] []
  m_is_day : mg "is_day" = some (.ref f_is_day)
  k_is_day : PySem.W.keepIn K (.ref f_is_day) = true
  f__check_number : Addr
  fd__check_number : FuncData
  F__check_number : Fun K "_check_number" "_check_number" s__check_number f__check_number fd__check_number
  b__check_number : Binds K fd__check_number ["table", "number"] []
  m__check_number : mg "_check_number" = some (.ref f__check_number)
  k__check_number : PySem.W.keepIn K (.ref f__check_number) = true
  f__law_told : Addr
  fd__law_told : FuncData
  F__law_told : Fun K "_law_told" "_law_told" s__law_told f__law_told fd__law_told
  b__law_told : Binds K fd__law_told ["day", "minute"] []
  m__law_told : mg "_law_told" = some (.ref f__law_told)
  k__law_told : PySem.W.keepIn K (.ref f__law_told) = true
  f__law_ends : Addr
  fd__law_ends : FuncData
  F__law_ends : Fun K "_law_ends" "_law_ends" s__law_ends f__law_ends fd__law_ends
  b__law_ends : Binds K fd__law_ends ["day"] []
  m__law_ends : mg "_law_ends" = some (.ref f__law_ends)
  k__law_ends : PySem.W.keepIn K (.ref f__law_ends) = true
  f__law_on : Addr
  fd__law_on : FuncData
  F__law_on : Fun K "_law_on" "_law_on" s__law_on f__law_on fd__law_on
  b__law_on : Binds K fd__law_on ["table", "number"] []
  m__law_on : mg "_law_on" = some (.ref f__law_on)
  k__law_on : PySem.W.keepIn K (.ref f__law_on) = true
  f_plus : Addr
  fd_plus : FuncData
  F_plus : Fun K "plus" "plus" s_plus f_plus fd_plus
  b_plus : Binds K fd_plus ["one", "other"] []
  m_plus : mg "plus" = some (.ref f_plus)
  k_plus : PySem.W.keepIn K (.ref f_plus) = true
  f_minus : Addr
  fd_minus : FuncData
  F_minus : Fun K "minus" "minus" s_minus f_minus fd_minus
  b_minus : Binds K fd_minus ["one", "other"] []
  m_minus : mg "minus" = some (.ref f_minus)
  k_minus : PySem.W.keepIn K (.ref f_minus) = true
  f_times : Addr
  fd_times : FuncData
  F_times : Fun K "times" "times" s_times f_times fd_times
  b_times : Binds K fd_times ["one", "other"] []
  m_times : mg "times" = some (.ref f_times)
  k_times : PySem.W.keepIn K (.ref f_times) = true
  f_over : Addr
  fd_over : FuncData
  F_over : Fun K "over" "over" s_over f_over fd_over
  b_over : Binds K fd_over ["one", "other"] []
  m_over : mg "over" = some (.ref f_over)
  k_over : PySem.W.keepIn K (.ref f_over) = true
  f__check_day : Addr
  fd__check_day : FuncData
  F__check_day : Fun K "_check_day" "_check_day" s__check_day f__check_day fd__check_day
  b__check_day : Binds K fd__check_day ["day"] []
  m__check_day : mg "_check_day" = some (.ref f__check_day)
  k__check_day : PySem.W.keepIn K (.ref f__check_day) = true
  f__lengths : Addr
  fd__lengths : FuncData
  F__lengths : Fun K "_lengths" "_lengths" s__lengths f__lengths fd__lengths
  b__lengths : Binds K fd__lengths ["day"] []
  m__lengths : mg "_lengths" = some (.ref f__lengths)
  k__lengths : PySem.W.keepIn K (.ref f__lengths) = true
  f__is_told : Addr
  fd__is_told : FuncData
  F__is_told : Fun K "_is_told" "_is_told" s__is_told f__is_told fd__is_told
  b__is_told : Binds K fd__is_told ["value"] []
  m__is_told : mg "_is_told" = some (.ref f__is_told)
  k__is_told : PySem.W.keepIn K (.ref f__is_told) = true
  f__check_table : Addr
  fd__check_table : FuncData
  F__check_table : Fun K "_check_table" "_check_table" s__check_table f__check_table fd__check_table
  b__check_table : Binds K fd__check_table ["table"] []
  m__check_table : mg "_check_table" = some (.ref f__check_table)
  k__check_table : PySem.W.keepIn K (.ref f__check_table) = true
  f__between : Addr
  fd__between : FuncData
  F__between : Fun K "_between" "_between" s__between f__between fd__between
  b__between : Binds K fd__between ["one", "other", "number", "place"] []
  m__between : mg "_between" = some (.ref f__between)
  k__between : PySem.W.keepIn K (.ref f__between) = true
  f_hour_lengths : Addr
  fd_hour_lengths : FuncData
  F_hour_lengths : Fun K "hour_lengths" "hour_lengths" s_hour_lengths f_hour_lengths fd_hour_lengths
  b_hour_lengths : Binds K fd_hour_lengths ["day"] []
  m_hour_lengths : mg "hour_lengths" = some (.ref f_hour_lengths)
  k_hour_lengths : PySem.W.keepIn K (.ref f_hour_lengths) = true
  f__check_moment : Addr
  fd__check_moment : FuncData
  F__check_moment : Fun K "_check_moment" "_check_moment" s__check_moment f__check_moment fd__check_moment
  b__check_moment : Binds K fd__check_moment ["day", "minute"] []
  m__check_moment : mg "_check_moment" = some (.ref f__check_moment)
  k__check_moment : PySem.W.keepIn K (.ref f__check_moment) = true
  f__told_at : Addr
  fd__told_at : FuncData
  F__told_at : Fun K "_told_at" "_told_at" s__told_at f__told_at fd__told_at
  b__told_at : Binds K fd__told_at ["day", "minute"] []
  m__told_at : mg "_told_at" = some (.ref f__told_at)
  k__told_at : PySem.W.keepIn K (.ref f__told_at) = true
  f_minute_of : Addr
  fd_minute_of : FuncData
  F_minute_of : Fun K "minute_of" "minute_of" s_minute_of f_minute_of fd_minute_of
  b_minute_of : Binds K fd_minute_of ["day", "told"] []
  m_minute_of : mg "minute_of" = some (.ref f_minute_of)
  k_minute_of : PySem.W.keepIn K (.ref f_minute_of) = true
  f__day_on : Addr
  fd__day_on : FuncData
  F__day_on : Fun K "_day_on" "_day_on" s__day_on f__day_on fd__day_on
  b__day_on : Binds K fd__day_on ["table", "number"] []
  m__day_on : mg "_day_on" = some (.ref f__day_on)
  k__day_on : PySem.W.keepIn K (.ref f__day_on) = true
  f_longest : Addr
  fd_longest : FuncData
  F_longest : Fun K "longest" "longest" s_longest f_longest fd_longest
  b_longest : Binds K fd_longest ["table"] []
  m_longest : mg "longest" = some (.ref f_longest)
  k_longest : PySem.W.keepIn K (.ref f_longest) = true
  f_told_at : Addr
  fd_told_at : FuncData
  F_told_at : Fun K "told_at" "told_at" s_told_at f_told_at fd_told_at
  b_told_at : Binds K fd_told_at ["day", "minute"] []
  m_told_at : mg "told_at" = some (.ref f_told_at)
  k_told_at : PySem.W.keepIn K (.ref f_told_at) = true
  f_stroke : Addr
  fd_stroke : FuncData
  F_stroke : Fun K "stroke" "stroke" s_stroke f_stroke fd_stroke
  b_stroke : Binds K fd_stroke ["day", "minute"] []
  m_stroke : mg "stroke" = some (.ref f_stroke)
  k_stroke : PySem.W.keepIn K (.ref f_stroke) = true
  f_strokes_by : Addr
  fd_strokes_by : FuncData
  F_strokes_by : Fun K "strokes_by" "strokes_by" s_strokes_by f_strokes_by fd_strokes_by
  b_strokes_by : Binds K fd_strokes_by ["day", "minute"] []
  m_strokes_by : mg "strokes_by" = some (.ref f_strokes_by)
  k_strokes_by : PySem.W.keepIn K (.ref f_strokes_by) = true
  f_next_stroke : Addr
  fd_next_stroke : FuncData
  F_next_stroke : Fun K "next_stroke" "next_stroke" s_next_stroke f_next_stroke fd_next_stroke
  b_next_stroke : Binds K fd_next_stroke ["day", "minute"] []
  m_next_stroke : mg "next_stroke" = some (.ref f_next_stroke)
  k_next_stroke : PySem.W.keepIn K (.ref f_next_stroke) = true
  f_day_on : Addr
  fd_day_on : FuncData
  F_day_on : Fun K "day_on" "day_on" s_day_on f_day_on fd_day_on
  b_day_on : Binds K fd_day_on ["table", "number"] []
  m_day_on : mg "day_on" = some (.ref f_day_on)
  k_day_on : PySem.W.keepIn K (.ref f_day_on) = true
  f__light : Addr
  fd__light : FuncData
  F__light : Fun K "_light" "_light" s__light f__light fd__light
  b__light : Binds K fd__light ["table", "number"] []
  m__light : mg "_light" = some (.ref f__light)
  k__light : PySem.W.keepIn K (.ref f__light) = true
  f_even_days : Addr
  fd_even_days : FuncData
  F_even_days : Fun K "even_days" "even_days" s_even_days f_even_days fd_even_days
  b_even_days : Binds K fd_even_days ["table"] []
  m_even_days : mg "even_days" = some (.ref f_even_days)
  k_even_days : PySem.W.keepIn K (.ref f_even_days) = true
  f_candle_hours : Addr
  fd_candle_hours : FuncData
  F_candle_hours : Fun K "candle_hours" "candle_hours" s_candle_hours f_candle_hours fd_candle_hours
  b_candle_hours : Binds K fd_candle_hours ["table", "number", "size"] []
  m_candle_hours : mg "candle_hours" = some (.ref f_candle_hours)
  k_candle_hours : PySem.W.keepIn K (.ref f_candle_hours) = true
  f_shortest_candle : Addr
  fd_shortest_candle : FuncData
  F_shortest_candle : Fun K "shortest_candle" "shortest_candle" s_shortest_candle f_shortest_candle fd_shortest_candle
  b_shortest_candle : Binds K fd_shortest_candle ["table"] []
  m_shortest_candle : mg "shortest_candle" = some (.ref f_shortest_candle)
  k_shortest_candle : PySem.W.keepIn K (.ref f_shortest_candle) = true
  f__law_error : Addr
  fd__law_error : FuncData
  F__law_error : Fun K "_law_error" "_law_error" s__law_error f__law_error fd__law_error
  b__law_error : Binds K fd__law_error ["call", "one", "two", "three"] []
  m__law_error : mg "_law_error" = some (.ref f__law_error)
  k__law_error : PySem.W.keepIn K (.ref f__law_error) = true
  f__law_refuses : Addr
  fd__law_refuses : FuncData
  F__law_refuses : Fun K "_law_refuses" "_law_refuses" s__law_refuses f__law_refuses fd__law_refuses
  b__law_refuses : Binds K fd__law_refuses [] []
  m__law_refuses : mg "_law_refuses" = some (.ref f__law_refuses)
  k__law_refuses : PySem.W.keepIn K (.ref f__law_refuses) = true
  f_law : Addr
  fd_law : FuncData
  F_law : Fun K "law" "law" s_law f_law fd_law
  b_law : Binds K fd_law ["script"] []
  m_law : mg "law" = some (.ref f_law)
  k_law : PySem.W.keepIn K (.ref f_law) = true
  z_abs : mg "abs" = none
  z_all : mg "all" = none
  z_any : mg "any" = none
  z_bool : mg "bool" = none
  z_int : mg "int" = none
  z_isinstance : mg "isinstance" = none
  z_len : mg "len" = none
  z_list : mg "list" = none
  z_max : mg "max" = none
  z_min : mg "min" = none
  z_range : mg "range" = none
  z_str : mg "str" = none
  z_tuple : mg "tuple" = none
  z_zip : mg "zip" = none
  c_DAY : McD K mg "DAY" (.str "day")
  c_HALF : McD K mg "HALF" (.tuple [.int 720, .int 1])
  c_HOURS : McD K mg "HOURS" (.int 12)
  c_MINUTES : McD K mg "MINUTES" (.int 1440)
  c_MOST_NUMBER : McD K mg "MOST_NUMBER" (.int 400)
  c_MOST_ROWS : McD K mg "MOST_ROWS" (.int 40)
  c_NIGHT : McD K mg "NIGHT" (.str "night")
  c_NOTHING : McD K mg "NOTHING" (.tuple [.int 0, .int 1])
  C_BadDay : Addr
  g_BadDay : mg "BadDay" = some (.ref C_BadDay)
  x_BadDay : PySem.W.excIn K C_BadDay [.type "ValueError", .type "Exception", .type "BaseException", .type "object"] "ValueError.__new__" = true
  k_BadDay : PySem.W.keepIn K (.ref C_BadDay) = true
  s_BadDay : PySem.W.subIn K (.ref C_BadDay) (.type "BaseException") = some true
  t_BadDay : PySem.W.typeIn K (.ref C_BadDay) = some (.type "type")
  C_BadMoment : Addr
  g_BadMoment : mg "BadMoment" = some (.ref C_BadMoment)
  x_BadMoment : PySem.W.excIn K C_BadMoment [.type "ValueError", .type "Exception", .type "BaseException", .type "object"] "ValueError.__new__" = true
  k_BadMoment : PySem.W.keepIn K (.ref C_BadMoment) = true
  s_BadMoment : PySem.W.subIn K (.ref C_BadMoment) (.type "BaseException") = some true
  t_BadMoment : PySem.W.typeIn K (.ref C_BadMoment) = some (.type "type")
  C_BadNumber : Addr
  g_BadNumber : mg "BadNumber" = some (.ref C_BadNumber)
  x_BadNumber : PySem.W.excIn K C_BadNumber [.type "ValueError", .type "Exception", .type "BaseException", .type "object"] "ValueError.__new__" = true
  k_BadNumber : PySem.W.keepIn K (.ref C_BadNumber) = true
  s_BadNumber : PySem.W.subIn K (.ref C_BadNumber) (.type "BaseException") = some true
  t_BadNumber : PySem.W.typeIn K (.ref C_BadNumber) = some (.type "type")
  C_BadSize : Addr
  g_BadSize : mg "BadSize" = some (.ref C_BadSize)
  x_BadSize : PySem.W.excIn K C_BadSize [.type "ValueError", .type "Exception", .type "BaseException", .type "object"] "ValueError.__new__" = true
  k_BadSize : PySem.W.keepIn K (.ref C_BadSize) = true
  s_BadSize : PySem.W.subIn K (.ref C_BadSize) (.type "BaseException") = some true
  t_BadSize : PySem.W.typeIn K (.ref C_BadSize) = some (.type "type")
  C_BadTable : Addr
  g_BadTable : mg "BadTable" = some (.ref C_BadTable)
  x_BadTable : PySem.W.excIn K C_BadTable [.type "ValueError", .type "Exception", .type "BaseException", .type "object"] "ValueError.__new__" = true
  k_BadTable : PySem.W.keepIn K (.ref C_BadTable) = true
  s_BadTable : PySem.W.subIn K (.ref C_BadTable) (.type "BaseException") = some true
  t_BadTable : PySem.W.typeIn K (.ref C_BadTable) = some (.type "type")
  C_BadTold : Addr
  g_BadTold : mg "BadTold" = some (.ref C_BadTold)
  x_BadTold : PySem.W.excIn K C_BadTold [.type "ValueError", .type "Exception", .type "BaseException", .type "object"] "ValueError.__new__" = true
  k_BadTold : PySem.W.keepIn K (.ref C_BadTold) = true
  s_BadTold : PySem.W.subIn K (.ref C_BadTold) (.type "BaseException") = some true
  t_BadTold : PySem.W.typeIn K (.ref C_BadTold) = some (.type "type")
  ap : Apart K mg excs
section
variable {P : Program} {w : World} {K : PySem.W.Frag} {mg : Str → Option Value} {base : Heap}
theorem sc_is_whole : FnScope ["value", "least", "most"] ["value", "least", "most"] (defScope s_is_whole) := ⟨rfl, rfl, rfl, by decide +kernel, rfl, by decide +kernel, by decide +kernel⟩
theorem fn_is_whole (T : Tx K mg) : FnD P w K mg base 1 T.f_is_whole T.fd_is_whole ["value", "least", "most"] F_is_whole := fnD_of (N := ["value", "least", "most"]) (k := 0) (g := g_is_whole) T.F_is_whole sc_is_whole fun cdv A outer s H E hr => (show DSs _ _ _ g_is_whole from
    (dss_one (ds_ret (de_and (de_isa isa_int (by rfl) T.z_isinstance (by rfl) T.z_int PyProof.Rows.boot_int (DE.dv (de_v (pv 0)))) (de_and (de_not (DE.dv (de_isa isa_bool (by rfl) T.z_isinstance (by rfl) T.z_bool PyProof.Rows.boot_bool (DE.dv (de_v (pv 0)))))) (de_one (de_chain (opd_le (Deep.of hr)) (opd_le (Deep.of hr)) (DE.dv (de_v (pv 1))) (DE.dv (de_v (pv 0))) (DE.dv (de_v (pv 2))))))))))
theorem sc_ascends : FnScope ["values", "one", "later"] ["values"] (defScope s_ascends) := ⟨rfl, rfl, rfl, by decide +kernel, rfl, by decide +kernel, by decide +kernel⟩
theorem fn_ascends (T : Tx K mg) : FnD P w K mg base 1 T.f_ascends T.fd_ascends ["values"] F_ascends := fnD_of (N := ["values", "one", "later"]) (k := 0) (g := g_ascends) T.F_ascends sc_ascends fun cdv A outer s H E hr => (show DSs _ _ _ g_ascends from
    (dss_one (ds_ret (de_callB (cd_all rfl) (by rfl) T.z_all PyProof.Rows.boot_all (da_cons (DE.dv (DF.de (df_K (cLc_K (tge_2 tge_n tge_n)) (df_lc (own := [("one", 1), ("later", 2)]) (vs := [1, 2]) rfl sc_ascends.nd (di_zip (by rfl) T.z_zip (de_v (pv 0)) (de_sl (DE.dv (de_v (pv 0))) (do_s de_int) do_n)) (blkOk_by (by kernel_rfl)) (by decide) (fun _ _ _ _ _ => (dg_tup (n := 2) rfl (dgs_cons (dg_name (i := 1) sc_ascends.nd rfl (by first | exact .inl rfl | exact .inr rfl)) (dgs_cons (dg_name (i := 2) sc_ascends.nd rfl (by first | exact .inl rfl | exact .inr rfl)) dgs_nil)))) (fun _ _ _ _ _ => dt_nil) (fun _ _ _ _ _ => (de_cmp (opd_lt (Deep.of hr)) (DE.dv (de_v (pv 1))) (DE.dv (de_v (pv 2))) (nomark _))))))) da_nil)))))
theorem sc_divisor : FnScope ["one", "other"] ["one", "other"] (defScope s_divisor) := ⟨rfl, rfl, rfl, by decide +kernel, rfl, by decide +kernel, by decide +kernel⟩
theorem fn_divisor (T : Tx K mg) : FnD P w K mg base 1 T.f_divisor T.fd_divisor ["one", "other"] F_divisor := fnD_of (N := ["one", "other"]) (k := 0) (g := g_divisor) T.F_divisor sc_divisor fun cdv A outer s H E hr => (show DSs _ _ _ g_divisor from
    (dss_cons (ds_par (i := 0) (j := 1) rfl sc_divisor.nd rfl rfl (by decide) rfl rfl (de_callB cd_abs (by rfl) T.z_abs PyProof.Rows.boot_abs (da_cons (DE.dv (de_v (pv 0))) da_nil)) (de_callB cd_abs (by rfl) T.z_abs PyProof.Rows.boot_abs (da_cons (DE.dv (de_v (pv 1))) da_nil)) (by rfl))
    (dss_cons (ds_while fuel (passes_of rfl) (db_c (opd_gt (Deep.of hr)) (DE.dv (de_v (pv 1))) (DE.dv de_int) (nomark _))
    (dss_one (ds_par (i := 0) (j := 1) rfl sc_divisor.nd rfl rfl (by decide) rfl rfl (de_v (pv 1)) (de_op opd_mod (DE.dv (de_v (pv 0))) (DE.dv (de_v (pv 1)))) (by rfl))))
    (dss_one (ds_ret (de_v (pv 0)))))))
theorem sc_is_less : FnScope ["one", "other"] ["one", "other"] (defScope s_is_less) := ⟨rfl, rfl, rfl, by decide +kernel, rfl, by decide +kernel, by decide +kernel⟩
theorem fn_is_less (T : Tx K mg) : FnD P w K mg base 1 T.f_is_less T.fd_is_less ["one", "other"] F_is_less := fnD_of (N := ["one", "other"]) (k := 0) (g := g_is_less) T.F_is_less sc_is_less fun cdv A outer s H E hr => (show DSs _ _ _ g_is_less from
    (dss_one (ds_ret (de_cmp (opd_lt (Deep.of hr)) (DE.dv (de_op opd_mul (DE.dv (de_ix (DE.dv (de_v (pv 0))) (DE.dv de_int) (fun _ _ => rfl))) (DE.dv (de_ix (DE.dv (de_v (pv 1))) (DE.dv de_int) (fun _ _ => rfl))))) (DE.dv (de_op opd_mul (DE.dv (de_ix (DE.dv (de_v (pv 1))) (DE.dv de_int) (fun _ _ => rfl))) (DE.dv (de_ix (DE.dv (de_v (pv 0))) (DE.dv de_int) (fun _ _ => rfl))))) (nomark _)))))
theorem sc_is_integer : FnScope ["value"] ["value"] (defScope s_is_integer) := ⟨rfl, rfl, rfl, by decide +kernel, rfl, by decide +kernel, by decide +kernel⟩
theorem fn_is_integer (T : Tx K mg) : FnD P w K mg base 1 T.f_is_integer T.fd_is_integer ["value"] F_is_integer := fnD_of (N := ["value"]) (k := 0) (g := g_is_integer) T.F_is_integer sc_is_integer fun cdv A outer s H E hr => (show DSs _ _ _ g_is_integer from
    (dss_one (ds_ret (de_and (de_isa isa_int (by rfl) T.z_isinstance (by rfl) T.z_int PyProof.Rows.boot_int (DE.dv (de_v (pv 0)))) (de_one (de_not (DE.dv (de_isa isa_bool (by rfl) T.z_isinstance (by rfl) T.z_bool PyProof.Rows.boot_bool (DE.dv (de_v (pv 0)))))))))))
theorem sc__law_draws : FnScope ["script", "many", "draws", "seed", "cell", "number", "k"] ["script", "many"] (defScope s__law_draws) := ⟨rfl, rfl, rfl, by decide +kernel, rfl, by decide +kernel, by decide +kernel⟩
theorem fn__law_draws (T : Tx K mg) : FnOk P w K mg base (L2.CX P w) 1 T.f__law_draws T.fd__law_draws ["script", "many"] (spScr K F__law_draws) := fnScr_of (N := ["script", "many", "draws", "seed", "cell", "number", "k"]) (k := 0) (g := g__law_draws) T.F__law_draws sc__law_draws rfl fun cdv A outer s H E hr => (show DSs _ _ _ g__law_draws from
    (dss_cons (ds_setL (i := 2) sc__law_draws.nd rfl (by first | exact .inl rfl | exact .inr rfl) (df_lst dc_nil))
    (dss_cons (ds_set (i := 3) sc__law_draws.nd rfl (by first | exact .inl rfl | exact .inr rfl) de_int)
    (dss_cons (ds_for (passes_of rfl) rfl (di_seq (DF.de (df_scr (pv 0)))) (dg_name (i := 4) sc__law_draws.nd rfl (by first | exact .inl rfl | exact .inr rfl))
    (dss_cons (ds_set (i := 5) sc__law_draws.nd rfl (by first | exact .inl rfl | exact .inr rfl) (de_callB cd_abs (by rfl) T.z_abs PyProof.Rows.boot_abs (da_cons (DE.dv (de_v (pv 4))) da_nil)))
    (dss_cons (ds_set (i := 3) sc__law_draws.nd rfl (by first | exact .inl rfl | exact .inr rfl) (de_op opd_mod (DE.dv (de_callTy cd_int (by rfl) T.z_int PyProof.Rows.boot_int (da_cons (DE.dv (de_op opd_add (DE.dv (de_op opd_add (DE.dv (de_op opd_mul (DE.dv (de_v (pv 3))) (DE.dv de_int))) (DE.dv (de_v (pv 5))))) (DE.dv de_int))) da_nil))) (DE.dv de_int)))
    (dss_one (ds_if (db_c (opd_ge (Deep.of hr)) (DE.dv (de_v (pv 5))) (DE.dv (de_op opd_pow (DE.dv de_int) (DE.dv de_int))) (nomark _))
    (dss_one (ds_for (passes_of rfl) rfl (di_r1 (by rfl) T.z_range de_int) (dg_name (i := 6) sc__law_draws.nd rfl (by first | exact .inl rfl | exact .inr rfl))
    (dss_one (ds_if (db_c (opd_gt (Deep.of hr)) (DE.dv (de_v (pv 5))) (DE.dv de_int) (nomark _))
    (dss_cons (ds_app (pv 2) (de_op opd_mod (DE.dv (de_callTy cd_int (by rfl) T.z_int PyProof.Rows.boot_int (da_cons (DE.dv (de_v (pv 5))) da_nil))) (DE.dv de_int)))
    (dss_one (ds_set (i := 5) sc__law_draws.nd rfl (by first | exact .inl rfl | exact .inr rfl) (de_op opd_fdiv (DE.dv (de_v (pv 5))) (DE.dv de_int)))))
    dss_nil))))
    (dss_one (ds_app (pv 2) (de_op opd_mod (DE.dv (de_op opd_fdiv (DE.dv (de_callTy cd_int (by rfl) T.z_int PyProof.Rows.boot_int (da_cons (DE.dv (de_op opd_add (DE.dv (de_op opd_mul (DE.dv (de_v (pv 3))) (DE.dv de_int))) (DE.dv de_int))) da_nil))) (DE.dv de_int))) (DE.dv de_int)))))))))
    (dss_cons (ds_for (passes_of rfl) rfl (di_r1 (by rfl) T.z_range (de_v (pv 1))) (dg_name (i := 6) sc__law_draws.nd rfl (by first | exact .inl rfl | exact .inr rfl))
    (dss_one (ds_if (db_c (opd_lt (Deep.of hr)) (DE.dv (de_callB cd_len (by rfl) T.z_len PySem.boot_len (da_cons (dv_v (pv 2)) da_nil))) (DE.dv (de_v (pv 1))) (nomark _))
    (dss_cons (ds_set (i := 3) sc__law_draws.nd rfl (by first | exact .inl rfl | exact .inr rfl) (de_op opd_mod (DE.dv (de_callTy cd_int (by rfl) T.z_int PyProof.Rows.boot_int (da_cons (DE.dv (de_op opd_add (DE.dv (de_op opd_add (DE.dv (de_op opd_mul (DE.dv (de_v (pv 3))) (DE.dv de_int))) (DE.dv (de_v (pv 6))))) (DE.dv de_int))) da_nil))) (DE.dv de_int)))
    (dss_one (ds_app (pv 2) (de_op opd_mod (DE.dv (de_op opd_fdiv (DE.dv (de_callTy cd_int (by rfl) T.z_int PyProof.Rows.boot_int (da_cons (DE.dv (de_v (pv 3))) da_nil))) (DE.dv de_int))) (DE.dv de_int)))))
    dss_nil)))
    (dss_one (ds_ret (de_sl (dv_v (pv 2)) do_n (do_s (de_v (pv 1)))))))))))
theorem sc__law_lowest : FnScope ["up", "down", "one", "two"] ["up", "down"] (defScope s__law_lowest) := ⟨rfl, rfl, rfl, by decide +kernel, rfl, by decide +kernel, by decide +kernel⟩
theorem fn__law_lowest (T : Tx K mg) : FnD P w K mg base 1 T.f__law_lowest T.fd__law_lowest ["up", "down"] F__law_lowest := fnD_of (N := ["up", "down", "one", "two"]) (k := 0) (g := g__law_lowest) T.F__law_lowest sc__law_lowest fun cdv A outer s H E hr => (show DSs _ _ _ g__law_lowest from
    (dss_cons (ds_par (i := 2) (j := 3) rfl sc__law_lowest.nd rfl rfl (by decide) rfl rfl (de_callB cd_abs (by rfl) T.z_abs PyProof.Rows.boot_abs (da_cons (DE.dv (de_v (pv 0))) da_nil)) (de_v (pv 1)) (by rfl))
    (dss_cons (ds_while fuel (passes_of rfl) (db_c (opd_gt (Deep.of hr)) (DE.dv (de_v (pv 3))) (DE.dv de_int) (nomark _))
    (dss_one (ds_par (i := 2) (j := 3) rfl sc__law_lowest.nd rfl rfl (by decide) rfl rfl (de_v (pv 3)) (de_op opd_mod (DE.dv (de_v (pv 2))) (DE.dv (de_v (pv 3)))) (by rfl))))
    (dss_one (ds_ret (de_tup (dc_cons (de_op opd_fdiv (DE.dv (de_v (pv 0))) (DE.dv (de_v (pv 2)))) (dc_cons (de_op opd_fdiv (DE.dv (de_v (pv 1))) (DE.dv (de_v (pv 2)))) dc_nil))))))))
theorem sc__law_day : FnScope ["number", "more", "rise"] ["number", "more"] (defScope s__law_day) := ⟨rfl, rfl, rfl, by decide +kernel, rfl, by decide +kernel, by decide +kernel⟩
theorem fn__law_day (T : Tx K mg) : FnD P w K mg base 1 T.f__law_day T.fd__law_day ["number", "more"] F__law_day := fnD_of (N := ["number", "more", "rise"]) (k := 0) (g := g__law_day) T.F__law_day sc__law_day fun cdv A outer s H E hr => (show DSs _ _ _ g__law_day from
    (dss_cons (ds_set (i := 2) sc__law_day.nd rfl (by first | exact .inl rfl | exact .inr rfl) (de_op opd_mod (DE.dv (de_v (pv 0))) (DE.dv de_int)))
    (dss_one (ds_ret (de_tup (dc_cons (de_v (pv 2)) (dc_cons (de_op opd_add (DE.dv (de_op opd_add (DE.dv (de_v (pv 2))) (DE.dv de_int))) (DE.dv (de_op opd_mod (DE.dv (de_v (pv 1))) (DE.dv (de_op opd_sub (DE.dv de_int) (DE.dv (de_v (pv 2)))))))) dc_nil)))))))
theorem sc_quotient : FnScope ["up", "down", "size"] ["up", "down"] (defScope s_quotient) := ⟨rfl, rfl, rfl, by decide +kernel, rfl, by decide +kernel, by decide +kernel⟩
theorem fn_quotient (T : Tx K mg) : FnD P w K mg base 2 T.f_quotient T.fd_quotient ["up", "down"] F_quotient := fnD_of (N := ["up", "down", "size"]) (k := 1) (g := g_quotient) T.F_quotient sc_quotient fun cdv A outer s H E hr => (show DSs _ _ _ g_quotient from
    (dss_cons (ds_set (i := 2) sc_quotient.nd rfl (by first | exact .inl rfl | exact .inr rfl) (de_cl (fn_divisor T) (hr.mono (by decide)) (by rfl) T.m_divisor T.k_divisor T.b_divisor (takes_of rfl rfl rfl rfl) (dc_cons (de_v (pv 0)) (dc_cons (de_v (pv 1)) dc_nil))))
    (dss_one (ds_ret (de_tup (dc_cons (de_op opd_fdiv (DE.dv (de_v (pv 0))) (DE.dv (de_v (pv 2)))) (dc_cons (de_op opd_fdiv (DE.dv (de_v (pv 1))) (DE.dv (de_v (pv 2)))) dc_nil)))))))
theorem sc_is_quotient : FnScope ["value"] ["value"] (defScope s_is_quotient) := ⟨rfl, rfl, rfl, by decide +kernel, rfl, by decide +kernel, by decide +kernel⟩
theorem fn_is_quotient (T : Tx K mg) : FnD P w K mg base 2 T.f_is_quotient T.fd_is_quotient ["value"] F_is_quotient := fnD_of (N := ["value"]) (k := 1) (g := g_is_quotient) T.F_is_quotient sc_is_quotient fun cdv A outer s H E hr => (show DSs _ _ _ g_is_quotient from
    (dss_cons (ds_if (db_w (dw_or (db_not (db_t (DE.dv (de_isa isa_tuple (by rfl) T.z_isinstance (by rfl) T.z_tuple PyProof.Rows.boot_tuple (DE.dv (de_v (pv 0))))) (fun _ => rfl))) (dw_or (db_c (opd_ne (Deep.of hr)) (DE.dv (de_callB cd_len (by rfl) T.z_len PySem.boot_len (da_cons (DE.dv (de_v (pv 0))) da_nil))) (DE.dv de_int) (nomark _)) (dw_or (db_not (db_t (DE.dv (de_cl (fn_is_integer T) (hr.mono (by decide)) (by rfl) T.m_is_integer T.k_is_integer T.b_is_integer (takes_of rfl rfl rfl rfl) (dc_cons (de_ix (DE.dv (de_v (pv 0))) (DE.dv de_int) (fun _ _ => rfl)) dc_nil))) (fun _ => rfl))) (dw_or1 (db_not (db_t (DE.dv (de_cl (fn_is_integer T) (hr.mono (by decide)) (by rfl) T.m_is_integer T.k_is_integer T.b_is_integer (takes_of rfl rfl rfl rfl) (dc_cons (de_ix (DE.dv (de_v (pv 0))) (DE.dv de_int) (fun _ _ => rfl)) dc_nil))) (fun _ => rfl))))))))
    (dss_one (ds_ret de_bl))
    dss_nil)
    (dss_one (ds_ret (de_and (de_cmp (opd_gt (Deep.of hr)) (DE.dv (de_ix (DE.dv (de_v (pv 0))) (DE.dv de_int) (fun _ _ => rfl))) (DE.dv de_int) (nomark _)) (de_one (de_cmp (opd_eq (Deep.of hr)) (DE.dv (de_cl (fn_divisor T) (hr.mono (by decide)) (by rfl) T.m_divisor T.k_divisor T.b_divisor (takes_of rfl rfl rfl rfl) (dc_cons (de_ix (DE.dv (de_v (pv 0))) (DE.dv de_int) (fun _ _ => rfl)) (dc_cons (de_ix (DE.dv (de_v (pv 0))) (DE.dv de_int) (fun _ _ => rfl)) dc_nil)))) (DE.dv de_int) (nomark _))))))))
theorem sc_is_day : FnScope ["value", "one"] ["value"] (defScope s_is_day) := ⟨rfl, rfl, rfl, by decide +kernel, rfl, by decide +kernel, by decide +kernel⟩
theorem fn_is_day (T : Tx K mg) : FnD P w K mg base 2 T.f_is_day T.fd_is_day ["value"] F_is_day := fnD_of (N := ["value", "one"]) (k := 1) (g := g_is_day) T.F_is_day sc_is_day fun cdv A outer s H E hr => (show DSs _ _ _ g_is_day from
    (dss_cons (ds_if (db_w (dw_or (db_not (db_t (DE.dv (de_isa isa_tuple (by rfl) T.z_isinstance (by rfl) T.z_tuple PyProof.Rows.boot_tuple (DE.dv (de_v (pv 0))))) (fun _ => rfl))) (dw_or (db_c (opd_ne (Deep.of hr)) (DE.dv (de_callB cd_len (by rfl) T.z_len PySem.boot_len (da_cons (DE.dv (de_v (pv 0))) da_nil))) (DE.dv de_int) (nomark _)) (dw_or1 (db_not (db_t (DE.dv (de_callB (cd_all rfl) (by rfl) T.z_all PyProof.Rows.boot_all (da_cons (DE.dv (DF.de (df_K (cLc_K tge_n) (df_lc (own := [("one", 1)]) (vs := [1]) rfl sc_is_day.nd (di_seq (de_v (pv 0))) (blkOk_by (by kernel_rfl)) (by decide) (fun _ _ _ _ _ => (dg_name (i := 1) sc_is_day.nd rfl (by first | exact .inl rfl | exact .inr rfl))) (fun _ _ _ _ _ => dt_nil) (fun _ _ _ _ _ => (de_cl (fn_is_whole T) (hr.mono (by decide)) (by rfl) T.m_is_whole T.k_is_whole T.b_is_whole takesW0 (dc_cons (de_v (pv 1)) (dc_cons de_int (dc_cons (de_op opd_sub (DE.dv (de_mc T.c_MINUTES (by rfl))) (DE.dv de_int)) dc_nil))))))))) da_nil))) (fun _ => rfl)))))))
    (dss_one (ds_ret de_bl))
    dss_nil)
    (dss_one (ds_ret (de_cmp (opd_lt (Deep.of hr)) (DE.dv (de_ix (DE.dv (de_v (pv 0))) (DE.dv de_int) (fun _ _ => rfl))) (DE.dv (de_ix (DE.dv (de_v (pv 0))) (DE.dv de_int) (fun _ _ => rfl))) (nomark _))))))
theorem sc__check_number : FnScope ["table", "number"] ["table", "number"] (defScope s__check_number) := ⟨rfl, rfl, rfl, by decide +kernel, rfl, by decide +kernel, by decide +kernel⟩
theorem fn__check_number (T : Tx K mg) : FnD P w K mg base 2 T.f__check_number T.fd__check_number ["table", "number"] F__check_number := fnD_of (N := ["table", "number"]) (k := 1) (g := g__check_number) T.F__check_number sc__check_number fun cdv A outer s H E hr => (show DSs _ _ _ g__check_number from
    (dss_one (ds_if (db_not (db_t (DE.dv (de_cl (fn_is_whole T) (hr.mono (by decide)) (by rfl) T.m_is_whole T.k_is_whole T.b_is_whole (takes_of rfl rfl rfl rfl) (dc_cons (de_v (pv 1)) (dc_cons (de_ix (DE.dv (de_ix (DE.dv (de_v (pv 0))) (DE.dv de_int) (fun _ _ => rfl))) (DE.dv de_int) (fun _ _ => rfl)) (dc_cons (de_ix (DE.dv (de_ix (DE.dv (de_v (pv 0))) (DE.dv (de_un und_neg de_int)) (fun _ _ => rfl))) (DE.dv de_int) (fun _ _ => rfl)) dc_nil))))) (fun _ => rfl)))
    (dss_one (ds_raise rfl (takes_of rfl rfl rfl rfl) PySem.F.excBase_ValueError T.x_BadNumber T.g_BadNumber T.k_BadNumber (raises_own T.s_BadNumber T.t_BadNumber) (by rfl)))
    dss_nil)))
theorem sc__law_told : FnScope ["day", "minute", "up", "down"] ["day", "minute"] (defScope s__law_told) := ⟨rfl, rfl, rfl, by decide +kernel, rfl, by decide +kernel, by decide +kernel⟩
theorem fn__law_told (T : Tx K mg) : FnD P w K mg base 2 T.f__law_told T.fd__law_told ["day", "minute"] F__law_told := fnD_of (N := ["day", "minute", "up", "down"]) (k := 1) (g := g__law_told) T.F__law_told sc__law_told fun cdv A outer s H E hr => (show DSs _ _ _ g__law_told from
    (dss_cons (ds_asg (de_v (pv 1)) (dg_tup (n := 2) rfl (dgs_cons (dg_name (i := 2) sc__law_told.nd rfl (by first | exact .inl rfl | exact .inr rfl)) (dgs_cons (dg_name (i := 3) sc__law_told.nd rfl (by first | exact .inl rfl | exact .inr rfl)) dgs_nil))))
    (dss_cons (ds_if (db_c (opd_lt (Deep.of hr)) (DE.dv (de_v (pv 2))) (DE.dv (de_op opd_mul (DE.dv (de_ix (DE.dv (de_v (pv 0))) (DE.dv de_int) (fun _ _ => rfl))) (DE.dv (de_v (pv 3))))) (nomark _))
    (dss_one (ds_ret (de_tup (dc_cons de_str (dc_cons (de_cl (fn__law_lowest T) (hr.mono (by decide)) (by rfl) T.m__law_lowest T.k__law_lowest T.b__law_lowest (takes_of rfl rfl rfl rfl) (dc_cons (de_op opd_mul (DE.dv de_int) (DE.dv (de_op opd_sub (DE.dv (de_v (pv 2))) (DE.dv (de_op opd_mul (DE.dv (de_ix (DE.dv (de_v (pv 0))) (DE.dv de_int) (fun _ _ => rfl))) (DE.dv (de_v (pv 3)))))))) (dc_cons (de_op opd_mul (DE.dv (de_v (pv 3))) (DE.dv (de_op opd_sub (DE.dv (de_ix (DE.dv (de_v (pv 0))) (DE.dv de_int) (fun _ _ => rfl))) (DE.dv (de_ix (DE.dv (de_v (pv 0))) (DE.dv de_int) (fun _ _ => rfl)))))) dc_nil))) dc_nil)))))
    dss_nil)
    (dss_one (ds_ret (de_tup (dc_cons de_str (dc_cons (de_cl (fn__law_lowest T) (hr.mono (by decide)) (by rfl) T.m__law_lowest T.k__law_lowest T.b__law_lowest (takes_of rfl rfl rfl rfl) (dc_cons (de_op opd_mul (DE.dv de_int) (DE.dv (de_op opd_sub (DE.dv (de_v (pv 2))) (DE.dv (de_op opd_mul (DE.dv (de_ix (DE.dv (de_v (pv 0))) (DE.dv de_int) (fun _ _ => rfl))) (DE.dv (de_v (pv 3)))))))) (dc_cons (de_op opd_mul (DE.dv (de_v (pv 3))) (DE.dv (de_op opd_add (DE.dv (de_op opd_sub (DE.dv de_int) (DE.dv (de_ix (DE.dv (de_v (pv 0))) (DE.dv de_int) (fun _ _ => rfl))))) (DE.dv (de_ix (DE.dv (de_v (pv 0))) (DE.dv de_int) (fun _ _ => rfl)))))) dc_nil))) dc_nil))))))))
theorem sc__law_ends : FnScope ["day", "light", "dark", "k"] ["day"] (defScope s__law_ends) := ⟨rfl, rfl, rfl, by decide +kernel, rfl, by decide +kernel, by decide +kernel⟩
theorem fn__law_ends (T : Tx K mg) : FnD P w K mg base 2 T.f__law_ends T.fd__law_ends ["day"] F__law_ends := fnD_of (N := ["day", "light", "dark", "k"]) (k := 1) (g := g__law_ends) T.F__law_ends sc__law_ends fun cdv A outer s H E hr => (show DSs _ _ _ g__law_ends from
    (dss_cons (ds_asg (de_tup (dc_cons (de_op opd_sub (DE.dv (de_ix (DE.dv (de_v (pv 0))) (DE.dv de_int) (fun _ _ => rfl))) (DE.dv (de_ix (DE.dv (de_v (pv 0))) (DE.dv de_int) (fun _ _ => rfl)))) (dc_cons (de_op opd_add (DE.dv (de_op opd_sub (DE.dv de_int) (DE.dv (de_ix (DE.dv (de_v (pv 0))) (DE.dv de_int) (fun _ _ => rfl))))) (DE.dv (de_ix (DE.dv (de_v (pv 0))) (DE.dv de_int) (fun _ _ => rfl)))) dc_nil))) (dg_tup (n := 2) rfl (dgs_cons (dg_name (i := 1) sc__law_ends.nd rfl (by first | exact .inl rfl | exact .inr rfl)) (dgs_cons (dg_name (i := 2) sc__law_ends.nd rfl (by first | exact .inl rfl | exact .inr rfl)) dgs_nil))))
    (dss_one (ds_ret (de_op opd_add (DE.dv (DF.de (df_K (cLc_K tge_n) (df_lc (own := [("k", 3)]) (vs := [3]) rfl sc__law_ends.nd (di_r1 (by rfl) T.z_range de_int) (blkOk_by (by kernel_rfl)) (by decide) (fun _ _ _ _ _ => (dg_name (i := 3) sc__law_ends.nd rfl (by first | exact .inl rfl | exact .inr rfl))) (fun _ _ _ _ _ => dt_nil) (fun _ _ _ _ _ => (de_cl (fn__law_lowest T) (hr.mono (by decide)) (by rfl) T.m__law_lowest T.k__law_lowest T.b__law_lowest takesW0 (dc_cons (de_op opd_add (DE.dv (de_op opd_mul (DE.dv de_int) (DE.dv (de_ix (DE.dv (de_v (pv 0))) (DE.dv de_int) (fun _ _ => rfl))))) (DE.dv (de_op opd_mul (DE.dv (de_op opd_add (DE.dv (de_v (pv 3))) (DE.dv de_int))) (DE.dv (de_v (pv 1)))))) (dc_cons de_int dc_nil)))))))) (DE.dv (DF.de (df_K (cLc_K tge_n) (df_lc (own := [("k", 3)]) (vs := [3]) rfl sc__law_ends.nd (di_r1 (by rfl) T.z_range de_int) (blkOk_by (by kernel_rfl)) (by decide) (fun _ _ _ _ _ => (dg_name (i := 3) sc__law_ends.nd rfl (by first | exact .inl rfl | exact .inr rfl))) (fun _ _ _ _ _ => dt_nil) (fun _ _ _ _ _ => (de_cl (fn__law_lowest T) (hr.mono (by decide)) (by rfl) T.m__law_lowest T.k__law_lowest T.b__law_lowest takesW0 (dc_cons (de_op opd_add (DE.dv (de_op opd_mul (DE.dv de_int) (DE.dv (de_ix (DE.dv (de_v (pv 0))) (DE.dv de_int) (fun _ _ => rfl))))) (DE.dv (de_op opd_mul (DE.dv (de_op opd_add (DE.dv (de_v (pv 3))) (DE.dv de_int))) (DE.dv (de_v (pv 2)))))) (dc_cons de_int dc_nil)))))))))))))
theorem sc__law_on : FnScope ["table", "number", "k", "low", "one", "high", "two", "j"] ["table", "number"] (defScope s__law_on) := ⟨rfl, rfl, rfl, by decide +kernel, rfl, by decide +kernel, by decide +kernel⟩
theorem fn__law_on (T : Tx K mg) : FnD P w K mg base 2 T.f__law_on T.fd__law_on ["table", "number"] F__law_on := fnD_of (N := ["table", "number", "k", "low", "one", "high", "two", "j"]) (k := 1) (g := g__law_on) T.F__law_on sc__law_on fun cdv A outer s H E hr => (show DSs _ _ _ g__law_on from
    (dss_cons (ds_for (passes_of rfl) rfl (di_r1 (by rfl) T.z_range (de_callB cd_len (by rfl) T.z_len PySem.boot_len (da_cons (DE.dv (de_v (pv 0))) da_nil))) (dg_name (i := 2) sc__law_on.nd rfl (by first | exact .inl rfl | exact .inr rfl))
    (dss_one (ds_if (db_c (opd_eq (Deep.of hr)) (DE.dv (de_ix (DE.dv (de_ix (DE.dv (de_v (pv 0))) (DE.dv (de_v (pv 2))) (fun _ _ => rfl))) (DE.dv de_int) (fun _ _ => rfl))) (DE.dv (de_v (pv 1))) (nomark _))
    (dss_one (ds_ret (de_tup (dc_cons (de_tup (dc_cons (de_ix (DE.dv (de_ix (DE.dv (de_ix (DE.dv (de_v (pv 0))) (DE.dv (de_v (pv 2))) (fun _ _ => rfl))) (DE.dv de_int) (fun _ _ => rfl))) (DE.dv de_int) (fun _ _ => rfl)) (dc_cons de_int dc_nil))) (dc_cons (de_tup (dc_cons (de_ix (DE.dv (de_ix (DE.dv (de_ix (DE.dv (de_v (pv 0))) (DE.dv (de_v (pv 2))) (fun _ _ => rfl))) (DE.dv de_int) (fun _ _ => rfl))) (DE.dv de_int) (fun _ _ => rfl)) (dc_cons de_int dc_nil))) dc_nil)))))
    dss_nil)))
    (dss_cons (ds_set (i := 2) sc__law_on.nd rfl (by first | exact .inl rfl | exact .inr rfl) (de_callB (cd_max rfl (Deep.of hr)) (by rfl) T.z_max PyProof.Rows.boot_max (da_cons (DE.dv (DF.de (df_K (cLc_K tge_n) (df_lc (own := [("j", 7)]) (vs := [7]) rfl sc__law_on.nd (di_r1 (by rfl) T.z_range (de_callB cd_len (by rfl) T.z_len PySem.boot_len (da_cons (DE.dv (de_v (pv 0))) da_nil))) (blkOk_by (by kernel_rfl)) (by decide) (fun _ _ _ _ _ => (dg_name (i := 7) sc__law_on.nd rfl (by first | exact .inl rfl | exact .inr rfl))) (fun _ _ _ _ _ => (dt_one (db_c (opd_lt (Deep.of hr)) (DE.dv (de_ix (DE.dv (de_ix (DE.dv (de_v (pv 0))) (DE.dv (de_v (pv 7))) (fun _ _ => rfl))) (DE.dv de_int) (fun _ _ => rfl))) (DE.dv (de_v (pv 1))) (nomark _)))) (fun _ _ _ _ _ => (de_v (pv 7))))))) da_nil)))
    (dss_cons (ds_asg (de_tup (dc_cons (de_ix (DE.dv (de_v (pv 0))) (DE.dv (de_v (pv 2))) (fun _ _ => rfl)) (dc_cons (de_ix (DE.dv (de_v (pv 0))) (DE.dv (de_op opd_add (DE.dv (de_v (pv 2))) (DE.dv de_int))) (fun _ _ => rfl)) dc_nil))) (dg_tup (n := 2) rfl (dgs_cons (dg_tup (n := 2) rfl (dgs_cons (dg_name (i := 3) sc__law_on.nd rfl (by first | exact .inl rfl | exact .inr rfl)) (dgs_cons (dg_name (i := 4) sc__law_on.nd rfl (by first | exact .inl rfl | exact .inr rfl)) dgs_nil))) (dgs_cons (dg_tup (n := 2) rfl (dgs_cons (dg_name (i := 5) sc__law_on.nd rfl (by first | exact .inl rfl | exact .inr rfl)) (dgs_cons (dg_name (i := 6) sc__law_on.nd rfl (by first | exact .inl rfl | exact .inr rfl)) dgs_nil))) dgs_nil))))
    (dss_one (ds_ret (de_callTy cd_tuple (by rfl) T.z_tuple PyProof.Rows.boot_tuple (da_cons (DE.dv (DF.de (df_K (cLc_K tge_n) (df_lc (own := [("j", 7)]) (vs := [7]) rfl sc__law_on.nd (di_r1 (by rfl) T.z_range de_int) (blkOk_by (by kernel_rfl)) (by decide) (fun _ _ _ _ _ => (dg_name (i := 7) sc__law_on.nd rfl (by first | exact .inl rfl | exact .inr rfl))) (fun _ _ _ _ _ => dt_nil) (fun _ _ _ _ _ => (de_cl (fn__law_lowest T) (hr.mono (by decide)) (by rfl) T.m__law_lowest T.k__law_lowest T.b__law_lowest takesW0 (dc_cons (de_op opd_add (DE.dv (de_op opd_mul (DE.dv (de_ix (DE.dv (de_v (pv 4))) (DE.dv (de_v (pv 7))) (fun _ _ => rfl))) (DE.dv (de_op opd_sub (DE.dv (de_v (pv 5))) (DE.dv (de_v (pv 1))))))) (DE.dv (de_op opd_mul (DE.dv (de_ix (DE.dv (de_v (pv 6))) (DE.dv (de_v (pv 7))) (fun _ _ => rfl))) (DE.dv (de_op opd_sub (DE.dv (de_v (pv 1))) (DE.dv (de_v (pv 3)))))))) (dc_cons (de_op opd_sub (DE.dv (de_v (pv 5))) (DE.dv (de_v (pv 3)))) dc_nil)))))))) da_nil))))))))
theorem sc_plus : FnScope ["one", "other"] ["one", "other"] (defScope s_plus) := ⟨rfl, rfl, rfl, by decide +kernel, rfl, by decide +kernel, by decide +kernel⟩
theorem fn_plus (T : Tx K mg) : FnD P w K mg base 3 T.f_plus T.fd_plus ["one", "other"] F_plus := fnD_of (N := ["one", "other"]) (k := 2) (g := g_plus) T.F_plus sc_plus fun cdv A outer s H E hr => (show DSs _ _ _ g_plus from
    (dss_one (ds_ret (de_cl (fn_quotient T) (hr.mono (by decide)) (by rfl) T.m_quotient T.k_quotient T.b_quotient (takes_of rfl rfl rfl rfl) (dc_cons (de_op opd_add (DE.dv (de_op opd_mul (DE.dv (de_ix (DE.dv (de_v (pv 0))) (DE.dv de_int) (fun _ _ => rfl))) (DE.dv (de_ix (DE.dv (de_v (pv 1))) (DE.dv de_int) (fun _ _ => rfl))))) (DE.dv (de_op opd_mul (DE.dv (de_ix (DE.dv (de_v (pv 1))) (DE.dv de_int) (fun _ _ => rfl))) (DE.dv (de_ix (DE.dv (de_v (pv 0))) (DE.dv de_int) (fun _ _ => rfl)))))) (dc_cons (de_op opd_mul (DE.dv (de_ix (DE.dv (de_v (pv 0))) (DE.dv de_int) (fun _ _ => rfl))) (DE.dv (de_ix (DE.dv (de_v (pv 1))) (DE.dv de_int) (fun _ _ => rfl)))) dc_nil))))))
theorem sc_minus : FnScope ["one", "other"] ["one", "other"] (defScope s_minus) := ⟨rfl, rfl, rfl, by decide +kernel, rfl, by decide +kernel, by decide +kernel⟩
theorem fn_minus (T : Tx K mg) : FnD P w K mg base 3 T.f_minus T.fd_minus ["one", "other"] F_minus := fnD_of (N := ["one", "other"]) (k := 2) (g := g_minus) T.F_minus sc_minus fun cdv A outer s H E hr => (show DSs _ _ _ g_minus from
    (dss_one (ds_ret (de_cl (fn_quotient T) (hr.mono (by decide)) (by rfl) T.m_quotient T.k_quotient T.b_quotient (takes_of rfl rfl rfl rfl) (dc_cons (de_op opd_sub (DE.dv (de_op opd_mul (DE.dv (de_ix (DE.dv (de_v (pv 0))) (DE.dv de_int) (fun _ _ => rfl))) (DE.dv (de_ix (DE.dv (de_v (pv 1))) (DE.dv de_int) (fun _ _ => rfl))))) (DE.dv (de_op opd_mul (DE.dv (de_ix (DE.dv (de_v (pv 1))) (DE.dv de_int) (fun _ _ => rfl))) (DE.dv (de_ix (DE.dv (de_v (pv 0))) (DE.dv de_int) (fun _ _ => rfl)))))) (dc_cons (de_op opd_mul (DE.dv (de_ix (DE.dv (de_v (pv 0))) (DE.dv de_int) (fun _ _ => rfl))) (DE.dv (de_ix (DE.dv (de_v (pv 1))) (DE.dv de_int) (fun _ _ => rfl)))) dc_nil))))))
theorem sc_times : FnScope ["one", "other"] ["one", "other"] (defScope s_times) := ⟨rfl, rfl, rfl, by decide +kernel, rfl, by decide +kernel, by decide +kernel⟩
theorem fn_times (T : Tx K mg) : FnD P w K mg base 3 T.f_times T.fd_times ["one", "other"] F_times := fnD_of (N := ["one", "other"]) (k := 2) (g := g_times) T.F_times sc_times fun cdv A outer s H E hr => (show DSs _ _ _ g_times from
    (dss_one (ds_ret (de_cl (fn_quotient T) (hr.mono (by decide)) (by rfl) T.m_quotient T.k_quotient T.b_quotient (takes_of rfl rfl rfl rfl) (dc_cons (de_op opd_mul (DE.dv (de_ix (DE.dv (de_v (pv 0))) (DE.dv de_int) (fun _ _ => rfl))) (DE.dv (de_ix (DE.dv (de_v (pv 1))) (DE.dv de_int) (fun _ _ => rfl)))) (dc_cons (de_op opd_mul (DE.dv (de_ix (DE.dv (de_v (pv 0))) (DE.dv de_int) (fun _ _ => rfl))) (DE.dv (de_ix (DE.dv (de_v (pv 1))) (DE.dv de_int) (fun _ _ => rfl)))) dc_nil))))))
theorem sc_over : FnScope ["one", "other"] ["one", "other"] (defScope s_over) := ⟨rfl, rfl, rfl, by decide +kernel, rfl, by decide +kernel, by decide +kernel⟩
theorem fn_over (T : Tx K mg) : FnD P w K mg base 3 T.f_over T.fd_over ["one", "other"] F_over := fnD_of (N := ["one", "other"]) (k := 2) (g := g_over) T.F_over sc_over fun cdv A outer s H E hr => (show DSs _ _ _ g_over from
    (dss_one (ds_ret (de_cl (fn_quotient T) (hr.mono (by decide)) (by rfl) T.m_quotient T.k_quotient T.b_quotient (takes_of rfl rfl rfl rfl) (dc_cons (de_op opd_mul (DE.dv (de_ix (DE.dv (de_v (pv 0))) (DE.dv de_int) (fun _ _ => rfl))) (DE.dv (de_ix (DE.dv (de_v (pv 1))) (DE.dv de_int) (fun _ _ => rfl)))) (dc_cons (de_op opd_mul (DE.dv (de_ix (DE.dv (de_v (pv 0))) (DE.dv de_int) (fun _ _ => rfl))) (DE.dv (de_ix (DE.dv (de_v (pv 1))) (DE.dv de_int) (fun _ _ => rfl)))) dc_nil))))))
theorem sc__check_day : FnScope ["day"] ["day"] (defScope s__check_day) := ⟨rfl, rfl, rfl, by decide +kernel, rfl, by decide +kernel, by decide +kernel⟩
theorem fn__check_day (T : Tx K mg) : FnD P w K mg base 3 T.f__check_day T.fd__check_day ["day"] F__check_day := fnD_of (N := ["day"]) (k := 2) (g := g__check_day) T.F__check_day sc__check_day fun cdv A outer s H E hr => (show DSs _ _ _ g__check_day from
    (dss_one (ds_if (db_not (db_t (DE.dv (de_cl (fn_is_day T) (hr.mono (by decide)) (by rfl) T.m_is_day T.k_is_day T.b_is_day (takes_of rfl rfl rfl rfl) (dc_cons (de_v (pv 0)) dc_nil))) (fun _ => rfl)))
    (dss_one (ds_raise rfl (takes_of rfl rfl rfl rfl) PySem.F.excBase_ValueError T.x_BadDay T.g_BadDay T.k_BadDay (raises_own T.s_BadDay T.t_BadDay) (by rfl)))
    dss_nil)))
theorem sc__lengths : FnScope ["day", "light"] ["day"] (defScope s__lengths) := ⟨rfl, rfl, rfl, by decide +kernel, rfl, by decide +kernel, by decide +kernel⟩
theorem fn__lengths (T : Tx K mg) : FnD P w K mg base 3 T.f__lengths T.fd__lengths ["day"] F__lengths := fnD_of (N := ["day", "light"]) (k := 2) (g := g__lengths) T.F__lengths sc__lengths fun cdv A outer s H E hr => (show DSs _ _ _ g__lengths from
    (dss_cons (ds_set (i := 1) sc__lengths.nd rfl (by first | exact .inl rfl | exact .inr rfl) (de_op opd_sub (DE.dv (de_ix (DE.dv (de_v (pv 0))) (DE.dv de_int) (fun _ _ => rfl))) (DE.dv (de_ix (DE.dv (de_v (pv 0))) (DE.dv de_int) (fun _ _ => rfl)))))
    (dss_one (ds_ret (de_tup (dc_cons (de_cl (fn_quotient T) (hr.mono (by decide)) (by rfl) T.m_quotient T.k_quotient T.b_quotient (takes_of rfl rfl rfl rfl) (dc_cons (de_v (pv 1)) (dc_cons (de_mc T.c_HOURS (by rfl)) dc_nil))) (dc_cons (de_cl (fn_quotient T) (hr.mono (by decide)) (by rfl) T.m_quotient T.k_quotient T.b_quotient (takes_of rfl rfl rfl rfl) (dc_cons (de_op opd_sub (DE.dv (de_mc T.c_MINUTES (by rfl))) (DE.dv (de_v (pv 1)))) (dc_cons (de_mc T.c_HOURS (by rfl)) dc_nil))) dc_nil)))))))
theorem sc__is_told : FnScope ["value"] ["value"] (defScope s__is_told) := ⟨rfl, rfl, rfl, by decide +kernel, rfl, by decide +kernel, by decide +kernel⟩
theorem fn__is_told (T : Tx K mg) : FnD P w K mg base 3 T.f__is_told T.fd__is_told ["value"] F__is_told := fnD_of (N := ["value"]) (k := 2) (g := g__is_told) T.F__is_told sc__is_told fun cdv A outer s H E hr => (show DSs _ _ _ g__is_told from
    (dss_cons (ds_if (db_w (dw_or (db_not (db_t (DE.dv (de_isa isa_tuple (by rfl) T.z_isinstance (by rfl) T.z_tuple PyProof.Rows.boot_tuple (DE.dv (de_v (pv 0))))) (fun _ => rfl))) (dw_or (db_c (opd_ne (Deep.of hr)) (DE.dv (de_callB cd_len (by rfl) T.z_len PySem.boot_len (da_cons (DE.dv (de_v (pv 0))) da_nil))) (DE.dv de_int) (nomark _)) (dw_or (db_not (db_t (DE.dv (de_isa isa_str (by rfl) T.z_isinstance (by rfl) T.z_str PyProof.Rows.boot_str (DE.dv (de_ix (DE.dv (de_v (pv 0))) (DE.dv de_int) (fun _ _ => rfl))))) (fun _ => rfl))) (dw_or1 (db_c (opd_notin (Deep.of hr)) (DE.dv (de_ix (DE.dv (de_v (pv 0))) (DE.dv de_int) (fun _ _ => rfl))) (DE.dv (de_tup (dc_cons (de_mc T.c_DAY (by rfl)) (dc_cons (de_mc T.c_NIGHT (by rfl)) dc_nil)))) (by with_unfolding_all rfl)))))))
    (dss_one (ds_ret de_bl))
    dss_nil)
    (dss_one (ds_ret (de_and (de_cl (fn_is_quotient T) (hr.mono (by decide)) (by rfl) T.m_is_quotient T.k_is_quotient T.b_is_quotient (takes_of rfl rfl rfl rfl) (dc_cons (de_ix (DE.dv (de_v (pv 0))) (DE.dv de_int) (fun _ _ => rfl)) dc_nil)) (de_and (de_not (DE.dv (de_cl (fn_is_less T) (hr.mono (by decide)) (by rfl) T.m_is_less T.k_is_less T.b_is_less (takes_of rfl rfl rfl rfl) (dc_cons (de_ix (DE.dv (de_v (pv 0))) (DE.dv de_int) (fun _ _ => rfl)) (dc_cons (de_mc T.c_NOTHING (by rfl)) dc_nil))))) (de_one (de_cl (fn_is_less T) (hr.mono (by decide)) (by rfl) T.m_is_less T.k_is_less T.b_is_less (takes_of rfl rfl rfl rfl) (dc_cons (de_ix (DE.dv (de_v (pv 0))) (DE.dv de_int) (fun _ _ => rfl)) (dc_cons (de_tup (dc_cons (de_mc T.c_HOURS (by rfl)) (dc_cons de_int dc_nil))) dc_nil))))))))))
theorem sc__check_table : FnScope ["table", "one"] ["table"] (defScope s__check_table) := ⟨rfl, rfl, rfl, by decide +kernel, rfl, by decide +kernel, by decide +kernel⟩
theorem fn__check_table (T : Tx K mg) : FnD P w K mg base 3 T.f__check_table T.fd__check_table ["table"] F__check_table := fnD_of (N := ["table", "one"]) (k := 2) (g := g__check_table) T.F__check_table sc__check_table fun cdv A outer s H E hr => (show DSs _ _ _ g__check_table from
    (dss_cons (ds_if (db_w (dw_or (db_not (db_t (DE.dv (de_isa isa_tuple (by rfl) T.z_isinstance (by rfl) T.z_tuple PyProof.Rows.boot_tuple (DE.dv (de_v (pv 0))))) (fun _ => rfl))) (dw_or1 (db_not (db_chain (opd_le (Deep.of hr)) (opd_le (Deep.of hr)) (DE.dv de_int) (DE.dv (de_callB cd_len (by rfl) T.z_len PySem.boot_len (da_cons (DE.dv (de_v (pv 0))) da_nil))) (DE.dv (de_mc T.c_MOST_ROWS (by rfl))))))))
    (dss_one (ds_raise rfl (takes_of rfl rfl rfl rfl) PySem.F.excBase_ValueError T.x_BadTable T.g_BadTable T.k_BadTable (raises_own T.s_BadTable T.t_BadTable) (by rfl)))
    dss_nil)
    (dss_cons (ds_if (db_not (db_t (DE.dv (de_callB (cd_all rfl) (by rfl) T.z_all PyProof.Rows.boot_all (da_cons (DE.dv (DF.de (df_K (cLc_K tge_n) (df_lc (own := [("one", 1)]) (vs := [1]) rfl sc__check_table.nd (di_seq (de_v (pv 0))) (blkOk_by (by kernel_rfl)) (by decide) (fun _ _ _ _ _ => (dg_name (i := 1) sc__check_table.nd rfl (by first | exact .inl rfl | exact .inr rfl))) (fun _ _ _ _ _ => dt_nil) (fun _ _ _ _ _ => (de_and (de_isa isa_tuple (by rfl) T.z_isinstance (by rfl) T.z_tuple PyProof.Rows.boot_tuple (DE.dv (de_v (pv 1)))) (de_and (de_cmp (opd_eq (Deep.of hr)) (DE.dv (de_callB cd_len (by rfl) T.z_len PySem.boot_len (da_cons (DE.dv (de_v (pv 1))) da_nil))) (DE.dv de_int) (nomark _)) (de_one (de_cl (fn_is_day T) (hr.mono (by decide)) (by rfl) T.m_is_day T.k_is_day T.b_is_day takesW0 (dc_cons (de_ix (DE.dv (de_v (pv 1))) (DE.dv de_int) (fun _ _ => rfl)) dc_nil)))))))))) da_nil))) (fun _ => rfl)))
    (dss_one (ds_raise rfl (takes_of rfl rfl rfl rfl) PySem.F.excBase_ValueError T.x_BadTable T.g_BadTable T.k_BadTable (raises_own T.s_BadTable T.t_BadTable) (by rfl)))
    dss_nil)
    (dss_one (ds_if (db_w (dw_or (db_not (db_t (DE.dv (de_callB (cd_all rfl) (by rfl) T.z_all PyProof.Rows.boot_all (da_cons (DE.dv (DF.de (df_K (cLc_K tge_n) (df_lc (own := [("one", 1)]) (vs := [1]) rfl sc__check_table.nd (di_seq (de_v (pv 0))) (blkOk_by (by kernel_rfl)) (by decide) (fun _ _ _ _ _ => (dg_name (i := 1) sc__check_table.nd rfl (by first | exact .inl rfl | exact .inr rfl))) (fun _ _ _ _ _ => dt_nil) (fun _ _ _ _ _ => (de_cl (fn_is_whole T) (hr.mono (by decide)) (by rfl) T.m_is_whole T.k_is_whole T.b_is_whole takesW0 (dc_cons (de_ix (DE.dv (de_v (pv 1))) (DE.dv de_int) (fun _ _ => rfl)) (dc_cons de_int (dc_cons (de_mc T.c_MOST_NUMBER (by rfl)) dc_nil))))))))) da_nil))) (fun _ => rfl))) (dw_or1 (db_not (db_t (DE.dv (de_cl (fn_ascends T) (hr.mono (by decide)) (by rfl) T.m_ascends T.k_ascends T.b_ascends (takes_of rfl rfl rfl rfl) (dc_cons (DF.de (df_K (cLc_K tge_n) (df_lc (own := [("one", 1)]) (vs := [1]) rfl sc__check_table.nd (di_seq (de_v (pv 0))) (blkOk_by (by kernel_rfl)) (by decide) (fun _ _ _ _ _ => (dg_name (i := 1) sc__check_table.nd rfl (by first | exact .inl rfl | exact .inr rfl))) (fun _ _ _ _ _ => dt_nil) (fun _ _ _ _ _ => (de_ix (DE.dv (de_v (pv 1))) (DE.dv de_int) (fun _ _ => rfl)))))) dc_nil))) (fun _ => rfl))))))
    (dss_one (ds_raise rfl (takes_of rfl rfl rfl rfl) PySem.F.excBase_ValueError T.x_BadTable T.g_BadTable T.k_BadTable (raises_own T.s_BadTable T.t_BadTable) (by rfl)))
    dss_nil)))))
theorem sc__between : FnScope ["one", "other", "number", "place", "width", "more"] ["one", "other", "number", "place"] (defScope s__between) := ⟨rfl, rfl, rfl, by decide +kernel, rfl, by decide +kernel, by decide +kernel⟩
theorem fn__between (T : Tx K mg) : FnD P w K mg base 3 T.f__between T.fd__between ["one", "other", "number", "place"] F__between := fnD_of (N := ["one", "other", "number", "place", "width", "more"]) (k := 2) (g := g__between) T.F__between sc__between fun cdv A outer s H E hr => (show DSs _ _ _ g__between from
    (dss_cons (ds_set (i := 4) sc__between.nd rfl (by first | exact .inl rfl | exact .inr rfl) (de_op opd_sub (DE.dv (de_ix (DE.dv (de_v (pv 1))) (DE.dv de_int) (fun _ _ => rfl))) (DE.dv (de_ix (DE.dv (de_v (pv 0))) (DE.dv de_int) (fun _ _ => rfl)))))
    (dss_cons (ds_set (i := 5) sc__between.nd rfl (by first | exact .inl rfl | exact .inr rfl) (de_op opd_mul (DE.dv (de_op opd_sub (DE.dv (de_ix (DE.dv (de_ix (DE.dv (de_v (pv 1))) (DE.dv de_int) (fun _ _ => rfl))) (DE.dv (de_v (pv 3))) (fun _ _ => rfl))) (DE.dv (de_ix (DE.dv (de_ix (DE.dv (de_v (pv 0))) (DE.dv de_int) (fun _ _ => rfl))) (DE.dv (de_v (pv 3))) (fun _ _ => rfl))))) (DE.dv (de_op opd_sub (DE.dv (de_v (pv 2))) (DE.dv (de_ix (DE.dv (de_v (pv 0))) (DE.dv de_int) (fun _ _ => rfl)))))))
    (dss_one (ds_ret (de_cl (fn_quotient T) (hr.mono (by decide)) (by rfl) T.m_quotient T.k_quotient T.b_quotient (takes_of rfl rfl rfl rfl) (dc_cons (de_op opd_add (DE.dv (de_op opd_mul (DE.dv (de_ix (DE.dv (de_ix (DE.dv (de_v (pv 0))) (DE.dv de_int) (fun _ _ => rfl))) (DE.dv (de_v (pv 3))) (fun _ _ => rfl))) (DE.dv (de_v (pv 4))))) (DE.dv (de_v (pv 5)))) (dc_cons (de_v (pv 4)) dc_nil))))))))
theorem sc_hour_lengths : FnScope ["day"] ["day"] (defScope s_hour_lengths) := ⟨rfl, rfl, rfl, by decide +kernel, rfl, by decide +kernel, by decide +kernel⟩
theorem fn_hour_lengths (T : Tx K mg) : FnD P w K mg base 4 T.f_hour_lengths T.fd_hour_lengths ["day"] F_hour_lengths := fnD_of (N := ["day"]) (k := 3) (g := g_hour_lengths) T.F_hour_lengths sc_hour_lengths fun cdv A outer s H E hr => (show DSs _ _ _ g_hour_lengths from
    (dss_cons (ds_expr (de_cl (fn__check_day T) (hr.mono (by decide)) (by rfl) T.m__check_day T.k__check_day T.b__check_day (takes_of rfl rfl rfl rfl) (dc_cons (de_v (pv 0)) dc_nil)))
    (dss_one (ds_ret (de_cl (fn__lengths T) (hr.mono (by decide)) (by rfl) T.m__lengths T.k__lengths T.b__lengths (takes_of rfl rfl rfl rfl) (dc_cons (de_v (pv 0)) dc_nil))))))
theorem sc__check_moment : FnScope ["day", "minute"] ["day", "minute"] (defScope s__check_moment) := ⟨rfl, rfl, rfl, by decide +kernel, rfl, by decide +kernel, by decide +kernel⟩
theorem fn__check_moment (T : Tx K mg) : FnD P w K mg base 4 T.f__check_moment T.fd__check_moment ["day", "minute"] F__check_moment := fnD_of (N := ["day", "minute"]) (k := 3) (g := g__check_moment) T.F__check_moment sc__check_moment fun cdv A outer s H E hr => (show DSs _ _ _ g__check_moment from
    (dss_cons (ds_expr (de_cl (fn__check_day T) (hr.mono (by decide)) (by rfl) T.m__check_day T.k__check_day T.b__check_day (takes_of rfl rfl rfl rfl) (dc_cons (de_v (pv 0)) dc_nil)))
    (dss_one (ds_if (db_w (dw_or (db_not (db_t (DE.dv (de_cl (fn_is_quotient T) (hr.mono (by decide)) (by rfl) T.m_is_quotient T.k_is_quotient T.b_is_quotient (takes_of rfl rfl rfl rfl) (dc_cons (de_v (pv 1)) dc_nil))) (fun _ => rfl))) (dw_or (db_t (DE.dv (de_cl (fn_is_less T) (hr.mono (by decide)) (by rfl) T.m_is_less T.k_is_less T.b_is_less (takes_of rfl rfl rfl rfl) (dc_cons (de_v (pv 1)) (dc_cons (de_tup (dc_cons (de_ix (DE.dv (de_v (pv 0))) (DE.dv de_int) (fun _ _ => rfl)) (dc_cons de_int dc_nil))) dc_nil)))) (fun _ => rfl)) (dw_or1 (db_not (db_t (DE.dv (de_cl (fn_is_less T) (hr.mono (by decide)) (by rfl) T.m_is_less T.k_is_less T.b_is_less (takes_of rfl rfl rfl rfl) (dc_cons (de_v (pv 1)) (dc_cons (de_tup (dc_cons (de_op opd_add (DE.dv (de_ix (DE.dv (de_v (pv 0))) (DE.dv de_int) (fun _ _ => rfl))) (DE.dv (de_mc T.c_MINUTES (by rfl)))) (dc_cons de_int dc_nil))) dc_nil)))) (fun _ => rfl)))))))
    (dss_one (ds_raise rfl (takes_of rfl rfl rfl rfl) PySem.F.excBase_ValueError T.x_BadMoment T.g_BadMoment T.k_BadMoment (raises_own T.s_BadMoment T.t_BadMoment) (by rfl)))
    dss_nil))))
theorem sc__told_at : FnScope ["day", "minute", "light", "dark"] ["day", "minute"] (defScope s__told_at) := ⟨rfl, rfl, rfl, by decide +kernel, rfl, by decide +kernel, by decide +kernel⟩
theorem fn__told_at (T : Tx K mg) : FnD P w K mg base 4 T.f__told_at T.fd__told_at ["day", "minute"] F__told_at := fnD_of (N := ["day", "minute", "light", "dark"]) (k := 3) (g := g__told_at) T.F__told_at sc__told_at fun cdv A outer s H E hr => (show DSs _ _ _ g__told_at from
    (dss_cons (ds_asg (de_cl (fn__lengths T) (hr.mono (by decide)) (by rfl) T.m__lengths T.k__lengths T.b__lengths (takes_of rfl rfl rfl rfl) (dc_cons (de_v (pv 0)) dc_nil)) (dg_tup (n := 2) rfl (dgs_cons (dg_name (i := 2) sc__told_at.nd rfl (by first | exact .inl rfl | exact .inr rfl)) (dgs_cons (dg_name (i := 3) sc__told_at.nd rfl (by first | exact .inl rfl | exact .inr rfl)) dgs_nil))))
    (dss_cons (ds_if (db_t (DE.dv (de_cl (fn_is_less T) (hr.mono (by decide)) (by rfl) T.m_is_less T.k_is_less T.b_is_less (takes_of rfl rfl rfl rfl) (dc_cons (de_v (pv 1)) (dc_cons (de_tup (dc_cons (de_ix (DE.dv (de_v (pv 0))) (DE.dv de_int) (fun _ _ => rfl)) (dc_cons de_int dc_nil))) dc_nil)))) (fun _ => rfl))
    (dss_one (ds_ret (de_tup (dc_cons (de_mc T.c_DAY (by rfl)) (dc_cons (de_cl (fn_over T) (hr.mono (by decide)) (by rfl) T.m_over T.k_over T.b_over (takes_of rfl rfl rfl rfl) (dc_cons (de_cl (fn_minus T) (hr.mono (by decide)) (by rfl) T.m_minus T.k_minus T.b_minus (takes_of rfl rfl rfl rfl) (dc_cons (de_v (pv 1)) (dc_cons (de_tup (dc_cons (de_ix (DE.dv (de_v (pv 0))) (DE.dv de_int) (fun _ _ => rfl)) (dc_cons de_int dc_nil))) dc_nil))) (dc_cons (de_v (pv 2)) dc_nil))) dc_nil)))))
    dss_nil)
    (dss_one (ds_ret (de_tup (dc_cons (de_mc T.c_NIGHT (by rfl)) (dc_cons (de_cl (fn_over T) (hr.mono (by decide)) (by rfl) T.m_over T.k_over T.b_over (takes_of rfl rfl rfl rfl) (dc_cons (de_cl (fn_minus T) (hr.mono (by decide)) (by rfl) T.m_minus T.k_minus T.b_minus (takes_of rfl rfl rfl rfl) (dc_cons (de_v (pv 1)) (dc_cons (de_tup (dc_cons (de_ix (DE.dv (de_v (pv 0))) (DE.dv de_int) (fun _ _ => rfl)) (dc_cons de_int dc_nil))) dc_nil))) (dc_cons (de_v (pv 3)) dc_nil))) dc_nil))))))))
theorem sc_minute_of : FnScope ["day", "told", "light", "dark", "begin", "length"] ["day", "told"] (defScope s_minute_of) := ⟨rfl, rfl, rfl, by decide +kernel, rfl, by decide +kernel, by decide +kernel⟩
theorem fn_minute_of (T : Tx K mg) : FnD P w K mg base 4 T.f_minute_of T.fd_minute_of ["day", "told"] F_minute_of := fnD_of (N := ["day", "told", "light", "dark", "begin", "length"]) (k := 3) (g := g_minute_of) T.F_minute_of sc_minute_of fun cdv A outer s H E hr => (show DSs _ _ _ g_minute_of from
    (dss_cons (ds_expr (de_cl (fn__check_day T) (hr.mono (by decide)) (by rfl) T.m__check_day T.k__check_day T.b__check_day (takes_of rfl rfl rfl rfl) (dc_cons (de_v (pv 0)) dc_nil)))
    (dss_cons (ds_if (db_not (db_t (DE.dv (de_cl (fn__is_told T) (hr.mono (by decide)) (by rfl) T.m__is_told T.k__is_told T.b__is_told (takes_of rfl rfl rfl rfl) (dc_cons (de_v (pv 1)) dc_nil))) (fun _ => rfl)))
    (dss_one (ds_raise rfl (takes_of rfl rfl rfl rfl) PySem.F.excBase_ValueError T.x_BadTold T.g_BadTold T.k_BadTold (raises_own T.s_BadTold T.t_BadTold) (by rfl)))
    dss_nil)
    (dss_cons (ds_asg (de_cl (fn__lengths T) (hr.mono (by decide)) (by rfl) T.m__lengths T.k__lengths T.b__lengths (takes_of rfl rfl rfl rfl) (dc_cons (de_v (pv 0)) dc_nil)) (dg_tup (n := 2) rfl (dgs_cons (dg_name (i := 2) sc_minute_of.nd rfl (by first | exact .inl rfl | exact .inr rfl)) (dgs_cons (dg_name (i := 3) sc_minute_of.nd rfl (by first | exact .inl rfl | exact .inr rfl)) dgs_nil))))
    (dss_cons (ds_asg (de_if (db_c (opd_eq (Deep.of hr)) (DE.dv (de_ix (DE.dv (de_v (pv 1))) (DE.dv de_int) (fun _ _ => rfl))) (DE.dv (de_mc T.c_DAY (by rfl))) (nomark _)) (de_tup (dc_cons (de_ix (DE.dv (de_v (pv 0))) (DE.dv de_int) (fun _ _ => rfl)) (dc_cons (de_v (pv 2)) dc_nil))) (de_tup (dc_cons (de_ix (DE.dv (de_v (pv 0))) (DE.dv de_int) (fun _ _ => rfl)) (dc_cons (de_v (pv 3)) dc_nil)))) (dg_tup (n := 2) rfl (dgs_cons (dg_name (i := 4) sc_minute_of.nd rfl (by first | exact .inl rfl | exact .inr rfl)) (dgs_cons (dg_name (i := 5) sc_minute_of.nd rfl (by first | exact .inl rfl | exact .inr rfl)) dgs_nil))))
    (dss_one (ds_ret (de_cl (fn_plus T) (hr.mono (by decide)) (by rfl) T.m_plus T.k_plus T.b_plus (takes_of rfl rfl rfl rfl) (dc_cons (de_tup (dc_cons (de_v (pv 4)) (dc_cons de_int dc_nil))) (dc_cons (de_cl (fn_times T) (hr.mono (by decide)) (by rfl) T.m_times T.k_times T.b_times (takes_of rfl rfl rfl rfl) (dc_cons (de_ix (DE.dv (de_v (pv 1))) (DE.dv de_int) (fun _ _ => rfl)) (dc_cons (de_v (pv 5)) dc_nil))) dc_nil))))))))))
theorem sc__day_on : FnScope ["table", "number", "ahead", "behind", "row"] ["table", "number"] (defScope s__day_on) := ⟨rfl, rfl, rfl, by decide +kernel, rfl, by decide +kernel, by decide +kernel⟩
theorem fn__day_on (T : Tx K mg) : FnD P w K mg base 4 T.f__day_on T.fd__day_on ["table", "number"] F__day_on := fnD_of (N := ["table", "number", "ahead", "behind", "row"]) (k := 3) (g := g__day_on) T.F__day_on sc__day_on fun cdv A outer s H E hr => (show DSs _ _ _ g__day_on from
    (dss_cons (ds_set (i := 2) sc__day_on.nd rfl (by first | exact .inl rfl | exact .inr rfl) (de_ix (DE.dv (DF.de (df_K (cLc_K tge_n) (df_lc (own := [("row", 4)]) (vs := [4]) rfl sc__day_on.nd (di_seq (de_v (pv 0))) (blkOk_by (by kernel_rfl)) (by decide) (fun _ _ _ _ _ => (dg_name (i := 4) sc__day_on.nd rfl (by first | exact .inl rfl | exact .inr rfl))) (fun _ _ _ _ _ => (dt_one (db_c (opd_le (Deep.of hr)) (DE.dv (de_ix (DE.dv (de_v (pv 4))) (DE.dv de_int) (fun _ _ => rfl))) (DE.dv (de_v (pv 1))) (nomark _)))) (fun _ _ _ _ _ => (de_v (pv 4))))))) (DE.dv (de_un und_neg de_int)) (fun _ _ => rfl)))
    (dss_cons (ds_if (db_c (opd_eq (Deep.of hr)) (DE.dv (de_ix (DE.dv (de_v (pv 2))) (DE.dv de_int) (fun _ _ => rfl))) (DE.dv (de_v (pv 1))) (nomark _))
    (dss_one (ds_ret (de_tup (dc_cons (de_tup (dc_cons (de_ix (DE.dv (de_ix (DE.dv (de_v (pv 2))) (DE.dv de_int) (fun _ _ => rfl))) (DE.dv de_int) (fun _ _ => rfl)) (dc_cons de_int dc_nil))) (dc_cons (de_tup (dc_cons (de_ix (DE.dv (de_ix (DE.dv (de_v (pv 2))) (DE.dv de_int) (fun _ _ => rfl))) (DE.dv de_int) (fun _ _ => rfl)) (dc_cons de_int dc_nil))) dc_nil)))))
    dss_nil)
    (dss_cons (ds_set (i := 3) sc__day_on.nd rfl (by first | exact .inl rfl | exact .inr rfl) (de_ix (DE.dv (DF.de (df_K (cLc_K tge_n) (df_lc (own := [("row", 4)]) (vs := [4]) rfl sc__day_on.nd (di_seq (de_v (pv 0))) (blkOk_by (by kernel_rfl)) (by decide) (fun _ _ _ _ _ => (dg_name (i := 4) sc__day_on.nd rfl (by first | exact .inl rfl | exact .inr rfl))) (fun _ _ _ _ _ => (dt_one (db_c (opd_gt (Deep.of hr)) (DE.dv (de_ix (DE.dv (de_v (pv 4))) (DE.dv de_int) (fun _ _ => rfl))) (DE.dv (de_v (pv 1))) (nomark _)))) (fun _ _ _ _ _ => (de_v (pv 4))))))) (DE.dv de_int) (fun _ _ => rfl)))
    (dss_one (ds_ret (de_tup (dc_cons (de_cl (fn__between T) (hr.mono (by decide)) (by rfl) T.m__between T.k__between T.b__between (takes_of rfl rfl rfl rfl) (dc_cons (de_v (pv 2)) (dc_cons (de_v (pv 3)) (dc_cons (de_v (pv 1)) (dc_cons de_int dc_nil))))) (dc_cons (de_cl (fn__between T) (hr.mono (by decide)) (by rfl) T.m__between T.k__between T.b__between (takes_of rfl rfl rfl rfl) (dc_cons (de_v (pv 2)) (dc_cons (de_v (pv 3)) (dc_cons (de_v (pv 1)) (dc_cons de_int dc_nil))))) dc_nil)))))))))
theorem sc_longest : FnScope ["table", "best", "row"] ["table"] (defScope s_longest) := ⟨rfl, rfl, rfl, by decide +kernel, rfl, by decide +kernel, by decide +kernel⟩
theorem fn_longest (T : Tx K mg) : FnD P w K mg base 4 T.f_longest T.fd_longest ["table"] F_longest := fnD_of (N := ["table", "best", "row"]) (k := 3) (g := g_longest) T.F_longest sc_longest fun cdv A outer s H E hr => (show DSs _ _ _ g_longest from
    (dss_cons (ds_expr (de_cl (fn__check_table T) (hr.mono (by decide)) (by rfl) T.m__check_table T.k__check_table T.b__check_table (takes_of rfl rfl rfl rfl) (dc_cons (de_v (pv 0)) dc_nil)))
    (dss_cons (ds_set (i := 1) sc_longest.nd rfl (by first | exact .inl rfl | exact .inr rfl) (de_ix (DE.dv (de_v (pv 0))) (DE.dv de_int) (fun _ _ => rfl)))
    (dss_cons (ds_for (passes_of rfl) rfl (di_seq (de_sl (DE.dv (de_v (pv 0))) (do_s de_int) do_n)) (dg_name (i := 2) sc_longest.nd rfl (by first | exact .inl rfl | exact .inr rfl))
    (dss_one (ds_set (i := 1) sc_longest.nd rfl (by first | exact .inl rfl | exact .inr rfl) (de_if (db_c (opd_gt (Deep.of hr)) (DE.dv (de_op opd_sub (DE.dv (de_ix (DE.dv (de_ix (DE.dv (de_v (pv 2))) (DE.dv de_int) (fun _ _ => rfl))) (DE.dv de_int) (fun _ _ => rfl))) (DE.dv (de_ix (DE.dv (de_ix (DE.dv (de_v (pv 2))) (DE.dv de_int) (fun _ _ => rfl))) (DE.dv de_int) (fun _ _ => rfl))))) (DE.dv (de_op opd_sub (DE.dv (de_ix (DE.dv (de_ix (DE.dv (de_v (pv 1))) (DE.dv de_int) (fun _ _ => rfl))) (DE.dv de_int) (fun _ _ => rfl))) (DE.dv (de_ix (DE.dv (de_ix (DE.dv (de_v (pv 1))) (DE.dv de_int) (fun _ _ => rfl))) (DE.dv de_int) (fun _ _ => rfl))))) (nomark _)) (de_v (pv 2)) (de_v (pv 1))))))
    (dss_one (ds_ret (de_ix (DE.dv (de_v (pv 1))) (DE.dv de_int) (fun _ _ => rfl))))))))
theorem sc_told_at : FnScope ["day", "minute"] ["day", "minute"] (defScope s_told_at) := ⟨rfl, rfl, rfl, by decide +kernel, rfl, by decide +kernel, by decide +kernel⟩
theorem fn_told_at (T : Tx K mg) : FnD P w K mg base 5 T.f_told_at T.fd_told_at ["day", "minute"] F_told_at := fnD_of (N := ["day", "minute"]) (k := 4) (g := g_told_at) T.F_told_at sc_told_at fun cdv A outer s H E hr => (show DSs _ _ _ g_told_at from
    (dss_cons (ds_expr (de_cl (fn__check_moment T) (hr.mono (by decide)) (by rfl) T.m__check_moment T.k__check_moment T.b__check_moment (takes_of rfl rfl rfl rfl) (dc_cons (de_v (pv 0)) (dc_cons (de_v (pv 1)) dc_nil))))
    (dss_one (ds_ret (de_cl (fn__told_at T) (hr.mono (by decide)) (by rfl) T.m__told_at T.k__told_at T.b__told_at (takes_of rfl rfl rfl rfl) (dc_cons (de_v (pv 0)) (dc_cons (de_v (pv 1)) dc_nil)))))))
theorem sc_stroke : FnScope ["day", "minute", "kind", "hours"] ["day", "minute"] (defScope s_stroke) := ⟨rfl, rfl, rfl, by decide +kernel, rfl, by decide +kernel, by decide +kernel⟩
theorem fn_stroke (T : Tx K mg) : FnD P w K mg base 5 T.f_stroke T.fd_stroke ["day", "minute"] F_stroke := fnD_of (N := ["day", "minute", "kind", "hours"]) (k := 4) (g := g_stroke) T.F_stroke sc_stroke fun cdv A outer s H E hr => (show DSs _ _ _ g_stroke from
    (dss_cons (ds_expr (de_cl (fn__check_moment T) (hr.mono (by decide)) (by rfl) T.m__check_moment T.k__check_moment T.b__check_moment (takes_of rfl rfl rfl rfl) (dc_cons (de_v (pv 0)) (dc_cons (de_v (pv 1)) dc_nil))))
    (dss_cons (ds_asg (de_cl (fn__told_at T) (hr.mono (by decide)) (by rfl) T.m__told_at T.k__told_at T.b__told_at (takes_of rfl rfl rfl rfl) (dc_cons (de_v (pv 0)) (dc_cons (de_v (pv 1)) dc_nil))) (dg_tup (n := 2) rfl (dgs_cons (dg_name (i := 2) sc_stroke.nd rfl (by first | exact .inl rfl | exact .inr rfl)) (dgs_cons (dg_name (i := 3) sc_stroke.nd rfl (by first | exact .inl rfl | exact .inr rfl)) dgs_nil))))
    (dss_one (ds_ret (de_tup (dc_cons (de_v (pv 2)) (dc_cons (de_op opd_add (DE.dv (de_op opd_fdiv (DE.dv (de_ix (DE.dv (de_v (pv 3))) (DE.dv de_int) (fun _ _ => rfl))) (DE.dv (de_ix (DE.dv (de_v (pv 3))) (DE.dv de_int) (fun _ _ => rfl))))) (DE.dv de_int)) dc_nil))))))))
theorem sc_strokes_by : FnScope ["day", "minute", "kind", "hours"] ["day", "minute"] (defScope s_strokes_by) := ⟨rfl, rfl, rfl, by decide +kernel, rfl, by decide +kernel, by decide +kernel⟩
theorem fn_strokes_by (T : Tx K mg) : FnD P w K mg base 5 T.f_strokes_by T.fd_strokes_by ["day", "minute"] F_strokes_by := fnD_of (N := ["day", "minute", "kind", "hours"]) (k := 4) (g := g_strokes_by) T.F_strokes_by sc_strokes_by fun cdv A outer s H E hr => (show DSs _ _ _ g_strokes_by from
    (dss_cons (ds_expr (de_cl (fn__check_moment T) (hr.mono (by decide)) (by rfl) T.m__check_moment T.k__check_moment T.b__check_moment (takes_of rfl rfl rfl rfl) (dc_cons (de_v (pv 0)) (dc_cons (de_v (pv 1)) dc_nil))))
    (dss_cons (ds_asg (de_cl (fn__told_at T) (hr.mono (by decide)) (by rfl) T.m__told_at T.k__told_at T.b__told_at (takes_of rfl rfl rfl rfl) (dc_cons (de_v (pv 0)) (dc_cons (de_v (pv 1)) dc_nil))) (dg_tup (n := 2) rfl (dgs_cons (dg_name (i := 2) sc_strokes_by.nd rfl (by first | exact .inl rfl | exact .inr rfl)) (dgs_cons (dg_name (i := 3) sc_strokes_by.nd rfl (by first | exact .inl rfl | exact .inr rfl)) dgs_nil))))
    (dss_one (ds_ret (de_op opd_add (DE.dv (de_op opd_fdiv (DE.dv (de_ix (DE.dv (de_v (pv 3))) (DE.dv de_int) (fun _ _ => rfl))) (DE.dv (de_ix (DE.dv (de_v (pv 3))) (DE.dv de_int) (fun _ _ => rfl))))) (DE.dv (de_if (db_c (opd_eq (Deep.of hr)) (DE.dv (de_v (pv 2))) (DE.dv (de_mc T.c_NIGHT (by rfl))) (nomark _)) (de_mc T.c_HOURS (by rfl)) de_int))))))))
theorem sc_next_stroke : FnScope ["day", "minute", "kind", "hours", "light", "dark", "begin", "length"] ["day", "minute"] (defScope s_next_stroke) := ⟨rfl, rfl, rfl, by decide +kernel, rfl, by decide +kernel, by decide +kernel⟩
theorem fn_next_stroke (T : Tx K mg) : FnD P w K mg base 5 T.f_next_stroke T.fd_next_stroke ["day", "minute"] F_next_stroke := fnD_of (N := ["day", "minute", "kind", "hours", "light", "dark", "begin", "length"]) (k := 4) (g := g_next_stroke) T.F_next_stroke sc_next_stroke fun cdv A outer s H E hr => (show DSs _ _ _ g_next_stroke from
    (dss_cons (ds_expr (de_cl (fn__check_moment T) (hr.mono (by decide)) (by rfl) T.m__check_moment T.k__check_moment T.b__check_moment (takes_of rfl rfl rfl rfl) (dc_cons (de_v (pv 0)) (dc_cons (de_v (pv 1)) dc_nil))))
    (dss_cons (ds_asg (de_cl (fn__told_at T) (hr.mono (by decide)) (by rfl) T.m__told_at T.k__told_at T.b__told_at (takes_of rfl rfl rfl rfl) (dc_cons (de_v (pv 0)) (dc_cons (de_v (pv 1)) dc_nil))) (dg_tup (n := 2) rfl (dgs_cons (dg_name (i := 2) sc_next_stroke.nd rfl (by first | exact .inl rfl | exact .inr rfl)) (dgs_cons (dg_name (i := 3) sc_next_stroke.nd rfl (by first | exact .inl rfl | exact .inr rfl)) dgs_nil))))
    (dss_cons (ds_asg (de_cl (fn__lengths T) (hr.mono (by decide)) (by rfl) T.m__lengths T.k__lengths T.b__lengths (takes_of rfl rfl rfl rfl) (dc_cons (de_v (pv 0)) dc_nil)) (dg_tup (n := 2) rfl (dgs_cons (dg_name (i := 4) sc_next_stroke.nd rfl (by first | exact .inl rfl | exact .inr rfl)) (dgs_cons (dg_name (i := 5) sc_next_stroke.nd rfl (by first | exact .inl rfl | exact .inr rfl)) dgs_nil))))
    (dss_cons (ds_asg (de_if (db_c (opd_eq (Deep.of hr)) (DE.dv (de_v (pv 2))) (DE.dv (de_mc T.c_DAY (by rfl))) (nomark _)) (de_tup (dc_cons (de_ix (DE.dv (de_v (pv 0))) (DE.dv de_int) (fun _ _ => rfl)) (dc_cons (de_v (pv 4)) dc_nil))) (de_tup (dc_cons (de_ix (DE.dv (de_v (pv 0))) (DE.dv de_int) (fun _ _ => rfl)) (dc_cons (de_v (pv 5)) dc_nil)))) (dg_tup (n := 2) rfl (dgs_cons (dg_name (i := 6) sc_next_stroke.nd rfl (by first | exact .inl rfl | exact .inr rfl)) (dgs_cons (dg_name (i := 7) sc_next_stroke.nd rfl (by first | exact .inl rfl | exact .inr rfl)) dgs_nil))))
    (dss_one (ds_ret (de_cl (fn_plus T) (hr.mono (by decide)) (by rfl) T.m_plus T.k_plus T.b_plus (takes_of rfl rfl rfl rfl) (dc_cons (de_tup (dc_cons (de_v (pv 6)) (dc_cons de_int dc_nil))) (dc_cons (de_cl (fn_times T) (hr.mono (by decide)) (by rfl) T.m_times T.k_times T.b_times (takes_of rfl rfl rfl rfl) (dc_cons (de_tup (dc_cons (de_op opd_add (DE.dv (de_op opd_fdiv (DE.dv (de_ix (DE.dv (de_v (pv 3))) (DE.dv de_int) (fun _ _ => rfl))) (DE.dv (de_ix (DE.dv (de_v (pv 3))) (DE.dv de_int) (fun _ _ => rfl))))) (DE.dv de_int)) (dc_cons de_int dc_nil))) (dc_cons (de_v (pv 7)) dc_nil))) dc_nil))))))))))
theorem sc_day_on : FnScope ["table", "number"] ["table", "number"] (defScope s_day_on) := ⟨rfl, rfl, rfl, by decide +kernel, rfl, by decide +kernel, by decide +kernel⟩
theorem fn_day_on (T : Tx K mg) : FnD P w K mg base 5 T.f_day_on T.fd_day_on ["table", "number"] F_day_on := fnD_of (N := ["table", "number"]) (k := 4) (g := g_day_on) T.F_day_on sc_day_on fun cdv A outer s H E hr => (show DSs _ _ _ g_day_on from
    (dss_cons (ds_expr (de_cl (fn__check_table T) (hr.mono (by decide)) (by rfl) T.m__check_table T.k__check_table T.b__check_table (takes_of rfl rfl rfl rfl) (dc_cons (de_v (pv 0)) dc_nil)))
    (dss_cons (ds_expr (de_cl (fn__check_number T) (hr.mono (by decide)) (by rfl) T.m__check_number T.k__check_number T.b__check_number (takes_of rfl rfl rfl rfl) (dc_cons (de_v (pv 0)) (dc_cons (de_v (pv 1)) dc_nil))))
    (dss_one (ds_ret (de_cl (fn__day_on T) (hr.mono (by decide)) (by rfl) T.m__day_on T.k__day_on T.b__day_on (takes_of rfl rfl rfl rfl) (dc_cons (de_v (pv 0)) (dc_cons (de_v (pv 1)) dc_nil))))))))
theorem sc__light : FnScope ["table", "number", "rise", "fall"] ["table", "number"] (defScope s__light) := ⟨rfl, rfl, rfl, by decide +kernel, rfl, by decide +kernel, by decide +kernel⟩
theorem fn__light (T : Tx K mg) : FnD P w K mg base 5 T.f__light T.fd__light ["table", "number"] F__light := fnD_of (N := ["table", "number", "rise", "fall"]) (k := 4) (g := g__light) T.F__light sc__light fun cdv A outer s H E hr => (show DSs _ _ _ g__light from
    (dss_cons (ds_asg (de_cl (fn__day_on T) (hr.mono (by decide)) (by rfl) T.m__day_on T.k__day_on T.b__day_on (takes_of rfl rfl rfl rfl) (dc_cons (de_v (pv 0)) (dc_cons (de_v (pv 1)) dc_nil))) (dg_tup (n := 2) rfl (dgs_cons (dg_name (i := 2) sc__light.nd rfl (by first | exact .inl rfl | exact .inr rfl)) (dgs_cons (dg_name (i := 3) sc__light.nd rfl (by first | exact .inl rfl | exact .inr rfl)) dgs_nil))))
    (dss_one (ds_ret (de_cl (fn_minus T) (hr.mono (by decide)) (by rfl) T.m_minus T.k_minus T.b_minus (takes_of rfl rfl rfl rfl) (dc_cons (de_v (pv 3)) (dc_cons (de_v (pv 2)) dc_nil)))))))
theorem sc_even_days : FnScope ["table", "numbers", "number"] ["table"] (defScope s_even_days) := ⟨rfl, rfl, rfl, by decide +kernel, rfl, by decide +kernel, by decide +kernel⟩
theorem fn_even_days (T : Tx K mg) : FnD P w K mg base 6 T.f_even_days T.fd_even_days ["table"] F_even_days := fnD_of (N := ["table", "numbers", "number"]) (k := 5) (g := g_even_days) T.F_even_days sc_even_days fun cdv A outer s H E hr => (show DSs _ _ _ g_even_days from
    (dss_cons (ds_expr (de_cl (fn__check_table T) (hr.mono (by decide)) (by rfl) T.m__check_table T.k__check_table T.b__check_table (takes_of rfl rfl rfl rfl) (dc_cons (de_v (pv 0)) dc_nil)))
    (dss_cons (ds_set (i := 1) sc_even_days.nd rfl (by first | exact .inl rfl | exact .inr rfl) (DF.de (df_rgL rfl (by rfl) T.z_list (drg_2 (by rfl) T.z_range (de_ix (DE.dv (de_ix (DE.dv (de_v (pv 0))) (DE.dv de_int) (fun _ _ => rfl))) (DE.dv de_int) (fun _ _ => rfl)) (de_op opd_add (DE.dv (de_ix (DE.dv (de_ix (DE.dv (de_v (pv 0))) (DE.dv (de_un und_neg de_int)) (fun _ _ => rfl))) (DE.dv de_int) (fun _ _ => rfl))) (DE.dv de_int))))))
    (dss_one (ds_ret (de_callTy cd_tuple (by rfl) T.z_tuple PyProof.Rows.boot_tuple (da_cons (DE.dv (DF.de (df_K (cLc_K tge_n) (df_lc (own := [("number", 2)]) (vs := [2]) rfl sc_even_days.nd (di_seq (de_v (pv 1))) (blkOk_by (by kernel_rfl)) (by decide) (fun _ _ _ _ _ => (dg_name (i := 2) sc_even_days.nd rfl (by first | exact .inl rfl | exact .inr rfl))) (fun _ _ _ _ _ => (dt_one (db_c (opd_eq (Deep.of hr)) (DE.dv (de_cl (fn__light T) (hr.mono (by decide)) (by rfl) T.m__light T.k__light T.b__light takesW0 (dc_cons (de_v (pv 0)) (dc_cons (de_v (pv 2)) dc_nil)))) (DE.dv (de_mc T.c_HALF (by rfl))) (nomark _)))) (fun _ _ _ _ _ => (de_v (pv 2))))))) da_nil)))))))
theorem sc_candle_hours : FnScope ["table", "number", "size", "dark", "hours"] ["table", "number", "size"] (defScope s_candle_hours) := ⟨rfl, rfl, rfl, by decide +kernel, rfl, by decide +kernel, by decide +kernel⟩
theorem fn_candle_hours (T : Tx K mg) : FnD P w K mg base 6 T.f_candle_hours T.fd_candle_hours ["table", "number", "size"] F_candle_hours := fnD_of (N := ["table", "number", "size", "dark", "hours"]) (k := 5) (g := g_candle_hours) T.F_candle_hours sc_candle_hours fun cdv A outer s H E hr => (show DSs _ _ _ g_candle_hours from
    (dss_cons (ds_expr (de_cl (fn__check_table T) (hr.mono (by decide)) (by rfl) T.m__check_table T.k__check_table T.b__check_table (takes_of rfl rfl rfl rfl) (dc_cons (de_v (pv 0)) dc_nil)))
    (dss_cons (ds_expr (de_cl (fn__check_number T) (hr.mono (by decide)) (by rfl) T.m__check_number T.k__check_number T.b__check_number (takes_of rfl rfl rfl rfl) (dc_cons (de_v (pv 0)) (dc_cons (de_v (pv 1)) dc_nil))))
    (dss_cons (ds_if (db_not (db_t (DE.dv (de_cl (fn_is_whole T) (hr.mono (by decide)) (by rfl) T.m_is_whole T.k_is_whole T.b_is_whole (takes_of rfl rfl rfl rfl) (dc_cons (de_v (pv 2)) (dc_cons de_int (dc_cons (de_mc T.c_MINUTES (by rfl)) dc_nil))))) (fun _ => rfl)))
    (dss_one (ds_raise rfl (takes_of rfl rfl rfl rfl) PySem.F.excBase_ValueError T.x_BadSize T.g_BadSize T.k_BadSize (raises_own T.s_BadSize T.t_BadSize) (by rfl)))
    dss_nil)
    (dss_cons (ds_set (i := 3) sc_candle_hours.nd rfl (by first | exact .inl rfl | exact .inr rfl) (de_cl (fn_minus T) (hr.mono (by decide)) (by rfl) T.m_minus T.k_minus T.b_minus (takes_of rfl rfl rfl rfl) (dc_cons (de_tup (dc_cons (de_mc T.c_MINUTES (by rfl)) (dc_cons de_int dc_nil))) (dc_cons (de_cl (fn__light T) (hr.mono (by decide)) (by rfl) T.m__light T.k__light T.b__light (takes_of rfl rfl rfl rfl) (dc_cons (de_v (pv 0)) (dc_cons (de_v (pv 1)) dc_nil))) dc_nil))))
    (dss_cons (ds_set (i := 4) sc_candle_hours.nd rfl (by first | exact .inl rfl | exact .inr rfl) (de_cl (fn_over T) (hr.mono (by decide)) (by rfl) T.m_over T.k_over T.b_over (takes_of rfl rfl rfl rfl) (dc_cons (de_tup (dc_cons (de_op opd_mul (DE.dv (de_v (pv 2))) (DE.dv (de_mc T.c_HOURS (by rfl)))) (dc_cons de_int dc_nil))) (dc_cons (de_v (pv 3)) dc_nil))))
    (dss_one (ds_ret (de_if (db_t (DE.dv (de_cl (fn_is_less T) (hr.mono (by decide)) (by rfl) T.m_is_less T.k_is_less T.b_is_less (takes_of rfl rfl rfl rfl) (dc_cons (de_v (pv 4)) (dc_cons (de_tup (dc_cons (de_mc T.c_HOURS (by rfl)) (dc_cons de_int dc_nil))) dc_nil)))) (fun _ => rfl)) (de_v (pv 4)) (de_tup (dc_cons (de_mc T.c_HOURS (by rfl)) (dc_cons de_int dc_nil))))))))))))
theorem sc_shortest_candle : FnScope ["table", "most", "number", "dark"] ["table"] (defScope s_shortest_candle) := ⟨rfl, rfl, rfl, by decide +kernel, rfl, by decide +kernel, by decide +kernel⟩
theorem fn_shortest_candle (T : Tx K mg) : FnD P w K mg base 6 T.f_shortest_candle T.fd_shortest_candle ["table"] F_shortest_candle := fnD_of (N := ["table", "most", "number", "dark"]) (k := 5) (g := g_shortest_candle) T.F_shortest_candle sc_shortest_candle fun cdv A outer s H E hr => (show DSs _ _ _ g_shortest_candle from
    (dss_cons (ds_expr (de_cl (fn__check_table T) (hr.mono (by decide)) (by rfl) T.m__check_table T.k__check_table T.b__check_table (takes_of rfl rfl rfl rfl) (dc_cons (de_v (pv 0)) dc_nil)))
    (dss_cons (ds_set (i := 1) sc_shortest_candle.nd rfl (by first | exact .inl rfl | exact .inr rfl) (de_tup (dc_cons de_int (dc_cons de_int dc_nil))))
    (dss_cons (ds_for (passes_of rfl) rfl (di_r2 (by rfl) T.z_range (de_ix (DE.dv (de_ix (DE.dv (de_v (pv 0))) (DE.dv de_int) (fun _ _ => rfl))) (DE.dv de_int) (fun _ _ => rfl)) (de_op opd_add (DE.dv (de_ix (DE.dv (de_ix (DE.dv (de_v (pv 0))) (DE.dv (de_un und_neg de_int)) (fun _ _ => rfl))) (DE.dv de_int) (fun _ _ => rfl))) (DE.dv de_int))) (dg_name (i := 2) sc_shortest_candle.nd rfl (by first | exact .inl rfl | exact .inr rfl))
    (dss_cons (ds_set (i := 3) sc_shortest_candle.nd rfl (by first | exact .inl rfl | exact .inr rfl) (de_cl (fn_minus T) (hr.mono (by decide)) (by rfl) T.m_minus T.k_minus T.b_minus (takes_of rfl rfl rfl rfl) (dc_cons (de_tup (dc_cons (de_mc T.c_MINUTES (by rfl)) (dc_cons de_int dc_nil))) (dc_cons (de_cl (fn__light T) (hr.mono (by decide)) (by rfl) T.m__light T.k__light T.b__light (takes_of rfl rfl rfl rfl) (dc_cons (de_v (pv 0)) (dc_cons (de_v (pv 2)) dc_nil))) dc_nil))))
    (dss_one (ds_set (i := 1) sc_shortest_candle.nd rfl (by first | exact .inl rfl | exact .inr rfl) (de_if (db_t (DE.dv (de_cl (fn_is_less T) (hr.mono (by decide)) (by rfl) T.m_is_less T.k_is_less T.b_is_less (takes_of rfl rfl rfl rfl) (dc_cons (de_v (pv 1)) (dc_cons (de_v (pv 3)) dc_nil)))) (fun _ => rfl)) (de_v (pv 3)) (de_v (pv 1)))))))
    (dss_one (ds_ret (de_op opd_fdiv (DE.dv (de_op opd_sub (DE.dv (de_op opd_add (DE.dv (de_ix (DE.dv (de_v (pv 1))) (DE.dv de_int) (fun _ _ => rfl))) (DE.dv (de_ix (DE.dv (de_v (pv 1))) (DE.dv de_int) (fun _ _ => rfl))))) (DE.dv de_int))) (DE.dv (de_ix (DE.dv (de_v (pv 1))) (DE.dv de_int) (fun _ _ => rfl))))))))))
theorem sc__law_error : FnScope ["call", "one", "two", "three"] ["call", "one", "two", "three"] (defScope s__law_error) := ⟨rfl, rfl, rfl, by decide +kernel, rfl, by decide +kernel, by decide +kernel⟩
theorem fn__law_error (T : Tx K mg) : FnD P w K mg base 7 T.f__law_error T.fd__law_error ["call", "one", "two", "three"] F__law_error := fnD_of (N := ["call", "one", "two", "three"]) (k := 6) (g := g__law_error) T.F__law_error sc__law_error fun cdv A outer s H E hr => (show DSs _ _ _ g__law_error from
    (dss_cons (ds_try (cs := excs) rfl rfl (takes_of rfl rfl rfl rfl) T.ap (fun W2 pn xe tk2 po2 => (dss_one (ds_if (db_c (opd_eq (Deep.of hr)) (DE.dv (de_v (pv 0))) (DE.dv de_int) (nomark _))
    (dss_one (ds_expr (de_cl (fn_hour_lengths T) (hr.mono (by decide)) (by rfl) T.m_hour_lengths T.k_hour_lengths T.b_hour_lengths tk2 (dc_cons (de_v (pv 1)) dc_nil))))
    (dss_one (ds_if (db_c (opd_eq (Deep.of hr)) (DE.dv (de_v (pv 0))) (DE.dv de_int) (nomark _))
    (dss_one (ds_expr (de_cl (fn_told_at T) (hr.mono (by decide)) (by rfl) T.m_told_at T.k_told_at T.b_told_at tk2 (dc_cons (de_v (pv 1)) (dc_cons (de_v (pv 2)) dc_nil)))))
    (dss_one (ds_if (db_c (opd_eq (Deep.of hr)) (DE.dv (de_v (pv 0))) (DE.dv de_int) (nomark _))
    (dss_one (ds_expr (de_cl (fn_stroke T) (hr.mono (by decide)) (by rfl) T.m_stroke T.k_stroke T.b_stroke tk2 (dc_cons (de_v (pv 1)) (dc_cons (de_v (pv 2)) dc_nil)))))
    (dss_one (ds_if (db_c (opd_eq (Deep.of hr)) (DE.dv (de_v (pv 0))) (DE.dv de_int) (nomark _))
    (dss_one (ds_expr (de_cl (fn_strokes_by T) (hr.mono (by decide)) (by rfl) T.m_strokes_by T.k_strokes_by T.b_strokes_by tk2 (dc_cons (de_v (pv 1)) (dc_cons (de_v (pv 2)) dc_nil)))))
    (dss_one (ds_if (db_c (opd_eq (Deep.of hr)) (DE.dv (de_v (pv 0))) (DE.dv de_int) (nomark _))
    (dss_one (ds_expr (de_cl (fn_next_stroke T) (hr.mono (by decide)) (by rfl) T.m_next_stroke T.k_next_stroke T.b_next_stroke tk2 (dc_cons (de_v (pv 1)) (dc_cons (de_v (pv 2)) dc_nil)))))
    (dss_one (ds_if (db_c (opd_eq (Deep.of hr)) (DE.dv (de_v (pv 0))) (DE.dv de_int) (nomark _))
    (dss_one (ds_expr (de_cl (fn_minute_of T) (hr.mono (by decide)) (by rfl) T.m_minute_of T.k_minute_of T.b_minute_of tk2 (dc_cons (de_v (pv 1)) (dc_cons (de_v (pv 2)) dc_nil)))))
    (dss_one (ds_if (db_c (opd_eq (Deep.of hr)) (DE.dv (de_v (pv 0))) (DE.dv de_int) (nomark _))
    (dss_one (ds_expr (de_cl (fn_longest T) (hr.mono (by decide)) (by rfl) T.m_longest T.k_longest T.b_longest tk2 (dc_cons (de_v (pv 1)) dc_nil))))
    (dss_one (ds_if (db_c (opd_eq (Deep.of hr)) (DE.dv (de_v (pv 0))) (DE.dv de_int) (nomark _))
    (dss_one (ds_expr (de_cl (fn_even_days T) (hr.mono (by decide)) (by rfl) T.m_even_days T.k_even_days T.b_even_days tk2 (dc_cons (de_v (pv 1)) dc_nil))))
    (dss_one (ds_if (db_c (opd_eq (Deep.of hr)) (DE.dv (de_v (pv 0))) (DE.dv de_int) (nomark _))
    (dss_one (ds_expr (de_cl (fn_shortest_candle T) (hr.mono (by decide)) (by rfl) T.m_shortest_candle T.k_shortest_candle T.b_shortest_candle tk2 (dc_cons (de_v (pv 1)) dc_nil))))
    (dss_one (ds_if (db_c (opd_eq (Deep.of hr)) (DE.dv (de_v (pv 0))) (DE.dv de_int) (nomark _))
    (dss_one (ds_expr (de_cl (fn_day_on T) (hr.mono (by decide)) (by rfl) T.m_day_on T.k_day_on T.b_day_on tk2 (dc_cons (de_v (pv 1)) (dc_cons (de_v (pv 2)) dc_nil)))))
    (dss_one (ds_expr (de_cl (fn_candle_hours T) (hr.mono (by decide)) (by rfl) T.m_candle_hours T.k_candle_hours T.b_candle_hours tk2 (dc_cons (de_v (pv 1)) (dc_cons (de_v (pv 2)) (dc_cons (de_v (pv 3)) dc_nil)))))))))))))))))))))))))))
    (.cons (by rfl) T.g_BadDay (fun a oe cls d pn => (dss_one (ds_ret de_str))) (.cons (by rfl) T.g_BadMoment (fun a oe cls d pn => (dss_one (ds_ret de_str))) (.cons (by rfl) T.g_BadTold (fun a oe cls d pn => (dss_one (ds_ret de_str))) (.cons (by rfl) T.g_BadTable (fun a oe cls d pn => (dss_one (ds_ret de_str))) (.cons (by rfl) T.g_BadNumber (fun a oe cls d pn => (dss_one (ds_ret de_str))) (.cons (by rfl) T.g_BadSize (fun a oe cls d pn => (dss_one (ds_ret de_str))) .nil)))))) (by intro p hp; simp only [List.mem_cons, List.not_mem_nil, or_false] at hp; rcases hp with rfl | rfl | rfl | rfl | rfl | rfl <;> decide +kernel))
    (dss_one (ds_ret de_str))))
theorem sc__law_refuses : FnScope ["day", "wrong", "table", "call", "k"] [] (defScope s__law_refuses) := ⟨rfl, rfl, rfl, by decide +kernel, rfl, by decide +kernel, by decide +kernel⟩
theorem fn__law_refuses (T : Tx K mg) : FnD P w K mg base 8 T.f__law_refuses T.fd__law_refuses [] F__law_refuses := fnD_of (N := ["day", "wrong", "table", "call", "k"]) (k := 7) (g := g__law_refuses) T.F__law_refuses sc__law_refuses fun cdv A outer s H E hr => (show DSs _ _ _ g__law_refuses from
    (dss_cons (ds_set (i := 0) sc__law_refuses.nd rfl (by first | exact .inl rfl | exact .inr rfl) (de_tup (dc_cons de_int (dc_cons de_int dc_nil))))
    (dss_cons (ds_for (passes_of rfl) rfl (di_seq (de_tup (dc_cons de_non (dc_cons (de_tup dc_nil) (dc_cons (de_tup (dc_cons de_int dc_nil)) (dc_cons (DF.de (df_lst (dc_cons de_int (dc_cons de_int dc_nil)))) (dc_cons (de_tup (dc_cons de_int (dc_cons de_int dc_nil))) (dc_cons (de_tup (dc_cons de_int (dc_cons de_int dc_nil))) (dc_cons (de_tup (dc_cons (de_un und_neg de_int) (dc_cons de_int dc_nil))) (dc_cons (de_tup (dc_cons de_int (dc_cons de_int dc_nil))) (dc_cons (de_tup (dc_cons de_bl (dc_cons de_int dc_nil))) (dc_cons (de_tup (dc_cons de_int (dc_cons de_int (dc_cons de_int dc_nil)))) dc_nil)))))))))))) (dg_name (i := 1) sc__law_refuses.nd rfl (by first | exact .inl rfl | exact .inr rfl))
    (dss_one (ds_if (db_c (opd_ne (Deep.of hr)) (DE.dv (de_op opd_add (DE.dv (DF.de (df_K (cLc_K tge_n) (df_lc (own := [("call", 3)]) (vs := [3]) rfl sc__law_refuses.nd (di_r1 (by rfl) T.z_range de_int) (blkOk_by (by kernel_rfl)) (by decide) (fun _ _ _ _ _ => (dg_name (i := 3) sc__law_refuses.nd rfl (by first | exact .inl rfl | exact .inr rfl))) (fun _ _ _ _ _ => dt_nil) (fun _ _ _ _ _ => (de_cl (fn__law_error T) (hr.mono (by decide)) (by rfl) T.m__law_error T.k__law_error T.b__law_error takesW0 (dc_cons (de_v (pv 3)) (dc_cons (de_v (pv 1)) (dc_cons (de_tup (dc_cons de_int (dc_cons de_int dc_nil))) (dc_cons de_non dc_nil)))))))))) (DE.dv (DF.de (df_lst (dc_cons (de_cl (fn__law_error T) (hr.mono (by decide)) (by rfl) T.m__law_error T.k__law_error T.b__law_error (takes_of rfl rfl rfl rfl) (dc_cons de_int (dc_cons (de_v (pv 1)) (dc_cons (de_tup (dc_cons de_str (dc_cons (de_tup (dc_cons de_int (dc_cons de_int dc_nil))) dc_nil))) (dc_cons de_non dc_nil))))) dc_nil)))))) (DE.dv (DF.de (df_repL (df_lst (dc_cons de_str dc_nil)) de_int))) (nomark _))
    (dss_one (ds_ret de_bl))
    dss_nil)))
    (dss_cons (ds_for (passes_of rfl) rfl (di_seq (de_tup (dc_cons de_non (dc_cons de_int (dc_cons (de_tup (dc_cons de_int (dc_cons de_int dc_nil))) (dc_cons (de_tup (dc_cons de_int (dc_cons de_int dc_nil))) (dc_cons (de_tup (dc_cons de_int (dc_cons de_int dc_nil))) (dc_cons (de_tup (dc_cons de_int (dc_cons de_int dc_nil))) (dc_cons (de_tup (dc_cons de_bl (dc_cons de_int dc_nil))) (dc_cons (DF.de (df_lst (dc_cons de_int (dc_cons de_int dc_nil)))) dc_nil)))))))))) (dg_name (i := 1) sc__law_refuses.nd rfl (by first | exact .inl rfl | exact .inr rfl))
    (dss_one (ds_if (db_c (opd_ne (Deep.of hr)) (DE.dv (DF.de (df_K (cLc_K tge_n) (df_lc (own := [("call", 3)]) (vs := [3]) rfl sc__law_refuses.nd (di_seq (de_tup (dc_cons de_int (dc_cons de_int (dc_cons de_int (dc_cons de_int dc_nil)))))) (blkOk_by (by kernel_rfl)) (by decide) (fun _ _ _ _ _ => (dg_name (i := 3) sc__law_refuses.nd rfl (by first | exact .inl rfl | exact .inr rfl))) (fun _ _ _ _ _ => dt_nil) (fun _ _ _ _ _ => (de_cl (fn__law_error T) (hr.mono (by decide)) (by rfl) T.m__law_error T.k__law_error T.b__law_error takesW0 (dc_cons (de_v (pv 3)) (dc_cons (de_v (pv 0)) (dc_cons (de_v (pv 1)) (dc_cons de_non dc_nil)))))))))) (DE.dv (DF.de (df_repL (df_lst (dc_cons de_str dc_nil)) de_int))) (nomark _))
    (dss_one (ds_ret de_bl))
    dss_nil)))
    (dss_cons (ds_if (db_c (opd_ne (Deep.of hr)) (DE.dv (DF.de (df_K (cLc_K tge_n) (df_lc (own := [("wrong", 1)]) (vs := [1]) rfl sc__law_refuses.nd (di_seq (de_tup (dc_cons de_non (dc_cons (de_tup (dc_cons de_str dc_nil)) (dc_cons (de_tup (dc_cons de_str (dc_cons (de_tup (dc_cons de_int (dc_cons de_int dc_nil))) dc_nil))) (dc_cons (de_tup (dc_cons de_str (dc_cons (de_tup (dc_cons de_int (dc_cons de_int dc_nil))) dc_nil))) (dc_cons (de_tup (dc_cons de_str (dc_cons (de_tup (dc_cons (de_un und_neg de_int) (dc_cons de_int dc_nil))) dc_nil))) (dc_cons (de_tup (dc_cons de_str (dc_cons (de_tup (dc_cons de_int (dc_cons de_int dc_nil))) dc_nil))) (dc_cons (DF.de (df_lst (dc_cons de_str (dc_cons (de_tup (dc_cons de_int (dc_cons de_int dc_nil))) dc_nil)))) (dc_cons (de_tup (dc_cons de_str (dc_cons de_int dc_nil))) dc_nil)))))))))) (blkOk_by (by kernel_rfl)) (by decide) (fun _ _ _ _ _ => (dg_name (i := 1) sc__law_refuses.nd rfl (by first | exact .inl rfl | exact .inr rfl))) (fun _ _ _ _ _ => dt_nil) (fun _ _ _ _ _ => (de_cl (fn__law_error T) (hr.mono (by decide)) (by rfl) T.m__law_error T.k__law_error T.b__law_error takesW0 (dc_cons de_int (dc_cons (de_v (pv 0)) (dc_cons (de_v (pv 1)) (dc_cons de_non dc_nil)))))))))) (DE.dv (DF.de (df_repL (df_lst (dc_cons de_str dc_nil)) de_int))) (nomark _))
    (dss_one (ds_ret de_bl))
    dss_nil)
    (dss_cons (ds_for (passes_of rfl) rfl (di_seq (de_tup (dc_cons de_non (dc_cons (de_tup dc_nil) (dc_cons (DF.de (df_lst (dc_cons (de_tup (dc_cons de_int (dc_cons (de_v (pv 0)) dc_nil))) dc_nil))) (dc_cons (de_tup (dc_cons (de_tup (dc_cons de_int (dc_cons (de_tup (dc_cons de_int (dc_cons de_int dc_nil))) dc_nil))) dc_nil)) (dc_cons (de_tup (dc_cons (de_tup (dc_cons de_int (dc_cons (de_v (pv 0)) dc_nil))) dc_nil)) (dc_cons (de_tup (dc_cons (de_tup (dc_cons de_int (dc_cons (de_v (pv 0)) dc_nil))) (dc_cons (de_tup (dc_cons de_int (dc_cons (de_v (pv 0)) dc_nil))) dc_nil))) (dc_cons (de_tup (dc_cons (de_tup (dc_cons de_int (dc_cons (de_v (pv 0)) dc_nil))) (dc_cons (de_tup (dc_cons de_int (dc_cons (de_v (pv 0)) dc_nil))) dc_nil))) (dc_cons (de_tup (dc_cons (de_tup (dc_cons de_int dc_nil)) dc_nil)) (dc_cons (de_tup (dc_cons (de_tup (dc_cons de_bl (dc_cons (de_v (pv 0)) dc_nil))) dc_nil)) (dc_cons (de_callTy cd_tuple (by rfl) T.z_tuple PyProof.Rows.boot_tuple (da_cons (DE.dv (DF.de (df_K (cLc_K tge_n) (df_lc (own := [("k", 4)]) (vs := [4]) rfl sc__law_refuses.nd (di_r1 (by rfl) T.z_range de_int) (blkOk_by (by kernel_rfl)) (by decide) (fun _ _ _ _ _ => (dg_name (i := 4) sc__law_refuses.nd rfl (by first | exact .inl rfl | exact .inr rfl))) (fun _ _ _ _ _ => dt_nil) (fun _ _ _ _ _ => (de_tup (dc_cons (de_v (pv 4)) (dc_cons (de_v (pv 0)) dc_nil)))))))) da_nil)) dc_nil)))))))))))) (dg_name (i := 1) sc__law_refuses.nd rfl (by first | exact .inl rfl | exact .inr rfl))
    (dss_one (ds_if (db_c (opd_ne (Deep.of hr)) (DE.dv (DF.de (df_K (cLc_K tge_n) (df_lc (own := [("call", 3)]) (vs := [3]) rfl sc__law_refuses.nd (di_seq (de_tup (dc_cons de_int (dc_cons de_int (dc_cons de_int (dc_cons de_int (dc_cons de_int dc_nil))))))) (blkOk_by (by kernel_rfl)) (by decide) (fun _ _ _ _ _ => (dg_name (i := 3) sc__law_refuses.nd rfl (by first | exact .inl rfl | exact .inr rfl))) (fun _ _ _ _ _ => dt_nil) (fun _ _ _ _ _ => (de_cl (fn__law_error T) (hr.mono (by decide)) (by rfl) T.m__law_error T.k__law_error T.b__law_error takesW0 (dc_cons (de_v (pv 3)) (dc_cons (de_v (pv 1)) (dc_cons de_int (dc_cons de_int dc_nil)))))))))) (DE.dv (DF.de (df_repL (df_lst (dc_cons de_str dc_nil)) de_int))) (nomark _))
    (dss_one (ds_ret de_bl))
    dss_nil)))
    (dss_cons (ds_set (i := 2) sc__law_refuses.nd rfl (by first | exact .inl rfl | exact .inr rfl) (de_tup (dc_cons (de_tup (dc_cons de_int (dc_cons (de_v (pv 0)) dc_nil))) (dc_cons (de_tup (dc_cons de_int (dc_cons (de_tup (dc_cons de_int (dc_cons de_int dc_nil))) dc_nil))) dc_nil))))
    (dss_cons (ds_if (db_not (db_t (DE.dv (de_callB (cd_all rfl) (by rfl) T.z_all PyProof.Rows.boot_all (da_cons (DE.dv (DF.de (df_K (cLc_K tge_n) (df_lc (own := [("wrong", 1)]) (vs := [1]) rfl sc__law_refuses.nd (di_seq (de_tup (dc_cons de_int (dc_cons de_int (dc_cons de_bl (dc_cons de_non dc_nil)))))) (blkOk_by (by kernel_rfl)) (by decide) (fun _ _ _ _ _ => (dg_name (i := 1) sc__law_refuses.nd rfl (by first | exact .inl rfl | exact .inr rfl))) (fun _ _ _ _ _ => dt_nil) (fun _ _ _ _ _ => (de_cmp (opd_eq (Deep.of hr)) (DE.dv (DF.de (df_K (cLc_K tge_n) (df_lc (own := [("call", 3)]) (vs := [3]) rfl sc__law_refuses.nd (di_seq (de_tup (dc_cons de_int (dc_cons de_int dc_nil)))) (blkOk_by (by kernel_rfl)) (by decide) (fun _ _ _ _ _ => (dg_name (i := 3) sc__law_refuses.nd rfl (by first | exact .inl rfl | exact .inr rfl))) (fun _ _ _ _ _ => dt_nil) (fun _ _ _ _ _ => (de_cl (fn__law_error T) (hr.mono (by decide)) (by rfl) T.m__law_error T.k__law_error T.b__law_error takesW0 (dc_cons (de_v (pv 3)) (dc_cons (de_v (pv 2)) (dc_cons (de_v (pv 1)) (dc_cons de_int dc_nil)))))))))) (DE.dv (DF.de (df_repL (df_lst (dc_cons de_str dc_nil)) de_int))) (nomark _))))))) da_nil))) (fun _ => rfl)))
    (dss_one (ds_ret de_bl))
    dss_nil)
    (dss_cons (ds_if (db_c (opd_ne (Deep.of hr)) (DE.dv (DF.de (df_K (cLc_K tge_n) (df_lc (own := [("wrong", 1)]) (vs := [1]) rfl sc__law_refuses.nd (di_seq (de_tup (dc_cons de_int (dc_cons de_int (dc_cons de_bl (dc_cons de_non dc_nil)))))) (blkOk_by (by kernel_rfl)) (by decide) (fun _ _ _ _ _ => (dg_name (i := 1) sc__law_refuses.nd rfl (by first | exact .inl rfl | exact .inr rfl))) (fun _ _ _ _ _ => dt_nil) (fun _ _ _ _ _ => (de_cl (fn__law_error T) (hr.mono (by decide)) (by rfl) T.m__law_error T.k__law_error T.b__law_error takesW0 (dc_cons de_int (dc_cons (de_v (pv 2)) (dc_cons de_int (dc_cons (de_v (pv 1)) dc_nil)))))))))) (DE.dv (DF.de (df_repL (df_lst (dc_cons de_str dc_nil)) de_int))) (nomark _))
    (dss_one (ds_ret de_bl))
    dss_nil)
    (dss_one (ds_ret (de_and (de_cmp (opd_eq (Deep.of hr)) (DE.dv (de_cl (fn_told_at T) (hr.mono (by decide)) (by rfl) T.m_told_at T.k_told_at T.b_told_at (takes_of rfl rfl rfl rfl) (dc_cons (de_v (pv 0)) (dc_cons (de_tup (dc_cons de_int (dc_cons de_int dc_nil))) dc_nil)))) (DE.dv (de_tup (dc_cons de_str (dc_cons (de_tup (dc_cons de_int (dc_cons de_int dc_nil))) dc_nil)))) (nomark _)) (de_and (de_cmp (opd_eq (Deep.of hr)) (DE.dv (de_cl (fn_stroke T) (hr.mono (by decide)) (by rfl) T.m_stroke T.k_stroke T.b_stroke (takes_of rfl rfl rfl rfl) (dc_cons (de_v (pv 0)) (dc_cons (de_tup (dc_cons de_int (dc_cons de_int dc_nil))) dc_nil)))) (DE.dv (de_tup (dc_cons de_str (dc_cons de_int dc_nil)))) (nomark _)) (de_and (de_cmp (opd_eq (Deep.of hr)) (DE.dv (de_cl (fn_strokes_by T) (hr.mono (by decide)) (by rfl) T.m_strokes_by T.k_strokes_by T.b_strokes_by (takes_of rfl rfl rfl rfl) (dc_cons (de_v (pv 0)) (dc_cons (de_tup (dc_cons de_int (dc_cons de_int dc_nil))) dc_nil)))) (DE.dv de_int) (nomark _)) (de_and (de_cmp (opd_eq (Deep.of hr)) (DE.dv (de_cl (fn_even_days T) (hr.mono (by decide)) (by rfl) T.m_even_days T.k_even_days T.b_even_days (takes_of rfl rfl rfl rfl) (dc_cons (de_v (pv 2)) dc_nil))) (DE.dv (de_tup (dc_cons de_int dc_nil))) (nomark _)) (de_one (de_cmp (opd_eq (Deep.of hr)) (DE.dv (de_cl (fn_shortest_candle T) (hr.mono (by decide)) (by rfl) T.m_shortest_candle T.k_shortest_candle T.b_shortest_candle (takes_of rfl rfl rfl rfl) (dc_cons (de_v (pv 2)) dc_nil))) (DE.dv de_int) (nomark _))))))))))))))))))
theorem sc_law : FnScope ["script", "draws", "k", "day", "light", "dark", "down", "ends", "minute", "told", "gone", "one", "two", "rows", "number", "rise", "table", "numbers", "lights", "fall", "own", "need", "size", "at", "hours", "end", "row", "up"] ["script"] (defScope s_law) := ⟨rfl, rfl, rfl, by decide +kernel, rfl, by decide +kernel, by decide +kernel⟩
theorem fn_law (T : Tx K mg) : FnOk P w K mg base (L2.CX P w) 9 T.f_law T.fd_law ["script"] (spLaw K F_law) := fnLaw_of (N := ["script", "draws", "k", "day", "light", "dark", "down", "ends", "minute", "told", "gone", "one", "two", "rows", "number", "rise", "table", "numbers", "lights", "fall", "own", "need", "size", "at", "hours", "end", "row", "up"]) (k := 8) (g := g_law) T.F_law sc_law rfl fun cdv A outer s H E hr => (show DSs _ _ _ g_law from
    (dss_cons (ds_set (i := 1) sc_law.nd rfl (by first | exact .inl rfl | exact .inr rfl) (de_dr (fn__law_draws T) (hr.mono (by decide)) (by rfl) T.m__law_draws T.k__law_draws T.b__law_draws (takes_of rfl rfl rfl rfl) (pv 0)))
    (dss_cons (ds_for (passes_of rfl) rfl (di_r1 (by rfl) T.z_range de_int) (dg_name (i := 2) sc_law.nd rfl (by first | exact .inl rfl | exact .inr rfl))
    (dss_cons (ds_set (i := 3) sc_law.nd rfl (by first | exact .inl rfl | exact .inr rfl) (de_cl (fn__law_day T) (hr.mono (by decide)) (by rfl) T.m__law_day T.k__law_day T.b__law_day (takes_of rfl rfl rfl rfl) (dc_cons (de_callTy cd_int (by rfl) T.z_int PyProof.Rows.boot_int (da_cons (DE.dv (de_ix (DE.dv (de_v (pv 1))) (DE.dv (de_v (pv 2))) (fun _ _ => rfl))) da_nil)) (dc_cons (de_callTy cd_int (by rfl) T.z_int PyProof.Rows.boot_int (da_cons (DE.dv (de_ix (DE.dv (de_v (pv 1))) (DE.dv (de_op opd_add (DE.dv de_int) (DE.dv (de_v (pv 2))))) (fun _ _ => rfl))) da_nil)) dc_nil))))
    (dss_cons (ds_par (i := 4) (j := 5) rfl sc_law.nd rfl rfl (by decide) rfl rfl (de_op opd_sub (DE.dv (de_ix (DE.dv (de_v (pv 3))) (DE.dv de_int) (fun _ _ => rfl))) (DE.dv (de_ix (DE.dv (de_v (pv 3))) (DE.dv de_int) (fun _ _ => rfl)))) (de_op opd_add (DE.dv (de_op opd_sub (DE.dv de_int) (DE.dv (de_ix (DE.dv (de_v (pv 3))) (DE.dv de_int) (fun _ _ => rfl))))) (DE.dv (de_ix (DE.dv (de_v (pv 3))) (DE.dv de_int) (fun _ _ => rfl)))) (by rfl))
    (dss_cons (ds_if (db_c (opd_ne (Deep.of hr)) (DE.dv (de_cl (fn_hour_lengths T) (hr.mono (by decide)) (by rfl) T.m_hour_lengths T.k_hour_lengths T.b_hour_lengths (takes_of rfl rfl rfl rfl) (dc_cons (de_v (pv 3)) dc_nil))) (DE.dv (de_tup (dc_cons (de_cl (fn__law_lowest T) (hr.mono (by decide)) (by rfl) T.m__law_lowest T.k__law_lowest T.b__law_lowest (takes_of rfl rfl rfl rfl) (dc_cons (de_v (pv 4)) (dc_cons de_int dc_nil))) (dc_cons (de_cl (fn__law_lowest T) (hr.mono (by decide)) (by rfl) T.m__law_lowest T.k__law_lowest T.b__law_lowest (takes_of rfl rfl rfl rfl) (dc_cons (de_v (pv 5)) (dc_cons de_int dc_nil))) dc_nil)))) (nomark _))
    (dss_one (ds_ret de_bl))
    dss_nil)
    (dss_cons (ds_set (i := 6) sc_law.nd rfl (by first | exact .inl rfl | exact .inr rfl) (de_op opd_add (DE.dv de_int) (DE.dv (de_op opd_mod (DE.dv (de_callTy cd_int (by rfl) T.z_int PyProof.Rows.boot_int (da_cons (DE.dv (de_ix (DE.dv (de_v (pv 1))) (DE.dv (de_op opd_add (DE.dv de_int) (DE.dv (de_v (pv 2))))) (fun _ _ => rfl))) da_nil))) (DE.dv de_int)))))
    (dss_cons (ds_set (i := 7) sc_law.nd rfl (by first | exact .inl rfl | exact .inr rfl) (de_cl (fn__law_ends T) (hr.mono (by decide)) (by rfl) T.m__law_ends T.k__law_ends T.b__law_ends (takes_of rfl rfl rfl rfl) (dc_cons (de_v (pv 3)) dc_nil)))
    (dss_cons (ds_for (passes_of rfl) rfl (di_seq (de_tup (dc_cons (de_cl (fn__law_lowest T) (hr.mono (by decide)) (by rfl) T.m__law_lowest T.k__law_lowest T.b__law_lowest (takes_of rfl rfl rfl rfl) (dc_cons (de_op opd_add (DE.dv (de_op opd_mul (DE.dv (de_ix (DE.dv (de_v (pv 3))) (DE.dv de_int) (fun _ _ => rfl))) (DE.dv (de_v (pv 6))))) (DE.dv (de_op opd_mod (DE.dv (de_callTy cd_int (by rfl) T.z_int PyProof.Rows.boot_int (da_cons (DE.dv (de_ix (DE.dv (de_v (pv 1))) (DE.dv (de_op opd_add (DE.dv de_int) (DE.dv (de_v (pv 2))))) (fun _ _ => rfl))) da_nil))) (DE.dv (de_op opd_mul (DE.dv de_int) (DE.dv (de_v (pv 6)))))))) (dc_cons (de_v (pv 6)) dc_nil))) (dc_cons (de_ix (DE.dv (de_v (pv 7))) (DE.dv (de_op opd_mod (DE.dv (de_callTy cd_int (by rfl) T.z_int PyProof.Rows.boot_int (da_cons (DE.dv (de_ix (DE.dv (de_v (pv 1))) (DE.dv (de_op opd_add (DE.dv de_int) (DE.dv (de_v (pv 2))))) (fun _ _ => rfl))) da_nil))) (DE.dv de_int))) (fun _ _ => rfl)) (dc_cons (de_tup (dc_cons (de_ix (DE.dv (de_v (pv 3))) (DE.dv de_int) (fun _ _ => rfl)) (dc_cons de_int dc_nil))) dc_nil))))) (dg_name (i := 8) sc_law.nd rfl (by first | exact .inl rfl | exact .inr rfl))
    (dss_cons (ds_set (i := 9) sc_law.nd rfl (by first | exact .inl rfl | exact .inr rfl) (de_cl (fn__law_told T) (hr.mono (by decide)) (by rfl) T.m__law_told T.k__law_told T.b__law_told (takes_of rfl rfl rfl rfl) (dc_cons (de_v (pv 3)) (dc_cons (de_v (pv 8)) dc_nil))))
    (dss_cons (ds_if (db_w (dw_or (db_c (opd_ne (Deep.of hr)) (DE.dv (de_cl (fn_told_at T) (hr.mono (by decide)) (by rfl) T.m_told_at T.k_told_at T.b_told_at (takes_of rfl rfl rfl rfl) (dc_cons (de_v (pv 3)) (dc_cons (de_v (pv 8)) dc_nil)))) (DE.dv (de_v (pv 9))) (nomark _)) (dw_or1 (db_c (opd_ne (Deep.of hr)) (DE.dv (de_cl (fn_minute_of T) (hr.mono (by decide)) (by rfl) T.m_minute_of T.k_minute_of T.b_minute_of (takes_of rfl rfl rfl rfl) (dc_cons (de_v (pv 3)) (dc_cons (de_v (pv 9)) dc_nil)))) (DE.dv (de_v (pv 8))) (nomark _)))))
    (dss_one (ds_ret de_bl))
    dss_nil)
    (dss_cons (ds_set (i := 10) sc_law.nd rfl (by first | exact .inl rfl | exact .inr rfl) (de_callB cd_len (by rfl) T.z_len PySem.boot_len (da_cons (DE.dv (DF.de (df_K (cLc_K tge_n) (df_lc (own := [("end", 25)]) (vs := [25]) rfl sc_law.nd (di_seq (de_v (pv 7))) (blkOk_by (by kernel_rfl)) (by decide) (fun _ _ _ _ _ => (dg_name (i := 25) sc_law.nd rfl (by first | exact .inl rfl | exact .inr rfl))) (fun _ _ _ _ _ => (dt_one (db_c (opd_le (Deep.of hr)) (DE.dv (de_op opd_mul (DE.dv (de_ix (DE.dv (de_v (pv 25))) (DE.dv de_int) (fun _ _ => rfl))) (DE.dv (de_ix (DE.dv (de_v (pv 8))) (DE.dv de_int) (fun _ _ => rfl))))) (DE.dv (de_op opd_mul (DE.dv (de_ix (DE.dv (de_v (pv 8))) (DE.dv de_int) (fun _ _ => rfl))) (DE.dv (de_ix (DE.dv (de_v (pv 25))) (DE.dv de_int) (fun _ _ => rfl))))) (nomark _)))) (fun _ _ _ _ _ => (de_v (pv 25))))))) da_nil)))
    (dss_one (ds_if (db_w (dw_or (db_c (opd_ne (Deep.of hr)) (DE.dv (de_cl (fn_strokes_by T) (hr.mono (by decide)) (by rfl) T.m_strokes_by T.k_strokes_by T.b_strokes_by (takes_of rfl rfl rfl rfl) (dc_cons (de_v (pv 3)) (dc_cons (de_v (pv 8)) dc_nil)))) (DE.dv (de_v (pv 10))) (nomark _)) (dw_or (db_c (opd_ne (Deep.of hr)) (DE.dv (de_cl (fn_stroke T) (hr.mono (by decide)) (by rfl) T.m_stroke T.k_stroke T.b_stroke (takes_of rfl rfl rfl rfl) (dc_cons (de_v (pv 3)) (dc_cons (de_v (pv 8)) dc_nil)))) (DE.dv (de_tup (dc_cons (de_ix (DE.dv (DF.de (df_lst (dc_cons de_str (dc_cons de_str dc_nil))))) (DE.dv (de_op opd_fdiv (DE.dv (de_v (pv 10))) (DE.dv de_int))) (fun _ _ => rfl)) (dc_cons (de_op opd_add (DE.dv (de_op opd_mod (DE.dv (de_v (pv 10))) (DE.dv de_int))) (DE.dv de_int)) dc_nil)))) (nomark _)) (dw_or1 (db_c (opd_ne (Deep.of hr)) (DE.dv (de_cl (fn_next_stroke T) (hr.mono (by decide)) (by rfl) T.m_next_stroke T.k_next_stroke T.b_next_stroke (takes_of rfl rfl rfl rfl) (dc_cons (de_v (pv 3)) (dc_cons (de_v (pv 8)) dc_nil)))) (DE.dv (de_ix (DE.dv (de_v (pv 7))) (DE.dv (de_v (pv 10))) (fun _ _ => rfl))) (nomark _))))))
    (dss_one (ds_ret de_bl))
    dss_nil))))))
    (dss_cons (ds_par (i := 11) (j := 12) rfl sc_law.nd rfl rfl (by decide) rfl rfl (de_cl (fn__law_lowest T) (hr.mono (by decide)) (by rfl) T.m__law_lowest T.k__law_lowest T.b__law_lowest (takes_of rfl rfl rfl rfl) (dc_cons (de_op opd_mod (DE.dv (de_callTy cd_int (by rfl) T.z_int PyProof.Rows.boot_int (da_cons (DE.dv (de_ix (DE.dv (de_v (pv 1))) (DE.dv (de_op opd_add (DE.dv de_int) (DE.dv (de_v (pv 2))))) (fun _ _ => rfl))) da_nil))) (DE.dv de_int)) (dc_cons (de_v (pv 6)) dc_nil))) (de_cl (fn__law_lowest T) (hr.mono (by decide)) (by rfl) T.m__law_lowest T.k__law_lowest T.b__law_lowest (takes_of rfl rfl rfl rfl) (dc_cons (de_op opd_add (DE.dv de_int) (DE.dv (de_op opd_mod (DE.dv (de_callTy cd_int (by rfl) T.z_int PyProof.Rows.boot_int (da_cons (DE.dv (de_ix (DE.dv (de_v (pv 1))) (DE.dv (de_op opd_add (DE.dv de_int) (DE.dv (de_v (pv 2))))) (fun _ _ => rfl))) da_nil))) (DE.dv de_int)))) (dc_cons (de_op opd_add (DE.dv de_int) (DE.dv (de_op opd_mod (DE.dv (de_v (pv 6))) (DE.dv de_int)))) dc_nil))) (by rfl))
    (dss_cons (ds_if (db_w (dw_or (db_c (opd_ne (Deep.of hr)) (DE.dv (de_cl (fn_plus T) (hr.mono (by decide)) (by rfl) T.m_plus T.k_plus T.b_plus (takes_of rfl rfl rfl rfl) (dc_cons (de_v (pv 11)) (dc_cons (de_v (pv 12)) dc_nil)))) (DE.dv (de_cl (fn__law_lowest T) (hr.mono (by decide)) (by rfl) T.m__law_lowest T.k__law_lowest T.b__law_lowest (takes_of rfl rfl rfl rfl) (dc_cons (de_op opd_add (DE.dv (de_op opd_mul (DE.dv (de_ix (DE.dv (de_v (pv 11))) (DE.dv de_int) (fun _ _ => rfl))) (DE.dv (de_ix (DE.dv (de_v (pv 12))) (DE.dv de_int) (fun _ _ => rfl))))) (DE.dv (de_op opd_mul (DE.dv (de_ix (DE.dv (de_v (pv 12))) (DE.dv de_int) (fun _ _ => rfl))) (DE.dv (de_ix (DE.dv (de_v (pv 11))) (DE.dv de_int) (fun _ _ => rfl)))))) (dc_cons (de_op opd_mul (DE.dv (de_ix (DE.dv (de_v (pv 11))) (DE.dv de_int) (fun _ _ => rfl))) (DE.dv (de_ix (DE.dv (de_v (pv 12))) (DE.dv de_int) (fun _ _ => rfl)))) dc_nil)))) (nomark _)) (dw_or1 (db_c (opd_ne (Deep.of hr)) (DE.dv (de_cl (fn_minus T) (hr.mono (by decide)) (by rfl) T.m_minus T.k_minus T.b_minus (takes_of rfl rfl rfl rfl) (dc_cons (de_v (pv 11)) (dc_cons (de_v (pv 12)) dc_nil)))) (DE.dv (de_cl (fn__law_lowest T) (hr.mono (by decide)) (by rfl) T.m__law_lowest T.k__law_lowest T.b__law_lowest (takes_of rfl rfl rfl rfl) (dc_cons (de_op opd_sub (DE.dv (de_op opd_mul (DE.dv (de_ix (DE.dv (de_v (pv 11))) (DE.dv de_int) (fun _ _ => rfl))) (DE.dv (de_ix (DE.dv (de_v (pv 12))) (DE.dv de_int) (fun _ _ => rfl))))) (DE.dv (de_op opd_mul (DE.dv (de_ix (DE.dv (de_v (pv 12))) (DE.dv de_int) (fun _ _ => rfl))) (DE.dv (de_ix (DE.dv (de_v (pv 11))) (DE.dv de_int) (fun _ _ => rfl)))))) (dc_cons (de_op opd_mul (DE.dv (de_ix (DE.dv (de_v (pv 11))) (DE.dv de_int) (fun _ _ => rfl))) (DE.dv (de_ix (DE.dv (de_v (pv 12))) (DE.dv de_int) (fun _ _ => rfl)))) dc_nil)))) (nomark _)))))
    (dss_one (ds_ret de_bl))
    dss_nil)
    (dss_cons (ds_if (db_w (dw_or (db_c (opd_ne (Deep.of hr)) (DE.dv (de_cl (fn_times T) (hr.mono (by decide)) (by rfl) T.m_times T.k_times T.b_times (takes_of rfl rfl rfl rfl) (dc_cons (de_v (pv 11)) (dc_cons (de_v (pv 12)) dc_nil)))) (DE.dv (de_cl (fn__law_lowest T) (hr.mono (by decide)) (by rfl) T.m__law_lowest T.k__law_lowest T.b__law_lowest (takes_of rfl rfl rfl rfl) (dc_cons (de_op opd_mul (DE.dv (de_ix (DE.dv (de_v (pv 11))) (DE.dv de_int) (fun _ _ => rfl))) (DE.dv (de_ix (DE.dv (de_v (pv 12))) (DE.dv de_int) (fun _ _ => rfl)))) (dc_cons (de_op opd_mul (DE.dv (de_ix (DE.dv (de_v (pv 11))) (DE.dv de_int) (fun _ _ => rfl))) (DE.dv (de_ix (DE.dv (de_v (pv 12))) (DE.dv de_int) (fun _ _ => rfl)))) dc_nil)))) (nomark _)) (dw_or1 (db_c (opd_ne (Deep.of hr)) (DE.dv (de_cl (fn_over T) (hr.mono (by decide)) (by rfl) T.m_over T.k_over T.b_over (takes_of rfl rfl rfl rfl) (dc_cons (de_v (pv 11)) (dc_cons (de_v (pv 12)) dc_nil)))) (DE.dv (de_cl (fn__law_lowest T) (hr.mono (by decide)) (by rfl) T.m__law_lowest T.k__law_lowest T.b__law_lowest (takes_of rfl rfl rfl rfl) (dc_cons (de_op opd_mul (DE.dv (de_ix (DE.dv (de_v (pv 11))) (DE.dv de_int) (fun _ _ => rfl))) (DE.dv (de_ix (DE.dv (de_v (pv 12))) (DE.dv de_int) (fun _ _ => rfl)))) (dc_cons (de_op opd_mul (DE.dv (de_ix (DE.dv (de_v (pv 11))) (DE.dv de_int) (fun _ _ => rfl))) (DE.dv (de_ix (DE.dv (de_v (pv 12))) (DE.dv de_int) (fun _ _ => rfl)))) dc_nil)))) (nomark _)))))
    (dss_one (ds_ret de_bl))
    dss_nil)
    (dss_one (ds_if (db_w (dw_or (db_c (opd_ne (Deep.of hr)) (DE.dv (de_cl (fn_quotient T) (hr.mono (by decide)) (by rfl) T.m_quotient T.k_quotient T.b_quotient (takes_of rfl rfl rfl rfl) (dc_cons (de_op opd_mul (DE.dv de_int) (DE.dv (de_ix (DE.dv (de_v (pv 11))) (DE.dv de_int) (fun _ _ => rfl)))) (dc_cons (de_op opd_mul (DE.dv de_int) (DE.dv (de_ix (DE.dv (de_v (pv 11))) (DE.dv de_int) (fun _ _ => rfl)))) dc_nil)))) (DE.dv (de_v (pv 11))) (nomark _)) (dw_or1 (db_c (opd_ne (Deep.of hr)) (DE.dv (de_cl (fn_is_less T) (hr.mono (by decide)) (by rfl) T.m_is_less T.k_is_less T.b_is_less (takes_of rfl rfl rfl rfl) (dc_cons (de_v (pv 11)) (dc_cons (de_v (pv 12)) dc_nil)))) (DE.dv (de_cmp (opd_lt (Deep.of hr)) (DE.dv (de_op opd_mul (DE.dv (de_ix (DE.dv (de_v (pv 11))) (DE.dv de_int) (fun _ _ => rfl))) (DE.dv (de_ix (DE.dv (de_v (pv 12))) (DE.dv de_int) (fun _ _ => rfl))))) (DE.dv (de_op opd_mul (DE.dv (de_ix (DE.dv (de_v (pv 12))) (DE.dv de_int) (fun _ _ => rfl))) (DE.dv (de_ix (DE.dv (de_v (pv 11))) (DE.dv de_int) (fun _ _ => rfl))))) (nomark _))) (nomark _)))))
    (dss_one (ds_ret de_bl))
    dss_nil))))))))))))
    (dss_cons (ds_parL (i := 13) (j := 14) rfl sc_law.nd rfl rfl (by decide) rfl rfl (df_lst dc_nil) (de_op opd_mod (DE.dv (de_callTy cd_int (by rfl) T.z_int PyProof.Rows.boot_int (da_cons (DE.dv (de_ix (DE.dv (de_v (pv 1))) (DE.dv de_int) (fun _ _ => rfl))) da_nil))) (DE.dv de_int)) (by rfl))
    (dss_cons (ds_for (passes_of rfl) rfl (di_r1 (by rfl) T.z_range (de_op opd_add (DE.dv de_int) (DE.dv (de_op opd_mod (DE.dv (de_callTy cd_int (by rfl) T.z_int PyProof.Rows.boot_int (da_cons (DE.dv (de_ix (DE.dv (de_v (pv 1))) (DE.dv de_int) (fun _ _ => rfl))) da_nil))) (DE.dv de_int))))) (dg_name (i := 2) sc_law.nd rfl (by first | exact .inl rfl | exact .inr rfl))
    (dss_cons (ds_set (i := 15) sc_law.nd rfl (by first | exact .inl rfl | exact .inr rfl) (de_op opd_add (DE.dv de_int) (DE.dv (de_op opd_mul (DE.dv (de_op opd_mod (DE.dv (de_callTy cd_int (by rfl) T.z_int PyProof.Rows.boot_int (da_cons (DE.dv (de_ix (DE.dv (de_v (pv 1))) (DE.dv (de_op opd_add (DE.dv de_int) (DE.dv (de_v (pv 2))))) (fun _ _ => rfl))) da_nil))) (DE.dv de_int))) (DE.dv de_int)))))
    (dss_cons (ds_app (pv 13) (de_tup (dc_cons (de_v (pv 14)) (dc_cons (de_tup (dc_cons (de_v (pv 15)) (dc_cons (de_ix (DE.dv (DF.de (df_lst (dc_cons (de_op opd_sub (DE.dv de_int) (DE.dv (de_v (pv 15)))) (dc_cons (de_op opd_add (DE.dv (de_v (pv 15))) (DE.dv de_int)) dc_nil))))) (DE.dv (de_op opd_mod (DE.dv (de_callTy cd_int (by rfl) T.z_int PyProof.Rows.boot_int (da_cons (DE.dv (de_ix (DE.dv (de_v (pv 1))) (DE.dv (de_op opd_add (DE.dv de_int) (DE.dv (de_v (pv 2))))) (fun _ _ => rfl))) da_nil))) (DE.dv de_int))) (fun _ _ => rfl)) dc_nil))) dc_nil))))
    (dss_one (ds_set (i := 14) sc_law.nd rfl (by first | exact .inl rfl | exact .inr rfl) (de_op opd_add (DE.dv (de_op opd_add (DE.dv (de_v (pv 14))) (DE.dv de_int))) (DE.dv (de_op opd_mod (DE.dv (de_op opd_fdiv (DE.dv (de_callTy cd_int (by rfl) T.z_int PyProof.Rows.boot_int (da_cons (DE.dv (de_ix (DE.dv (de_v (pv 1))) (DE.dv (de_op opd_add (DE.dv de_int) (DE.dv (de_v (pv 2))))) (fun _ _ => rfl))) da_nil))) (DE.dv de_int))) (DE.dv de_int)))))))))
    (dss_cons (ds_set (i := 16) sc_law.nd rfl (by first | exact .inl rfl | exact .inr rfl) (de_callTy cd_tuple (by rfl) T.z_tuple PyProof.Rows.boot_tuple (da_cons (dv_v (pv 13)) da_nil)))
    (dss_cons (ds_set (i := 17) sc_law.nd rfl (by first | exact .inl rfl | exact .inr rfl) (DF.de (df_rgL rfl (by rfl) T.z_list (drg_2 (by rfl) T.z_range (de_ix (DE.dv (de_ix (DE.dv (de_v (pv 16))) (DE.dv de_int) (fun _ _ => rfl))) (DE.dv de_int) (fun _ _ => rfl)) (de_op opd_add (DE.dv (de_ix (DE.dv (de_ix (DE.dv (de_v (pv 16))) (DE.dv (de_un und_neg de_int)) (fun _ _ => rfl))) (DE.dv de_int) (fun _ _ => rfl))) (DE.dv de_int))))))
    (dss_cons (ds_setL (i := 18) sc_law.nd rfl (by first | exact .inl rfl | exact .inr rfl) (df_lst dc_nil))
    (dss_cons (ds_for (passes_of rfl) rfl (di_seq (de_v (pv 17))) (dg_name (i := 11) sc_law.nd rfl (by first | exact .inl rfl | exact .inr rfl))
    (dss_cons (ds_asg (de_cl (fn__law_on T) (hr.mono (by decide)) (by rfl) T.m__law_on T.k__law_on T.b__law_on (takes_of rfl rfl rfl rfl) (dc_cons (de_v (pv 16)) (dc_cons (de_v (pv 11)) dc_nil))) (dg_tup (n := 2) rfl (dgs_cons (dg_name (i := 15) sc_law.nd rfl (by first | exact .inl rfl | exact .inr rfl)) (dgs_cons (dg_name (i := 19) sc_law.nd rfl (by first | exact .inl rfl | exact .inr rfl)) dgs_nil))))
    (dss_cons (ds_if (db_c (opd_ne (Deep.of hr)) (DE.dv (de_cl (fn_day_on T) (hr.mono (by decide)) (by rfl) T.m_day_on T.k_day_on T.b_day_on (takes_of rfl rfl rfl rfl) (dc_cons (de_v (pv 16)) (dc_cons (de_v (pv 11)) dc_nil)))) (DE.dv (de_tup (dc_cons (de_v (pv 15)) (dc_cons (de_v (pv 19)) dc_nil)))) (nomark _))
    (dss_one (ds_ret de_bl))
    dss_nil)
    (dss_one (ds_app (pv 18) (de_tup (dc_cons (de_op opd_sub (DE.dv (de_op opd_mul (DE.dv (de_ix (DE.dv (de_v (pv 19))) (DE.dv de_int) (fun _ _ => rfl))) (DE.dv (de_ix (DE.dv (de_v (pv 15))) (DE.dv de_int) (fun _ _ => rfl))))) (DE.dv (de_op opd_mul (DE.dv (de_ix (DE.dv (de_v (pv 15))) (DE.dv de_int) (fun _ _ => rfl))) (DE.dv (de_ix (DE.dv (de_v (pv 19))) (DE.dv de_int) (fun _ _ => rfl)))))) (dc_cons (de_op opd_mul (DE.dv (de_ix (DE.dv (de_v (pv 15))) (DE.dv de_int) (fun _ _ => rfl))) (DE.dv (de_ix (DE.dv (de_v (pv 19))) (DE.dv de_int) (fun _ _ => rfl)))) dc_nil))))))))
    (dss_cons (ds_K (congrArg (fun z => sSet 20 (cL z)) (cLc_K tge_n)) (ds_setLcV (i := 20) (own := [("row", 26)]) (vs := [26]) rfl sc_law.nd rfl rfl (sw_true rfl rfl rfl (by kernel_rfl)) (di_seq (de_v (pv 16))) (blkOk_by (by kernel_rfl)) (by decide) (fun _ _ _ _ _ => (dg_name (i := 26) sc_law.nd rfl (by first | exact .inl rfl | exact .inr rfl))) (fun _ _ _ _ _ => dt_nil) (fun _ _ _ _ _ => (de_op opd_sub (DE.dv (de_ix (DE.dv (de_ix (DE.dv (de_v (pv 26))) (DE.dv de_int) (fun _ _ => rfl))) (DE.dv de_int) (fun _ _ => rfl))) (DE.dv (de_ix (DE.dv (de_ix (DE.dv (de_v (pv 26))) (DE.dv de_int) (fun _ _ => rfl))) (DE.dv de_int) (fun _ _ => rfl)))))))
    (dss_cons (ds_if (db_w (dw_or (db_c (opd_ne (Deep.of hr)) (DE.dv (de_cl (fn_longest T) (hr.mono (by decide)) (by rfl) T.m_longest T.k_longest T.b_longest (takes_of rfl rfl rfl rfl) (dc_cons (de_v (pv 16)) dc_nil))) (DE.dv (de_ix (DE.dv (de_ix (DE.dv (de_v (pv 16))) (DE.dv (de_lm PySem.F.slot_list_index PySem.F.type_list_index (ml_index (Deep.of hr)) (DE.dv (de_v (pv 20))) (dc_cons (de_callB (cd_max rfl (Deep.of hr)) (by rfl) T.z_max PyProof.Rows.boot_max (da_cons (DE.dv (de_v (pv 20))) da_nil)) dc_nil))) (fun _ _ => rfl))) (DE.dv de_int) (fun _ _ => rfl))) (nomark _)) (dw_or1 (db_c (opd_ne (Deep.of hr)) (DE.dv (de_cl (fn_even_days T) (hr.mono (by decide)) (by rfl) T.m_even_days T.k_even_days T.b_even_days (takes_of rfl rfl rfl rfl) (dc_cons (de_v (pv 16)) dc_nil))) (DE.dv (de_callTy cd_tuple (by rfl) T.z_tuple PyProof.Rows.boot_tuple (da_cons (DE.dv (DF.de (df_K (cLc_K tge_n) (df_lc (own := [("k", 2)]) (vs := [2]) rfl sc_law.nd (di_r1 (by rfl) T.z_range (de_callB cd_len (by rfl) T.z_len PySem.boot_len (da_cons (DE.dv (de_v (pv 17))) da_nil))) (blkOk_by (by kernel_rfl)) (by decide) (fun _ _ _ _ _ => (dg_name (i := 2) sc_law.nd rfl (by first | exact .inl rfl | exact .inr rfl))) (fun _ _ _ _ _ => (dt_one (db_c (opd_eq (Deep.of hr)) (DE.dv (de_ix (DE.dv (de_ix (dv_v (pv 18)) (DE.dv (de_v (pv 2))) (fun _ _ => rfl))) (DE.dv de_int) (fun _ _ => rfl))) (DE.dv (de_op opd_mul (DE.dv de_int) (DE.dv (de_ix (DE.dv (de_ix (dv_v (pv 18)) (DE.dv (de_v (pv 2))) (fun _ _ => rfl))) (DE.dv de_int) (fun _ _ => rfl))))) (nomark _)))) (fun _ _ _ _ _ => (de_ix (DE.dv (de_v (pv 17))) (DE.dv (de_v (pv 2))) (fun _ _ => rfl))))))) da_nil))) (nomark _)))))
    (dss_one (ds_ret de_bl))
    dss_nil)
    (dss_frz 18 (dss_cons (ds_set (i := 21) sc_law.nd rfl (by first | exact .inl rfl | exact .inr rfl) (DF.de (df_K (cLc_K (tge_2 tge_n tge_n)) (df_lc (own := [("up", 27), ("down", 6)]) (vs := [27, 6]) rfl sc_law.nd (di_seq (de_v (pv 18))) (blkOk_by (by kernel_rfl)) (by decide) (fun _ _ _ _ _ => (dg_tup (n := 2) rfl (dgs_cons (dg_name (i := 27) sc_law.nd rfl (by first | exact .inl rfl | exact .inr rfl)) (dgs_cons (dg_name (i := 6) sc_law.nd rfl (by first | exact .inl rfl | exact .inr rfl)) dgs_nil)))) (fun _ _ _ _ _ => dt_nil) (fun _ _ _ _ _ => (de_op opd_sub (DE.dv (de_op opd_mul (DE.dv de_int) (DE.dv (de_v (pv 6))))) (DE.dv (de_v (pv 27)))))))))
    (dss_cons (ds_if (db_c (opd_ne (Deep.of hr)) (DE.dv (de_cl (fn_shortest_candle T) (hr.mono (by decide)) (by rfl) T.m_shortest_candle T.k_shortest_candle T.b_shortest_candle (takes_of rfl rfl rfl rfl) (dc_cons (de_v (pv 16)) dc_nil))) (DE.dv (de_callB (cd_min rfl (Deep.of hr)) (by rfl) T.z_min PyProof.Rows.boot_min (da_cons (DE.dv (DF.de (df_K (cLc_K tge_n) (df_lc (own := [("size", 22)]) (vs := [22]) rfl sc_law.nd (di_r1 (by rfl) T.z_range de_int) (blkOk_by (by kernel_rfl)) (by decide) (fun _ _ _ _ _ => (dg_name (i := 22) sc_law.nd rfl (by first | exact .inl rfl | exact .inr rfl))) (fun _ _ _ _ _ => (dt_one (db_not (db_t (DE.dv (de_callB (cd_any rfl) (by rfl) T.z_any PyProof.Rows.boot_any (da_cons (DE.dv (DF.de (df_K (cLc_K tge_n) (df_lc (own := [("k", 2)]) (vs := [2]) rfl sc_law.nd (di_r1 (by rfl) T.z_range (de_callB cd_len (by rfl) T.z_len PySem.boot_len (da_cons (DE.dv (de_v (pv 17))) da_nil))) (blkOk_by (by kernel_rfl)) (by decide) (fun _ _ _ _ _ => (dg_name (i := 2) sc_law.nd rfl (by first | exact .inl rfl | exact .inr rfl))) (fun _ _ _ _ _ => dt_nil) (fun _ _ _ _ _ => (de_cmp (opd_lt (Deep.of hr)) (DE.dv (de_op opd_mul (DE.dv (de_v (pv 22))) (DE.dv (de_ix (DE.dv (de_ix (dv_v (pv 18)) (DE.dv (de_v (pv 2))) (fun _ _ => rfl))) (DE.dv de_int) (fun _ _ => rfl))))) (DE.dv (de_ix (DE.dv (de_v (pv 21))) (DE.dv (de_v (pv 2))) (fun _ _ => rfl))) (nomark _))))))) da_nil))) (fun _ => rfl))))) (fun _ _ _ _ _ => (de_v (pv 22))))))) da_nil))) (nomark _))
    (dss_one (ds_ret de_bl))
    dss_nil)
    (dss_cons (ds_for (passes_of rfl) rfl (di_r1 (by rfl) T.z_range de_int) (dg_name (i := 2) sc_law.nd rfl (by first | exact .inl rfl | exact .inr rfl))
    (dss_cons (ds_par (i := 22) (j := 23) rfl sc_law.nd rfl rfl (by decide) rfl rfl (de_op opd_add (DE.dv de_int) (DE.dv (de_op opd_mod (DE.dv (de_callTy cd_int (by rfl) T.z_int PyProof.Rows.boot_int (da_cons (DE.dv (de_ix (DE.dv (de_v (pv 1))) (DE.dv (de_op opd_add (DE.dv de_int) (DE.dv (de_v (pv 2))))) (fun _ _ => rfl))) da_nil))) (DE.dv de_int)))) (de_op opd_mod (DE.dv (de_op opd_fdiv (DE.dv (de_callTy cd_int (by rfl) T.z_int PyProof.Rows.boot_int (da_cons (DE.dv (de_ix (DE.dv (de_v (pv 1))) (DE.dv de_int) (fun _ _ => rfl))) da_nil))) (DE.dv (de_op opd_add (DE.dv de_int) (DE.dv (de_v (pv 2))))))) (DE.dv (de_callB cd_len (by rfl) T.z_len PySem.boot_len (da_cons (DE.dv (de_v (pv 17))) da_nil)))) (by rfl))
    (dss_cons (ds_set (i := 24) sc_law.nd rfl (by first | exact .inl rfl | exact .inr rfl) (de_cl (fn__law_lowest T) (hr.mono (by decide)) (by rfl) T.m__law_lowest T.k__law_lowest T.b__law_lowest (takes_of rfl rfl rfl rfl) (dc_cons (de_op opd_mul (DE.dv (de_op opd_mul (DE.dv de_int) (DE.dv (de_v (pv 22))))) (DE.dv (de_ix (DE.dv (de_ix (dv_v (pv 18)) (DE.dv (de_v (pv 23))) (fun _ _ => rfl))) (DE.dv de_int) (fun _ _ => rfl)))) (dc_cons (de_ix (DE.dv (de_v (pv 21))) (DE.dv (de_v (pv 23))) (fun _ _ => rfl)) dc_nil))))
    (dss_one (ds_if (db_c (opd_ne (Deep.of hr)) (DE.dv (de_cl (fn_candle_hours T) (hr.mono (by decide)) (by rfl) T.m_candle_hours T.k_candle_hours T.b_candle_hours (takes_of rfl rfl rfl rfl) (dc_cons (de_v (pv 16)) (dc_cons (de_ix (DE.dv (de_v (pv 17))) (DE.dv (de_v (pv 23))) (fun _ _ => rfl)) (dc_cons (de_v (pv 22)) dc_nil))))) (DE.dv (de_if (db_c (opd_lt (Deep.of hr)) (DE.dv (de_ix (DE.dv (de_v (pv 24))) (DE.dv de_int) (fun _ _ => rfl))) (DE.dv (de_op opd_mul (DE.dv de_int) (DE.dv (de_ix (DE.dv (de_v (pv 24))) (DE.dv de_int) (fun _ _ => rfl))))) (nomark _)) (de_v (pv 24)) (de_tup (dc_cons de_int (dc_cons de_int dc_nil))))) (nomark _))
    (dss_one (ds_ret de_bl))
    dss_nil)))))
    (dss_one (ds_ret (de_cl0 (fn__law_refuses T) (hr.mono (by decide)) (by rfl) T.m__law_refuses T.k__law_refuses T.b__law_refuses (takes_of rfl rfl rfl rfl)))))))))))))))))))
end
end K79
namespace K79
open PySem PySem.Spec PyProof.Rows L2 DL
theorem all_mk {l : PySem.W.OpenLaw} {w : World} {K : PySem.W.Frag} {h : Heap} {mg : Str → Option Value} {fa : Addr} (X : K.In h) (G : h.Ns mainGlobals mg) (hfa : mg "law" = some (.ref fa))
    {f_is_whole : Addr} {od_is_whole an_is_whole : Option Addr} {sl_is_whole : Array (Option Value)} {oc_is_whole kV_is_whole dc_is_whole pm_is_whole cd_is_whole ct_is_whole : Value}
    {f_ascends : Addr} {od_ascends an_ascends : Option Addr} {sl_ascends : Array (Option Value)} {oc_ascends kV_ascends dc_ascends pm_ascends cd_ascends ct_ascends : Value}
    {f_divisor : Addr} {od_divisor an_divisor : Option Addr} {sl_divisor : Array (Option Value)} {oc_divisor kV_divisor dc_divisor pm_divisor cd_divisor ct_divisor : Value}
    {f_is_less : Addr} {od_is_less an_is_less : Option Addr} {sl_is_less : Array (Option Value)} {oc_is_less kV_is_less dc_is_less pm_is_less cd_is_less ct_is_less : Value}
    {f_is_integer : Addr} {od_is_integer an_is_integer : Option Addr} {sl_is_integer : Array (Option Value)} {oc_is_integer kV_is_integer dc_is_integer pm_is_integer cd_is_integer ct_is_integer : Value}
    {f__law_draws : Addr} {od__law_draws an__law_draws : Option Addr} {sl__law_draws : Array (Option Value)} {oc__law_draws kV__law_draws dc__law_draws pm__law_draws cd__law_draws ct__law_draws : Value}
    {f__law_lowest : Addr} {od__law_lowest an__law_lowest : Option Addr} {sl__law_lowest : Array (Option Value)} {oc__law_lowest kV__law_lowest dc__law_lowest pm__law_lowest cd__law_lowest ct__law_lowest : Value}
    {f__law_day : Addr} {od__law_day an__law_day : Option Addr} {sl__law_day : Array (Option Value)} {oc__law_day kV__law_day dc__law_day pm__law_day cd__law_day ct__law_day : Value}
    {f_quotient : Addr} {od_quotient an_quotient : Option Addr} {sl_quotient : Array (Option Value)} {oc_quotient kV_quotient dc_quotient pm_quotient cd_quotient ct_quotient : Value}
    {f_is_quotient : Addr} {od_is_quotient an_is_quotient : Option Addr} {sl_is_quotient : Array (Option Value)} {oc_is_quotient kV_is_quotient dc_is_quotient pm_is_quotient cd_is_quotient ct_is_quotient : Value}
    {f_is_day : Addr} {od_is_day an_is_day : Option Addr} {sl_is_day : Array (Option Value)} {oc_is_day kV_is_day dc_is_day pm_is_day cd_is_day ct_is_day : Value}
    {f__check_number : Addr} {od__check_number an__check_number : Option Addr} {sl__check_number : Array (Option Value)} {oc__check_number kV__check_number dc__check_number pm__check_number cd__check_number ct__check_number : Value}
    {f__law_told : Addr} {od__law_told an__law_told : Option Addr} {sl__law_told : Array (Option Value)} {oc__law_told kV__law_told dc__law_told pm__law_told cd__law_told ct__law_told : Value}
    {f__law_ends : Addr} {od__law_ends an__law_ends : Option Addr} {sl__law_ends : Array (Option Value)} {oc__law_ends kV__law_ends dc__law_ends pm__law_ends cd__law_ends ct__law_ends : Value}
    {f__law_on : Addr} {od__law_on an__law_on : Option Addr} {sl__law_on : Array (Option Value)} {oc__law_on kV__law_on dc__law_on pm__law_on cd__law_on ct__law_on : Value}
    {f_plus : Addr} {od_plus an_plus : Option Addr} {sl_plus : Array (Option Value)} {oc_plus kV_plus dc_plus pm_plus cd_plus ct_plus : Value}
    {f_minus : Addr} {od_minus an_minus : Option Addr} {sl_minus : Array (Option Value)} {oc_minus kV_minus dc_minus pm_minus cd_minus ct_minus : Value}
    {f_times : Addr} {od_times an_times : Option Addr} {sl_times : Array (Option Value)} {oc_times kV_times dc_times pm_times cd_times ct_times : Value}
    {f_over : Addr} {od_over an_over : Option Addr} {sl_over : Array (Option Value)} {oc_over kV_over dc_over pm_over cd_over ct_over : Value}
    {f__check_day : Addr} {od__check_day an__check_day : Option Addr} {sl__check_day : Array (Option Value)} {oc__check_day kV__check_day dc__check_day pm__check_day cd__check_day ct__check_day : Value}
    {f__lengths : Addr} {od__lengths an__lengths : Option Addr} {sl__lengths : Array (Option Value)} {oc__lengths kV__lengths dc__lengths pm__lengths cd__lengths ct__lengths : Value}
    {f__is_told : Addr} {od__is_told an__is_told : Option Addr} {sl__is_told : Array (Option Value)} {oc__is_told kV__is_told dc__is_told pm__is_told cd__is_told ct__is_told : Value}
    {f__check_table : Addr} {od__check_table an__check_table : Option Addr} {sl__check_table : Array (Option Value)} {oc__check_table kV__check_table dc__check_table pm__check_table cd__check_table ct__check_table : Value}
    {f__between : Addr} {od__between an__between : Option Addr} {sl__between : Array (Option Value)} {oc__between kV__between dc__between pm__between cd__between ct__between : Value}
    {f_hour_lengths : Addr} {od_hour_lengths an_hour_lengths : Option Addr} {sl_hour_lengths : Array (Option Value)} {oc_hour_lengths kV_hour_lengths dc_hour_lengths pm_hour_lengths cd_hour_lengths ct_hour_lengths : Value}
    {f__check_moment : Addr} {od__check_moment an__check_moment : Option Addr} {sl__check_moment : Array (Option Value)} {oc__check_moment kV__check_moment dc__check_moment pm__check_moment cd__check_moment ct__check_moment : Value}
    {f__told_at : Addr} {od__told_at an__told_at : Option Addr} {sl__told_at : Array (Option Value)} {oc__told_at kV__told_at dc__told_at pm__told_at cd__told_at ct__told_at : Value}
    {f_minute_of : Addr} {od_minute_of an_minute_of : Option Addr} {sl_minute_of : Array (Option Value)} {oc_minute_of kV_minute_of dc_minute_of pm_minute_of cd_minute_of ct_minute_of : Value}
    {f__day_on : Addr} {od__day_on an__day_on : Option Addr} {sl__day_on : Array (Option Value)} {oc__day_on kV__day_on dc__day_on pm__day_on cd__day_on ct__day_on : Value}
    {f_longest : Addr} {od_longest an_longest : Option Addr} {sl_longest : Array (Option Value)} {oc_longest kV_longest dc_longest pm_longest cd_longest ct_longest : Value}
    {f_told_at : Addr} {od_told_at an_told_at : Option Addr} {sl_told_at : Array (Option Value)} {oc_told_at kV_told_at dc_told_at pm_told_at cd_told_at ct_told_at : Value}
    {f_stroke : Addr} {od_stroke an_stroke : Option Addr} {sl_stroke : Array (Option Value)} {oc_stroke kV_stroke dc_stroke pm_stroke cd_stroke ct_stroke : Value}
    {f_strokes_by : Addr} {od_strokes_by an_strokes_by : Option Addr} {sl_strokes_by : Array (Option Value)} {oc_strokes_by kV_strokes_by dc_strokes_by pm_strokes_by cd_strokes_by ct_strokes_by : Value}
    {f_next_stroke : Addr} {od_next_stroke an_next_stroke : Option Addr} {sl_next_stroke : Array (Option Value)} {oc_next_stroke kV_next_stroke dc_next_stroke pm_next_stroke cd_next_stroke ct_next_stroke : Value}
    {f_day_on : Addr} {od_day_on an_day_on : Option Addr} {sl_day_on : Array (Option Value)} {oc_day_on kV_day_on dc_day_on pm_day_on cd_day_on ct_day_on : Value}
    {f__light : Addr} {od__light an__light : Option Addr} {sl__light : Array (Option Value)} {oc__light kV__light dc__light pm__light cd__light ct__light : Value}
    {f_even_days : Addr} {od_even_days an_even_days : Option Addr} {sl_even_days : Array (Option Value)} {oc_even_days kV_even_days dc_even_days pm_even_days cd_even_days ct_even_days : Value}
    {f_candle_hours : Addr} {od_candle_hours an_candle_hours : Option Addr} {sl_candle_hours : Array (Option Value)} {oc_candle_hours kV_candle_hours dc_candle_hours pm_candle_hours cd_candle_hours ct_candle_hours : Value}
    {f_shortest_candle : Addr} {od_shortest_candle an_shortest_candle : Option Addr} {sl_shortest_candle : Array (Option Value)} {oc_shortest_candle kV_shortest_candle dc_shortest_candle pm_shortest_candle cd_shortest_candle ct_shortest_candle : Value}
    {f__law_error : Addr} {od__law_error an__law_error : Option Addr} {sl__law_error : Array (Option Value)} {oc__law_error kV__law_error dc__law_error pm__law_error cd__law_error ct__law_error : Value}
    {f__law_refuses : Addr} {od__law_refuses an__law_refuses : Option Addr} {sl__law_refuses : Array (Option Value)} {oc__law_refuses kV__law_refuses dc__law_refuses pm__law_refuses cd__law_refuses ct__law_refuses : Value}
    {f_law : Addr} {od_law an_law : Option Addr} {sl_law : Array (Option Value)} {oc_law kV_law dc_law pm_law cd_law ct_law : Value}
    {t_DAY : Tok}
    {r_HALF : Addr} {od_HALF : Option Addr} {n_HALF : Nat} {sl_HALF : Array (Option Value)} {t_HALF0 : Tok} {t_HALF1 : Tok}
    {t_HOURS : Tok}
    {t_MINUTES : Tok}
    {t_MOST_NUMBER : Tok}
    {t_MOST_ROWS : Tok}
    {t_NIGHT : Tok}
    {r_NOTHING : Addr} {od_NOTHING : Option Addr} {n_NOTHING : Nat} {sl_NOTHING : Array (Option Value)} {t_NOTHING0 : Tok} {t_NOTHING1 : Tok}
    {C_BadDay : Addr}
    {C_BadMoment : Addr}
    {C_BadNumber : Addr}
    {C_BadSize : Addr}
    {C_BadTable : Addr}
    {C_BadTold : Addr}
    (a_is_whole : PySem.W.nsIn K mainGlobals "is_whole" = some (some (.ref f_is_whole)))
    (l_is_whole : K.lookup f_is_whole = some ⟨oc_is_whole, od_is_whole, .func (PySem.W.fnOf "is_whole" "is_whole" (defArgs s_is_whole) (defBody s_is_whole) (defScope s_is_whole) .none kV_is_whole dc_is_whole pm_is_whole an_is_whole cd_is_whole ct_is_whole), sl_is_whole⟩)
    (c_is_whole : PySem.W.codeIn K cd_is_whole "is_whole" = true)
    (k_is_whole : PySem.W.keepIn K (.ref f_is_whole) = true)
    (a_ascends : PySem.W.nsIn K mainGlobals "ascends" = some (some (.ref f_ascends)))
    (l_ascends : K.lookup f_ascends = some ⟨oc_ascends, od_ascends, .func (PySem.W.fnOf "ascends" "ascends" (defArgs s_ascends) (defBody s_ascends) (defScope s_ascends) .none kV_ascends dc_ascends pm_ascends an_ascends cd_ascends ct_ascends), sl_ascends⟩)
    (c_ascends : PySem.W.codeIn K cd_ascends "ascends" = true)
    (k_ascends : PySem.W.keepIn K (.ref f_ascends) = true)
    (a_divisor : PySem.W.nsIn K mainGlobals "divisor" = some (some (.ref f_divisor)))
    (l_divisor : K.lookup f_divisor = some ⟨oc_divisor, od_divisor, .func (PySem.W.fnOf "divisor" "divisor" (defArgs s_divisor) (defBody s_divisor) (defScope s_divisor) .none kV_divisor dc_divisor pm_divisor an_divisor cd_divisor ct_divisor), sl_divisor⟩)
    (c_divisor : PySem.W.codeIn K cd_divisor "divisor" = true)
    (k_divisor : PySem.W.keepIn K (.ref f_divisor) = true)
    (a_is_less : PySem.W.nsIn K mainGlobals "is_less" = some (some (.ref f_is_less)))
    (l_is_less : K.lookup f_is_less = some ⟨oc_is_less, od_is_less, .func (PySem.W.fnOf "is_less" "is_less" (defArgs s_is_less) (defBody s_is_less) (defScope s_is_less) .none kV_is_less dc_is_less pm_is_less an_is_less cd_is_less ct_is_less), sl_is_less⟩)
    (c_is_less : PySem.W.codeIn K cd_is_less "is_less" = true)
    (k_is_less : PySem.W.keepIn K (.ref f_is_less) = true)
    (a_is_integer : PySem.W.nsIn K mainGlobals "is_integer" = some (some (.ref f_is_integer)))
    (l_is_integer : K.lookup f_is_integer = some ⟨oc_is_integer, od_is_integer, .func (PySem.W.fnOf "is_integer" "is_integer" (defArgs s_is_integer) (defBody s_is_integer) (defScope s_is_integer) .none kV_is_integer dc_is_integer pm_is_integer an_is_integer cd_is_integer ct_is_integer), sl_is_integer⟩)
    (c_is_integer : PySem.W.codeIn K cd_is_integer "is_integer" = true)
    (k_is_integer : PySem.W.keepIn K (.ref f_is_integer) = true)
    (a__law_draws : PySem.W.nsIn K mainGlobals "_law_draws" = some (some (.ref f__law_draws)))
    (l__law_draws : K.lookup f__law_draws = some ⟨oc__law_draws, od__law_draws, .func (PySem.W.fnOf "_law_draws" "_law_draws" (defArgs s__law_draws) (defBody s__law_draws) (defScope s__law_draws) .none kV__law_draws dc__law_draws pm__law_draws an__law_draws cd__law_draws ct__law_draws), sl__law_draws⟩)
    (c__law_draws : PySem.W.codeIn K cd__law_draws "_law_draws" = true)
    (k__law_draws : PySem.W.keepIn K (.ref f__law_draws) = true)
    (a__law_lowest : PySem.W.nsIn K mainGlobals "_law_lowest" = some (some (.ref f__law_lowest)))
    (l__law_lowest : K.lookup f__law_lowest = some ⟨oc__law_lowest, od__law_lowest, .func (PySem.W.fnOf "_law_lowest" "_law_lowest" (defArgs s__law_lowest) (defBody s__law_lowest) (defScope s__law_lowest) .none kV__law_lowest dc__law_lowest pm__law_lowest an__law_lowest cd__law_lowest ct__law_lowest), sl__law_lowest⟩)
    (c__law_lowest : PySem.W.codeIn K cd__law_lowest "_law_lowest" = true)
    (k__law_lowest : PySem.W.keepIn K (.ref f__law_lowest) = true)
    (a__law_day : PySem.W.nsIn K mainGlobals "_law_day" = some (some (.ref f__law_day)))
    (l__law_day : K.lookup f__law_day = some ⟨oc__law_day, od__law_day, .func (PySem.W.fnOf "_law_day" "_law_day" (defArgs s__law_day) (defBody s__law_day) (defScope s__law_day) .none kV__law_day dc__law_day pm__law_day an__law_day cd__law_day ct__law_day), sl__law_day⟩)
    (c__law_day : PySem.W.codeIn K cd__law_day "_law_day" = true)
    (k__law_day : PySem.W.keepIn K (.ref f__law_day) = true)
    (a_quotient : PySem.W.nsIn K mainGlobals "quotient" = some (some (.ref f_quotient)))
    (l_quotient : K.lookup f_quotient = some ⟨oc_quotient, od_quotient, .func (PySem.W.fnOf "quotient" "quotient" (defArgs s_quotient) (defBody s_quotient) (defScope s_quotient) .none kV_quotient dc_quotient pm_quotient an_quotient cd_quotient ct_quotient), sl_quotient⟩)
    (c_quotient : PySem.W.codeIn K cd_quotient "quotient" = true)
    (k_quotient : PySem.W.keepIn K (.ref f_quotient) = true)
    (a_is_quotient : PySem.W.nsIn K mainGlobals "is_quotient" = some (some (.ref f_is_quotient)))
    (l_is_quotient : K.lookup f_is_quotient = some ⟨oc_is_quotient, od_is_quotient, .func (PySem.W.fnOf "is_quotient" "is_quotient" (defArgs s_is_quotient) (defBody s_is_quotient) (defScope s_is_quotient) .none kV_is_quotient dc_is_quotient pm_is_quotient an_is_quotient cd_is_quotient ct_is_quotient), sl_is_quotient⟩)
    (c_is_quotient : PySem.W.codeIn K cd_is_quotient "is_quotient" = true)
    (k_is_quotient : PySem.W.keepIn K (.ref f_is_quotient) = true)
    (a_is_day : PySem.W.nsIn K mainGlobals "is_day" = some (some (.ref f_is_day)))
    (l_is_day : K.lookup f_is_day = some ⟨oc_is_day, od_is_day, .func (PySem.W.fnOf "is_day" "is_day" (defArgs s_is_day) (defBody s_is_day) (defScope s_is_day) .none kV_is_day dc_is_day pm_is_day an_is_day cd_is_day ct_is_day), sl_is_day⟩)
    (c_is_day : PySem.W.codeIn K cd_is_day "is_day" = true)
    (k_is_day : PySem.W.keepIn K (.ref f_is_day) = true)
    (a__check_number : PySem.W.nsIn K mainGlobals "_check_number" = some (some (.ref f__check_number)))
    (l__check_number : K.lookup f__check_number = some ⟨oc__check_number, od__check_number, .func (PySem.W.fnOf "_check_number" "_check_number" (defArgs s__check_number) (defBody s__check_number) (defScope s__check_number) .none kV__check_number dc__check_number pm__check_number an__check_number cd__check_number ct__check_number), sl__check_number⟩)
    (c__check_number : PySem.W.codeIn K cd__check_number "_check_number" = true)
    (k__check_number : PySem.W.keepIn K (.ref f__check_number) = true)
    (a__law_told : PySem.W.nsIn K mainGlobals "_law_told" = some (some (.ref f__law_told)))
    (l__law_told : K.lookup f__law_told = some ⟨oc__law_told, od__law_told, .func (PySem.W.fnOf "_law_told" "_law_told" (defArgs s__law_told) (defBody s__law_told) (defScope s__law_told) .none kV__law_told dc__law_told pm__law_told an__law_told cd__law_told ct__law_told), sl__law_told⟩)
    (c__law_told : PySem.W.codeIn K cd__law_told "_law_told" = true)
    (k__law_told : PySem.W.keepIn K (.ref f__law_told) = true)
    (a__law_ends : PySem.W.nsIn K mainGlobals "_law_ends" = some (some (.ref f__law_ends)))
    (l__law_ends : K.lookup f__law_ends = some ⟨oc__law_ends, od__law_ends, .func (PySem.W.fnOf "_law_ends" "_law_ends" (defArgs s__law_ends) (defBody s__law_ends) (defScope s__law_ends) .none kV__law_ends dc__law_ends pm__law_ends an__law_ends cd__law_ends ct__law_ends), sl__law_ends⟩)
    (c__law_ends : PySem.W.codeIn K cd__law_ends "_law_ends" = true)
    (k__law_ends : PySem.W.keepIn K (.ref f__law_ends) = true)
    (a__law_on : PySem.W.nsIn K mainGlobals "_law_on" = some (some (.ref f__law_on)))
    (l__law_on : K.lookup f__law_on = some ⟨oc__law_on, od__law_on, .func (PySem.W.fnOf "_law_on" "_law_on" (defArgs s__law_on) (defBody s__law_on) (defScope s__law_on) .none kV__law_on dc__law_on pm__law_on an__law_on cd__law_on ct__law_on), sl__law_on⟩)
    (c__law_on : PySem.W.codeIn K cd__law_on "_law_on" = true)
    (k__law_on : PySem.W.keepIn K (.ref f__law_on) = true)
    (a_plus : PySem.W.nsIn K mainGlobals "plus" = some (some (.ref f_plus)))
    (l_plus : K.lookup f_plus = some ⟨oc_plus, od_plus, .func (PySem.W.fnOf "plus" "plus" (defArgs s_plus) (defBody s_plus) (defScope s_plus) .none kV_plus dc_plus pm_plus an_plus cd_plus ct_plus), sl_plus⟩)
    (c_plus : PySem.W.codeIn K cd_plus "plus" = true)
    (k_plus : PySem.W.keepIn K (.ref f_plus) = true)
    (a_minus : PySem.W.nsIn K mainGlobals "minus" = some (some (.ref f_minus)))
    (l_minus : K.lookup f_minus = some ⟨oc_minus, od_minus, .func (PySem.W.fnOf "minus" "minus" (defArgs s_minus) (defBody s_minus) (defScope s_minus) .none kV_minus dc_minus pm_minus an_minus cd_minus ct_minus), sl_minus⟩)
    (c_minus : PySem.W.codeIn K cd_minus "minus" = true)
    (k_minus : PySem.W.keepIn K (.ref f_minus) = true)
    (a_times : PySem.W.nsIn K mainGlobals "times" = some (some (.ref f_times)))
    (l_times : K.lookup f_times = some ⟨oc_times, od_times, .func (PySem.W.fnOf "times" "times" (defArgs s_times) (defBody s_times) (defScope s_times) .none kV_times dc_times pm_times an_times cd_times ct_times), sl_times⟩)
    (c_times : PySem.W.codeIn K cd_times "times" = true)
    (k_times : PySem.W.keepIn K (.ref f_times) = true)
    (a_over : PySem.W.nsIn K mainGlobals "over" = some (some (.ref f_over)))
    (l_over : K.lookup f_over = some ⟨oc_over, od_over, .func (PySem.W.fnOf "over" "over" (defArgs s_over) (defBody s_over) (defScope s_over) .none kV_over dc_over pm_over an_over cd_over ct_over), sl_over⟩)
    (c_over : PySem.W.codeIn K cd_over "over" = true)
    (k_over : PySem.W.keepIn K (.ref f_over) = true)
    (a__check_day : PySem.W.nsIn K mainGlobals "_check_day" = some (some (.ref f__check_day)))
    (l__check_day : K.lookup f__check_day = some ⟨oc__check_day, od__check_day, .func (PySem.W.fnOf "_check_day" "_check_day" (defArgs s__check_day) (defBody s__check_day) (defScope s__check_day) .none kV__check_day dc__check_day pm__check_day an__check_day cd__check_day ct__check_day), sl__check_day⟩)
    (c__check_day : PySem.W.codeIn K cd__check_day "_check_day" = true)
    (k__check_day : PySem.W.keepIn K (.ref f__check_day) = true)
    (a__lengths : PySem.W.nsIn K mainGlobals "_lengths" = some (some (.ref f__lengths)))
    (l__lengths : K.lookup f__lengths = some ⟨oc__lengths, od__lengths, .func (PySem.W.fnOf "_lengths" "_lengths" (defArgs s__lengths) (defBody s__lengths) (defScope s__lengths) .none kV__lengths dc__lengths pm__lengths an__lengths cd__lengths ct__lengths), sl__lengths⟩)
    (c__lengths : PySem.W.codeIn K cd__lengths "_lengths" = true)
    (k__lengths : PySem.W.keepIn K (.ref f__lengths) = true)
    (a__is_told : PySem.W.nsIn K mainGlobals "_is_told" = some (some (.ref f__is_told)))
    (l__is_told : K.lookup f__is_told = some ⟨oc__is_told, od__is_told, .func (PySem.W.fnOf "_is_told" "_is_told" (defArgs s__is_told) (defBody s__is_told) (defScope s__is_told) .none kV__is_told dc__is_told pm__is_told an__is_told cd__is_told ct__is_told), sl__is_told⟩)
    (c__is_told : PySem.W.codeIn K cd__is_told "_is_told" = true)
    (k__is_told : PySem.W.keepIn K (.ref f__is_told) = true)
    (a__check_table : PySem.W.nsIn K mainGlobals "_check_table" = some (some (.ref f__check_table)))
    (l__check_table : K.lookup f__check_table = some ⟨oc__check_table, od__check_table, .func (PySem.W.fnOf "_check_table" "_check_table" (defArgs s__check_table) (defBody s__check_table) (defScope s__check_table) .none kV__check_table dc__check_table pm__check_table an__check_table cd__check_table ct__check_table), sl__check_table⟩)
    (c__check_table : PySem.W.codeIn K cd__check_table "_check_table" = true)
    (k__check_table : PySem.W.keepIn K (.ref f__check_table) = true)
    (a__between : PySem.W.nsIn K mainGlobals "_between" = some (some (.ref f__between)))
    (l__between : K.lookup f__between = some ⟨oc__between, od__between, .func (PySem.W.fnOf "_between" "_between" (defArgs s__between) (defBody s__between) (defScope s__between) .none kV__between dc__between pm__between an__between cd__between ct__between), sl__between⟩)
    (c__between : PySem.W.codeIn K cd__between "_between" = true)
    (k__between : PySem.W.keepIn K (.ref f__between) = true)
    (a_hour_lengths : PySem.W.nsIn K mainGlobals "hour_lengths" = some (some (.ref f_hour_lengths)))
    (l_hour_lengths : K.lookup f_hour_lengths = some ⟨oc_hour_lengths, od_hour_lengths, .func (PySem.W.fnOf "hour_lengths" "hour_lengths" (defArgs s_hour_lengths) (defBody s_hour_lengths) (defScope s_hour_lengths) .none kV_hour_lengths dc_hour_lengths pm_hour_lengths an_hour_lengths cd_hour_lengths ct_hour_lengths), sl_hour_lengths⟩)
    (c_hour_lengths : PySem.W.codeIn K cd_hour_lengths "hour_lengths" = true)
    (k_hour_lengths : PySem.W.keepIn K (.ref f_hour_lengths) = true)
    (a__check_moment : PySem.W.nsIn K mainGlobals "_check_moment" = some (some (.ref f__check_moment)))
    (l__check_moment : K.lookup f__check_moment = some ⟨oc__check_moment, od__check_moment, .func (PySem.W.fnOf "_check_moment" "_check_moment" (defArgs s__check_moment) (defBody s__check_moment) (defScope s__check_moment) .none kV__check_moment dc__check_moment pm__check_moment an__check_moment cd__check_moment ct__check_moment), sl__check_moment⟩)
    (c__check_moment : PySem.W.codeIn K cd__check_moment "_check_moment" = true)
    (k__check_moment : PySem.W.keepIn K (.ref f__check_moment) = true)
    (a__told_at : PySem.W.nsIn K mainGlobals "_told_at" = some (some (.ref f__told_at)))
    (l__told_at : K.lookup f__told_at = some ⟨oc__told_at, od__told_at, .func (PySem.W.fnOf "_told_at" "_told_at" (defArgs s__told_at) (defBody s__told_at) (defScope s__told_at) .none kV__told_at dc__told_at pm__told_at an__told_at cd__told_at ct__told_at), sl__told_at⟩)
    (c__told_at : PySem.W.codeIn K cd__told_at "_told_at" = true)
    (k__told_at : PySem.W.keepIn K (.ref f__told_at) = true)
    (a_minute_of : PySem.W.nsIn K mainGlobals "minute_of" = some (some (.ref f_minute_of)))
    (l_minute_of : K.lookup f_minute_of = some ⟨oc_minute_of, od_minute_of, .func (PySem.W.fnOf "minute_of" "minute_of" (defArgs s_minute_of) (defBody s_minute_of) (defScope s_minute_of) .none kV_minute_of dc_minute_of pm_minute_of an_minute_of cd_minute_of ct_minute_of), sl_minute_of⟩)
    (c_minute_of : PySem.W.codeIn K cd_minute_of "minute_of" = true)
    (k_minute_of : PySem.W.keepIn K (.ref f_minute_of) = true)
    (a__day_on : PySem.W.nsIn K mainGlobals "_day_on" = some (some (.ref f__day_on)))
    (l__day_on : K.lookup f__day_on = some ⟨oc__day_on, od__day_on, .func (PySem.W.fnOf "_day_on" "_day_on" (defArgs s__day_on) (defBody s__day_on) (defScope s__day_on) .none kV__day_on dc__day_on pm__day_on an__day_on cd__day_on ct__day_on), sl__day_on⟩)
    (c__day_on : PySem.W.codeIn K cd__day_on "_day_on" = true)
    (k__day_on : PySem.W.keepIn K (.ref f__day_on) = true)
    (a_longest : PySem.W.nsIn K mainGlobals "longest" = some (some (.ref f_longest)))
    (l_longest : K.lookup f_longest = some ⟨oc_longest, od_longest, .func (PySem.W.fnOf "longest" "longest" (defArgs s_longest) (defBody s_longest) (defScope s_longest) .none kV_longest dc_longest pm_longest an_longest cd_longest ct_longest), sl_longest⟩)
    (c_longest : PySem.W.codeIn K cd_longest "longest" = true)
    (k_longest : PySem.W.keepIn K (.ref f_longest) = true)
    (a_told_at : PySem.W.nsIn K mainGlobals "told_at" = some (some (.ref f_told_at)))
    (l_told_at : K.lookup f_told_at = some ⟨oc_told_at, od_told_at, .func (PySem.W.fnOf "told_at" "told_at" (defArgs s_told_at) (defBody s_told_at) (defScope s_told_at) .none kV_told_at dc_told_at pm_told_at an_told_at cd_told_at ct_told_at), sl_told_at⟩)
    (c_told_at : PySem.W.codeIn K cd_told_at "told_at" = true)
    (k_told_at : PySem.W.keepIn K (.ref f_told_at) = true)
    (a_stroke : PySem.W.nsIn K mainGlobals "stroke" = some (some (.ref f_stroke)))
    (l_stroke : K.lookup f_stroke = some ⟨oc_stroke, od_stroke, .func (PySem.W.fnOf "stroke" "stroke" (defArgs s_stroke) (defBody s_stroke) (defScope s_stroke) .none kV_stroke dc_stroke pm_stroke an_stroke cd_stroke ct_stroke), sl_stroke⟩)
    (c_stroke : PySem.W.codeIn K cd_stroke "stroke" = true)
    (k_stroke : PySem.W.keepIn K (.ref f_stroke) = true)
    (a_strokes_by : PySem.W.nsIn K mainGlobals "strokes_by" = some (some (.ref f_strokes_by)))
    (l_strokes_by : K.lookup f_strokes_by = some ⟨oc_strokes_by, od_strokes_by, .func (PySem.W.fnOf "strokes_by" "strokes_by" (defArgs s_strokes_by) (defBody s_strokes_by) (defScope s_strokes_by) .none kV_strokes_by dc_strokes_by pm_strokes_by an_strokes_by cd_strokes_by ct_strokes_by), sl_strokes_by⟩)
    (c_strokes_by : PySem.W.codeIn K cd_strokes_by "strokes_by" = true)
    (k_strokes_by : PySem.W.keepIn K (.ref f_strokes_by) = true)
    (a_next_stroke : PySem.W.nsIn K mainGlobals "next_stroke" = some (some (.ref f_next_stroke)))
    (l_next_stroke : K.lookup f_next_stroke = some ⟨oc_next_stroke, od_next_stroke, .func (PySem.W.fnOf "next_stroke" "next_stroke" (defArgs s_next_stroke) (defBody s_next_stroke) (defScope s_next_stroke) .none kV_next_stroke dc_next_stroke pm_next_stroke an_next_stroke cd_next_stroke ct_next_stroke), sl_next_stroke⟩)
    (c_next_stroke : PySem.W.codeIn K cd_next_stroke "next_stroke" = true)
    (k_next_stroke : PySem.W.keepIn K (.ref f_next_stroke) = true)
    (a_day_on : PySem.W.nsIn K mainGlobals "day_on" = some (some (.ref f_day_on)))
    (l_day_on : K.lookup f_day_on = some ⟨oc_day_on, od_day_on, .func (PySem.W.fnOf "day_on" "day_on" (defArgs s_day_on) (defBody s_day_on) (defScope s_day_on) .none kV_day_on dc_day_on pm_day_on an_day_on cd_day_on ct_day_on), sl_day_on⟩)
    (c_day_on : PySem.W.codeIn K cd_day_on "day_on" = true)
    (k_day_on : PySem.W.keepIn K (.ref f_day_on) = true)
    (a__light : PySem.W.nsIn K mainGlobals "_light" = some (some (.ref f__light)))
    (l__light : K.lookup f__light = some ⟨oc__light, od__light, .func (PySem.W.fnOf "_light" "_light" (defArgs s__light) (defBody s__light) (defScope s__light) .none kV__light dc__light pm__light an__light cd__light ct__light), sl__light⟩)
    (c__light : PySem.W.codeIn K cd__light "_light" = true)
    (k__light : PySem.W.keepIn K (.ref f__light) = true)
    (a_even_days : PySem.W.nsIn K mainGlobals "even_days" = some (some (.ref f_even_days)))
    (l_even_days : K.lookup f_even_days = some ⟨oc_even_days, od_even_days, .func (PySem.W.fnOf "even_days" "even_days" (defArgs s_even_days) (defBody s_even_days) (defScope s_even_days) .none kV_even_days dc_even_days pm_even_days an_even_days cd_even_days ct_even_days), sl_even_days⟩)
    (c_even_days : PySem.W.codeIn K cd_even_days "even_days" = true)
    (k_even_days : PySem.W.keepIn K (.ref f_even_days) = true)
    (a_candle_hours : PySem.W.nsIn K mainGlobals "candle_hours" = some (some (.ref f_candle_hours)))
    (l_candle_hours : K.lookup f_candle_hours = some ⟨oc_candle_hours, od_candle_hours, .func (PySem.W.fnOf "candle_hours" "candle_hours" (defArgs s_candle_hours) (defBody s_candle_hours) (defScope s_candle_hours) .none kV_candle_hours dc_candle_hours pm_candle_hours an_candle_hours cd_candle_hours ct_candle_hours), sl_candle_hours⟩)
    (c_candle_hours : PySem.W.codeIn K cd_candle_hours "candle_hours" = true)
    (k_candle_hours : PySem.W.keepIn K (.ref f_candle_hours) = true)
    (a_shortest_candle : PySem.W.nsIn K mainGlobals "shortest_candle" = some (some (.ref f_shortest_candle)))
    (l_shortest_candle : K.lookup f_shortest_candle = some ⟨oc_shortest_candle, od_shortest_candle, .func (PySem.W.fnOf "shortest_candle" "shortest_candle" (defArgs s_shortest_candle) (defBody s_shortest_candle) (defScope s_shortest_candle) .none kV_shortest_candle dc_shortest_candle pm_shortest_candle an_shortest_candle cd_shortest_candle ct_shortest_candle), sl_shortest_candle⟩)
    (c_shortest_candle : PySem.W.codeIn K cd_shortest_candle "shortest_candle" = true)
    (k_shortest_candle : PySem.W.keepIn K (.ref f_shortest_candle) = true)
    (a__law_error : PySem.W.nsIn K mainGlobals "_law_error" = some (some (.ref f__law_error)))
    (l__law_error : K.lookup f__law_error = some ⟨oc__law_error, od__law_error, .func (PySem.W.fnOf "_law_error" "_law_error" (defArgs s__law_error) (defBody s__law_error) (defScope s__law_error) .none kV__law_error dc__law_error pm__law_error an__law_error cd__law_error ct__law_error), sl__law_error⟩)
    (c__law_error : PySem.W.codeIn K cd__law_error "_law_error" = true)
    (k__law_error : PySem.W.keepIn K (.ref f__law_error) = true)
    (a__law_refuses : PySem.W.nsIn K mainGlobals "_law_refuses" = some (some (.ref f__law_refuses)))
    (l__law_refuses : K.lookup f__law_refuses = some ⟨oc__law_refuses, od__law_refuses, .func (PySem.W.fnOf "_law_refuses" "_law_refuses" (defArgs s__law_refuses) (defBody s__law_refuses) (defScope s__law_refuses) .none kV__law_refuses dc__law_refuses pm__law_refuses an__law_refuses cd__law_refuses ct__law_refuses), sl__law_refuses⟩)
    (c__law_refuses : PySem.W.codeIn K cd__law_refuses "_law_refuses" = true)
    (k__law_refuses : PySem.W.keepIn K (.ref f__law_refuses) = true)
    (a_law : PySem.W.nsIn K mainGlobals "law" = some (some (.ref f_law)))
    (l_law : K.lookup f_law = some ⟨oc_law, od_law, .func (PySem.W.fnOf "law" "law" (defArgs s_law) (defBody s_law) (defScope s_law) .none kV_law dc_law pm_law an_law cd_law ct_law), sl_law⟩)
    (c_law : PySem.W.codeIn K cd_law "law" = true)
    (k_law : PySem.W.keepIn K (.ref f_law) = true)
    (z_abs : PySem.W.nsIn K mainGlobals "abs" = some none)
    (z_all : PySem.W.nsIn K mainGlobals "all" = some none)
    (z_any : PySem.W.nsIn K mainGlobals "any" = some none)
    (z_bool : PySem.W.nsIn K mainGlobals "bool" = some none)
    (z_int : PySem.W.nsIn K mainGlobals "int" = some none)
    (z_isinstance : PySem.W.nsIn K mainGlobals "isinstance" = some none)
    (z_len : PySem.W.nsIn K mainGlobals "len" = some none)
    (z_list : PySem.W.nsIn K mainGlobals "list" = some none)
    (z_max : PySem.W.nsIn K mainGlobals "max" = some none)
    (z_min : PySem.W.nsIn K mainGlobals "min" = some none)
    (z_range : PySem.W.nsIn K mainGlobals "range" = some none)
    (z_str : PySem.W.nsIn K mainGlobals "str" = some none)
    (z_tuple : PySem.W.nsIn K mainGlobals "tuple" = some none)
    (z_zip : PySem.W.nsIn K mainGlobals "zip" = some none)
    (v_DAY : PySem.W.nsIn K mainGlobals "DAY" = some (some (.str "day" t_DAY)))
    (v_HALF : PySem.W.nsIn K mainGlobals "HALF" = some (some (.ref r_HALF)))
    (l_HALF : K.lookup r_HALF = some ⟨.type "tuple", od_HALF, .seq #[.int 720 t_HALF0, .int 1 t_HALF1] n_HALF, sl_HALF⟩)
    (v_HOURS : PySem.W.nsIn K mainGlobals "HOURS" = some (some (.int 12 t_HOURS)))
    (v_MINUTES : PySem.W.nsIn K mainGlobals "MINUTES" = some (some (.int 1440 t_MINUTES)))
    (v_MOST_NUMBER : PySem.W.nsIn K mainGlobals "MOST_NUMBER" = some (some (.int 400 t_MOST_NUMBER)))
    (v_MOST_ROWS : PySem.W.nsIn K mainGlobals "MOST_ROWS" = some (some (.int 40 t_MOST_ROWS)))
    (v_NIGHT : PySem.W.nsIn K mainGlobals "NIGHT" = some (some (.str "night" t_NIGHT)))
    (v_NOTHING : PySem.W.nsIn K mainGlobals "NOTHING" = some (some (.ref r_NOTHING)))
    (l_NOTHING : K.lookup r_NOTHING = some ⟨.type "tuple", od_NOTHING, .seq #[.int 0 t_NOTHING0, .int 1 t_NOTHING1] n_NOTHING, sl_NOTHING⟩)
    (g_BadDay : PySem.W.nsIn K mainGlobals "BadDay" = some (some (.ref C_BadDay)))
    (x_BadDay : PySem.W.excIn K C_BadDay [.type "ValueError", .type "Exception", .type "BaseException", .type "object"] "ValueError.__new__" = true)
    (kk_BadDay : PySem.W.keepIn K (.ref C_BadDay) = true)
    (s_BadDay : PySem.W.subIn K (.ref C_BadDay) (.type "BaseException") = some true)
    (t_BadDay : PySem.W.typeIn K (.ref C_BadDay) = some (.type "type"))
    (i_BadDay : PySem.W.isClsIn K C_BadDay = true)
    (g_BadMoment : PySem.W.nsIn K mainGlobals "BadMoment" = some (some (.ref C_BadMoment)))
    (x_BadMoment : PySem.W.excIn K C_BadMoment [.type "ValueError", .type "Exception", .type "BaseException", .type "object"] "ValueError.__new__" = true)
    (kk_BadMoment : PySem.W.keepIn K (.ref C_BadMoment) = true)
    (s_BadMoment : PySem.W.subIn K (.ref C_BadMoment) (.type "BaseException") = some true)
    (t_BadMoment : PySem.W.typeIn K (.ref C_BadMoment) = some (.type "type"))
    (i_BadMoment : PySem.W.isClsIn K C_BadMoment = true)
    (g_BadNumber : PySem.W.nsIn K mainGlobals "BadNumber" = some (some (.ref C_BadNumber)))
    (x_BadNumber : PySem.W.excIn K C_BadNumber [.type "ValueError", .type "Exception", .type "BaseException", .type "object"] "ValueError.__new__" = true)
    (kk_BadNumber : PySem.W.keepIn K (.ref C_BadNumber) = true)
    (s_BadNumber : PySem.W.subIn K (.ref C_BadNumber) (.type "BaseException") = some true)
    (t_BadNumber : PySem.W.typeIn K (.ref C_BadNumber) = some (.type "type"))
    (i_BadNumber : PySem.W.isClsIn K C_BadNumber = true)
    (g_BadSize : PySem.W.nsIn K mainGlobals "BadSize" = some (some (.ref C_BadSize)))
    (x_BadSize : PySem.W.excIn K C_BadSize [.type "ValueError", .type "Exception", .type "BaseException", .type "object"] "ValueError.__new__" = true)
    (kk_BadSize : PySem.W.keepIn K (.ref C_BadSize) = true)
    (s_BadSize : PySem.W.subIn K (.ref C_BadSize) (.type "BaseException") = some true)
    (t_BadSize : PySem.W.typeIn K (.ref C_BadSize) = some (.type "type"))
    (i_BadSize : PySem.W.isClsIn K C_BadSize = true)
    (g_BadTable : PySem.W.nsIn K mainGlobals "BadTable" = some (some (.ref C_BadTable)))
    (x_BadTable : PySem.W.excIn K C_BadTable [.type "ValueError", .type "Exception", .type "BaseException", .type "object"] "ValueError.__new__" = true)
    (kk_BadTable : PySem.W.keepIn K (.ref C_BadTable) = true)
    (s_BadTable : PySem.W.subIn K (.ref C_BadTable) (.type "BaseException") = some true)
    (t_BadTable : PySem.W.typeIn K (.ref C_BadTable) = some (.type "type"))
    (i_BadTable : PySem.W.isClsIn K C_BadTable = true)
    (g_BadTold : PySem.W.nsIn K mainGlobals "BadTold" = some (some (.ref C_BadTold)))
    (x_BadTold : PySem.W.excIn K C_BadTold [.type "ValueError", .type "Exception", .type "BaseException", .type "object"] "ValueError.__new__" = true)
    (kk_BadTold : PySem.W.keepIn K (.ref C_BadTold) = true)
    (s_BadTold : PySem.W.subIn K (.ref C_BadTold) (.type "BaseException") = some true)
    (t_BadTold : PySem.W.typeIn K (.ref C_BadTold) = some (.type "type"))
    (i_BadTold : PySem.W.isClsIn K C_BadTold = true)
    (p_BadDay_BadDay : PySem.W.subIn K (.ref C_BadDay) (.ref C_BadDay) = some true)
    (p_BadDay_BadMoment : PySem.W.subIn K (.ref C_BadDay) (.ref C_BadMoment) = some false)
    (p_BadDay_BadNumber : PySem.W.subIn K (.ref C_BadDay) (.ref C_BadNumber) = some false)
    (p_BadDay_BadSize : PySem.W.subIn K (.ref C_BadDay) (.ref C_BadSize) = some false)
    (p_BadDay_BadTable : PySem.W.subIn K (.ref C_BadDay) (.ref C_BadTable) = some false)
    (p_BadDay_BadTold : PySem.W.subIn K (.ref C_BadDay) (.ref C_BadTold) = some false)
    (p_BadMoment_BadDay : PySem.W.subIn K (.ref C_BadMoment) (.ref C_BadDay) = some false)
    (p_BadMoment_BadMoment : PySem.W.subIn K (.ref C_BadMoment) (.ref C_BadMoment) = some true)
    (p_BadMoment_BadNumber : PySem.W.subIn K (.ref C_BadMoment) (.ref C_BadNumber) = some false)
    (p_BadMoment_BadSize : PySem.W.subIn K (.ref C_BadMoment) (.ref C_BadSize) = some false)
    (p_BadMoment_BadTable : PySem.W.subIn K (.ref C_BadMoment) (.ref C_BadTable) = some false)
    (p_BadMoment_BadTold : PySem.W.subIn K (.ref C_BadMoment) (.ref C_BadTold) = some false)
    (p_BadNumber_BadDay : PySem.W.subIn K (.ref C_BadNumber) (.ref C_BadDay) = some false)
    (p_BadNumber_BadMoment : PySem.W.subIn K (.ref C_BadNumber) (.ref C_BadMoment) = some false)
    (p_BadNumber_BadNumber : PySem.W.subIn K (.ref C_BadNumber) (.ref C_BadNumber) = some true)
    (p_BadNumber_BadSize : PySem.W.subIn K (.ref C_BadNumber) (.ref C_BadSize) = some false)
    (p_BadNumber_BadTable : PySem.W.subIn K (.ref C_BadNumber) (.ref C_BadTable) = some false)
    (p_BadNumber_BadTold : PySem.W.subIn K (.ref C_BadNumber) (.ref C_BadTold) = some false)
    (p_BadSize_BadDay : PySem.W.subIn K (.ref C_BadSize) (.ref C_BadDay) = some false)
    (p_BadSize_BadMoment : PySem.W.subIn K (.ref C_BadSize) (.ref C_BadMoment) = some false)
    (p_BadSize_BadNumber : PySem.W.subIn K (.ref C_BadSize) (.ref C_BadNumber) = some false)
    (p_BadSize_BadSize : PySem.W.subIn K (.ref C_BadSize) (.ref C_BadSize) = some true)
    (p_BadSize_BadTable : PySem.W.subIn K (.ref C_BadSize) (.ref C_BadTable) = some false)
    (p_BadSize_BadTold : PySem.W.subIn K (.ref C_BadSize) (.ref C_BadTold) = some false)
    (p_BadTable_BadDay : PySem.W.subIn K (.ref C_BadTable) (.ref C_BadDay) = some false)
    (p_BadTable_BadMoment : PySem.W.subIn K (.ref C_BadTable) (.ref C_BadMoment) = some false)
    (p_BadTable_BadNumber : PySem.W.subIn K (.ref C_BadTable) (.ref C_BadNumber) = some false)
    (p_BadTable_BadSize : PySem.W.subIn K (.ref C_BadTable) (.ref C_BadSize) = some false)
    (p_BadTable_BadTable : PySem.W.subIn K (.ref C_BadTable) (.ref C_BadTable) = some true)
    (p_BadTable_BadTold : PySem.W.subIn K (.ref C_BadTable) (.ref C_BadTold) = some false)
    (p_BadTold_BadDay : PySem.W.subIn K (.ref C_BadTold) (.ref C_BadDay) = some false)
    (p_BadTold_BadMoment : PySem.W.subIn K (.ref C_BadTold) (.ref C_BadMoment) = some false)
    (p_BadTold_BadNumber : PySem.W.subIn K (.ref C_BadTold) (.ref C_BadNumber) = some false)
    (p_BadTold_BadSize : PySem.W.subIn K (.ref C_BadTold) (.ref C_BadSize) = some false)
    (p_BadTold_BadTable : PySem.W.subIn K (.ref C_BadTold) (.ref C_BadTable) = some false)
    (p_BadTold_BadTold : PySem.W.subIn K (.ref C_BadTold) (.ref C_BadTold) = some true) :
    ∃ fd : FuncData, (∀ (s : Shared) (v : Value), BindsTo s fd ⟨[v], []⟩ [("script", v)]) ∧ ∀ base : Heap, K.In base → base.Ns mainGlobals mg → FnOk l.prog w K mg base (L2.CX l.prog w) 9 fa fd ["script"] (spLaw K F_law) := by
  have e : f_law = fa := by
    have e := (PySem.W.mg_of X G a_law).symm.trans hfa
    cases e
    rfl
  subst e
  have ap : Apart K mg excs := fun c hc c2 hc2 D D2 h h2 => by
      unfold excs at hc hc2
      simp only [List.mem_cons, List.not_mem_nil, or_false] at hc hc2
      rcases hc with rfl | rfl | rfl | rfl | rfl | rfl <;> rcases hc2 with rfl | rfl | rfl | rfl | rfl | rfl
      · exact apart_go (PySem.W.mg_of X G g_BadDay) (PySem.W.mg_of X G g_BadDay) h h2 ((exm_by s_BadDay i_BadDay t_BadDay p_BadDay_BadDay).trans (congrArg some (by decide +kernel)))
      · exact apart_go (PySem.W.mg_of X G g_BadDay) (PySem.W.mg_of X G g_BadMoment) h h2 ((exm_by s_BadMoment i_BadMoment t_BadMoment p_BadDay_BadMoment).trans (congrArg some (by decide +kernel)))
      · exact apart_go (PySem.W.mg_of X G g_BadDay) (PySem.W.mg_of X G g_BadNumber) h h2 ((exm_by s_BadNumber i_BadNumber t_BadNumber p_BadDay_BadNumber).trans (congrArg some (by decide +kernel)))
      · exact apart_go (PySem.W.mg_of X G g_BadDay) (PySem.W.mg_of X G g_BadSize) h h2 ((exm_by s_BadSize i_BadSize t_BadSize p_BadDay_BadSize).trans (congrArg some (by decide +kernel)))
      · exact apart_go (PySem.W.mg_of X G g_BadDay) (PySem.W.mg_of X G g_BadTable) h h2 ((exm_by s_BadTable i_BadTable t_BadTable p_BadDay_BadTable).trans (congrArg some (by decide +kernel)))
      · exact apart_go (PySem.W.mg_of X G g_BadDay) (PySem.W.mg_of X G g_BadTold) h h2 ((exm_by s_BadTold i_BadTold t_BadTold p_BadDay_BadTold).trans (congrArg some (by decide +kernel)))
      · exact apart_go (PySem.W.mg_of X G g_BadMoment) (PySem.W.mg_of X G g_BadDay) h h2 ((exm_by s_BadDay i_BadDay t_BadDay p_BadMoment_BadDay).trans (congrArg some (by decide +kernel)))
      · exact apart_go (PySem.W.mg_of X G g_BadMoment) (PySem.W.mg_of X G g_BadMoment) h h2 ((exm_by s_BadMoment i_BadMoment t_BadMoment p_BadMoment_BadMoment).trans (congrArg some (by decide +kernel)))
      · exact apart_go (PySem.W.mg_of X G g_BadMoment) (PySem.W.mg_of X G g_BadNumber) h h2 ((exm_by s_BadNumber i_BadNumber t_BadNumber p_BadMoment_BadNumber).trans (congrArg some (by decide +kernel)))
      · exact apart_go (PySem.W.mg_of X G g_BadMoment) (PySem.W.mg_of X G g_BadSize) h h2 ((exm_by s_BadSize i_BadSize t_BadSize p_BadMoment_BadSize).trans (congrArg some (by decide +kernel)))
      · exact apart_go (PySem.W.mg_of X G g_BadMoment) (PySem.W.mg_of X G g_BadTable) h h2 ((exm_by s_BadTable i_BadTable t_BadTable p_BadMoment_BadTable).trans (congrArg some (by decide +kernel)))
      · exact apart_go (PySem.W.mg_of X G g_BadMoment) (PySem.W.mg_of X G g_BadTold) h h2 ((exm_by s_BadTold i_BadTold t_BadTold p_BadMoment_BadTold).trans (congrArg some (by decide +kernel)))
      · exact apart_go (PySem.W.mg_of X G g_BadNumber) (PySem.W.mg_of X G g_BadDay) h h2 ((exm_by s_BadDay i_BadDay t_BadDay p_BadNumber_BadDay).trans (congrArg some (by decide +kernel)))
      · exact apart_go (PySem.W.mg_of X G g_BadNumber) (PySem.W.mg_of X G g_BadMoment) h h2 ((exm_by s_BadMoment i_BadMoment t_BadMoment p_BadNumber_BadMoment).trans (congrArg some (by decide +kernel)))
      · exact apart_go (PySem.W.mg_of X G g_BadNumber) (PySem.W.mg_of X G g_BadNumber) h h2 ((exm_by s_BadNumber i_BadNumber t_BadNumber p_BadNumber_BadNumber).trans (congrArg some (by decide +kernel)))
      · exact apart_go (PySem.W.mg_of X G g_BadNumber) (PySem.W.mg_of X G g_BadSize) h h2 ((exm_by s_BadSize i_BadSize t_BadSize p_BadNumber_BadSize).trans (congrArg some (by decide +kernel)))
      · exact apart_go (PySem.W.mg_of X G g_BadNumber) (PySem.W.mg_of X G g_BadTable) h h2 ((exm_by s_BadTable i_BadTable t_BadTable p_BadNumber_BadTable).trans (congrArg some (by decide +kernel)))
      · exact apart_go (PySem.W.mg_of X G g_BadNumber) (PySem.W.mg_of X G g_BadTold) h h2 ((exm_by s_BadTold i_BadTold t_BadTold p_BadNumber_BadTold).trans (congrArg some (by decide +kernel)))
      · exact apart_go (PySem.W.mg_of X G g_BadSize) (PySem.W.mg_of X G g_BadDay) h h2 ((exm_by s_BadDay i_BadDay t_BadDay p_BadSize_BadDay).trans (congrArg some (by decide +kernel)))
      · exact apart_go (PySem.W.mg_of X G g_BadSize) (PySem.W.mg_of X G g_BadMoment) h h2 ((exm_by s_BadMoment i_BadMoment t_BadMoment p_BadSize_BadMoment).trans (congrArg some (by decide +kernel)))
      · exact apart_go (PySem.W.mg_of X G g_BadSize) (PySem.W.mg_of X G g_BadNumber) h h2 ((exm_by s_BadNumber i_BadNumber t_BadNumber p_BadSize_BadNumber).trans (congrArg some (by decide +kernel)))
      · exact apart_go (PySem.W.mg_of X G g_BadSize) (PySem.W.mg_of X G g_BadSize) h h2 ((exm_by s_BadSize i_BadSize t_BadSize p_BadSize_BadSize).trans (congrArg some (by decide +kernel)))
      · exact apart_go (PySem.W.mg_of X G g_BadSize) (PySem.W.mg_of X G g_BadTable) h h2 ((exm_by s_BadTable i_BadTable t_BadTable p_BadSize_BadTable).trans (congrArg some (by decide +kernel)))
      · exact apart_go (PySem.W.mg_of X G g_BadSize) (PySem.W.mg_of X G g_BadTold) h h2 ((exm_by s_BadTold i_BadTold t_BadTold p_BadSize_BadTold).trans (congrArg some (by decide +kernel)))
      · exact apart_go (PySem.W.mg_of X G g_BadTable) (PySem.W.mg_of X G g_BadDay) h h2 ((exm_by s_BadDay i_BadDay t_BadDay p_BadTable_BadDay).trans (congrArg some (by decide +kernel)))
      · exact apart_go (PySem.W.mg_of X G g_BadTable) (PySem.W.mg_of X G g_BadMoment) h h2 ((exm_by s_BadMoment i_BadMoment t_BadMoment p_BadTable_BadMoment).trans (congrArg some (by decide +kernel)))
      · exact apart_go (PySem.W.mg_of X G g_BadTable) (PySem.W.mg_of X G g_BadNumber) h h2 ((exm_by s_BadNumber i_BadNumber t_BadNumber p_BadTable_BadNumber).trans (congrArg some (by decide +kernel)))
      · exact apart_go (PySem.W.mg_of X G g_BadTable) (PySem.W.mg_of X G g_BadSize) h h2 ((exm_by s_BadSize i_BadSize t_BadSize p_BadTable_BadSize).trans (congrArg some (by decide +kernel)))
      · exact apart_go (PySem.W.mg_of X G g_BadTable) (PySem.W.mg_of X G g_BadTable) h h2 ((exm_by s_BadTable i_BadTable t_BadTable p_BadTable_BadTable).trans (congrArg some (by decide +kernel)))
      · exact apart_go (PySem.W.mg_of X G g_BadTable) (PySem.W.mg_of X G g_BadTold) h h2 ((exm_by s_BadTold i_BadTold t_BadTold p_BadTable_BadTold).trans (congrArg some (by decide +kernel)))
      · exact apart_go (PySem.W.mg_of X G g_BadTold) (PySem.W.mg_of X G g_BadDay) h h2 ((exm_by s_BadDay i_BadDay t_BadDay p_BadTold_BadDay).trans (congrArg some (by decide +kernel)))
      · exact apart_go (PySem.W.mg_of X G g_BadTold) (PySem.W.mg_of X G g_BadMoment) h h2 ((exm_by s_BadMoment i_BadMoment t_BadMoment p_BadTold_BadMoment).trans (congrArg some (by decide +kernel)))
      · exact apart_go (PySem.W.mg_of X G g_BadTold) (PySem.W.mg_of X G g_BadNumber) h h2 ((exm_by s_BadNumber i_BadNumber t_BadNumber p_BadTold_BadNumber).trans (congrArg some (by decide +kernel)))
      · exact apart_go (PySem.W.mg_of X G g_BadTold) (PySem.W.mg_of X G g_BadSize) h h2 ((exm_by s_BadSize i_BadSize t_BadSize p_BadTold_BadSize).trans (congrArg some (by decide +kernel)))
      · exact apart_go (PySem.W.mg_of X G g_BadTold) (PySem.W.mg_of X G g_BadTable) h h2 ((exm_by s_BadTable i_BadTable t_BadTable p_BadTold_BadTable).trans (congrArg some (by decide +kernel)))
      · exact apart_go (PySem.W.mg_of X G g_BadTold) (PySem.W.mg_of X G g_BadTold) h h2 ((exm_by s_BadTold i_BadTold t_BadTold p_BadTold_BadTold).trans (congrArg some (by decide +kernel)))
  let T : Tx K mg := { f_is_whole := f_is_whole, fd_is_whole := _, F_is_whole := fun_mk (st := s_is_whole) l_is_whole c_is_whole k_is_whole, b_is_whole := (fun_mk (st := s_is_whole) l_is_whole c_is_whole k_is_whole).binds (ps := ["value", "least", "most"]) (fun _ _ _ _ _ _ us hl => match us, hl with | [_, _, _], _ => rfl), m_is_whole := PySem.W.mg_of X G a_is_whole, k_is_whole := k_is_whole, f_ascends := f_ascends, fd_ascends := _, F_ascends := fun_mk (st := s_ascends) l_ascends c_ascends k_ascends, b_ascends := (fun_mk (st := s_ascends) l_ascends c_ascends k_ascends).binds (ps := ["values"]) (fun _ _ _ _ _ _ us hl => match us, hl with | [_], _ => rfl), m_ascends := PySem.W.mg_of X G a_ascends, k_ascends := k_ascends, f_divisor := f_divisor, fd_divisor := _, F_divisor := fun_mk (st := s_divisor) l_divisor c_divisor k_divisor, b_divisor := (fun_mk (st := s_divisor) l_divisor c_divisor k_divisor).binds (ps := ["one", "other"]) (fun _ _ _ _ _ _ us hl => match us, hl with | [_, _], _ => rfl), m_divisor := PySem.W.mg_of X G a_divisor, k_divisor := k_divisor, f_is_less := f_is_less, fd_is_less := _, F_is_less := fun_mk (st := s_is_less) l_is_less c_is_less k_is_less, b_is_less := (fun_mk (st := s_is_less) l_is_less c_is_less k_is_less).binds (ps := ["one", "other"]) (fun _ _ _ _ _ _ us hl => match us, hl with | [_, _], _ => rfl), m_is_less := PySem.W.mg_of X G a_is_less, k_is_less := k_is_less, f_is_integer := f_is_integer, fd_is_integer := _, F_is_integer := fun_mk (st := s_is_integer) l_is_integer c_is_integer k_is_integer, b_is_integer := (fun_mk (st := s_is_integer) l_is_integer c_is_integer k_is_integer).binds (ps := ["value"]) (fun _ _ _ _ _ _ us hl => match us, hl with | [_], _ => rfl), m_is_integer := PySem.W.mg_of X G a_is_integer, k_is_integer := k_is_integer, f__law_draws := f__law_draws, fd__law_draws := _, F__law_draws := fun_mk (st := s__law_draws) l__law_draws c__law_draws k__law_draws, b__law_draws := (fun_mk (st := s__law_draws) l__law_draws c__law_draws k__law_draws).binds (ps := ["script", "many"]) (fun _ _ _ _ _ _ us hl => match us, hl with | [_, _], _ => rfl), m__law_draws := PySem.W.mg_of X G a__law_draws, k__law_draws := k__law_draws, f__law_lowest := f__law_lowest, fd__law_lowest := _, F__law_lowest := fun_mk (st := s__law_lowest) l__law_lowest c__law_lowest k__law_lowest, b__law_lowest := (fun_mk (st := s__law_lowest) l__law_lowest c__law_lowest k__law_lowest).binds (ps := ["up", "down"]) (fun _ _ _ _ _ _ us hl => match us, hl with | [_, _], _ => rfl), m__law_lowest := PySem.W.mg_of X G a__law_lowest, k__law_lowest := k__law_lowest, f__law_day := f__law_day, fd__law_day := _, F__law_day := fun_mk (st := s__law_day) l__law_day c__law_day k__law_day, b__law_day := (fun_mk (st := s__law_day) l__law_day c__law_day k__law_day).binds (ps := ["number", "more"]) (fun _ _ _ _ _ _ us hl => match us, hl with | [_, _], _ => rfl), m__law_day := PySem.W.mg_of X G a__law_day, k__law_day := k__law_day, f_quotient := f_quotient, fd_quotient := _, F_quotient := fun_mk (st := s_quotient) l_quotient c_quotient k_quotient, b_quotient := (fun_mk (st := s_quotient) l_quotient c_quotient k_quotient).binds (ps := ["up", "down"]) (fun _ _ _ _ _ _ us hl => match us, hl with | [_, _], _ => rfl), m_quotient := PySem.W.mg_of X G a_quotient, k_quotient := k_quotient, f_is_quotient := f_is_quotient, fd_is_quotient := _, F_is_quotient := fun_mk (st := s_is_quotient) l_is_quotient c_is_quotient k_is_quotient, b_is_quotient := (fun_mk (st := s_is_quotient) l_is_quotient c_is_quotient k_is_quotient).binds (ps := ["value"]) (fun _ _ _ _ _ _ us hl => match us, hl with | [_], _ => rfl), m_is_quotient := PySem.W.mg_of X G a_is_quotient, k_is_quotient := k_is_quotient, f_is_day := f_is_day, fd_is_day := _, F_is_day := fun_mk (st := s_is_day) l_is_day c_is_day k_is_day, b_is_day := (fun_mk (st := s_is_day) l_is_day c_is_day k_is_day).binds (ps := ["value"]) (fun _ _ _ _ _ _ us hl => match us, hl with | [_], _ => rfl), m_is_day := PySem.W.mg_of X G a_is_day, k_is_day := k_is_day, f__check_number := f__check_number, fd__check_number := _, F__check_number := fun_mk (st := s__check_number) l__check_number c__check_number k__check_number, b__check_number := (fun_mk (st := s__check_number) l__check_number c__check_number k__check_number).binds (ps := ["table", "number"]) (fun _ _ _ _ _ _ us hl => match us, hl with | [_, _], _ => rfl), m__check_number := PySem.W.mg_of X G a__check_number, k__check_number := k__check_number, f__law_told := f__law_told, fd__law_told := _, F__law_told := fun_mk (st := s__law_told) l__law_told c__law_told k__law_told, b__law_told := (fun_mk (st := s__law_told) l__law_told c__law_told k__law_told).binds (ps := ["day", "minute"]) (fun _ _ _ _ _ _ us hl => match us, hl with | [_, _], _ => rfl), m__law_told := PySem.W.mg_of X G a__law_told, k__law_told := k__law_told, f__law_ends := f__law_ends, fd__law_ends := _, F__law_ends := fun_mk (st := s__law_ends) l__law_ends c__law_ends k__law_ends, b__law_ends := (fun_mk (st := s__law_ends) l__law_ends c__law_ends k__law_ends).binds (ps := ["day"]) (fun _ _ _ _ _ _ us hl => match us, hl with | [_], _ => rfl), m__law_ends := PySem.W.mg_of X G a__law_ends, k__law_ends := k__law_ends, f__law_on := f__law_on, fd__law_on := _, F__law_on := fun_mk (st := s__law_on) l__law_on c__law_on k__law_on, b__law_on := (fun_mk (st := s__law_on) l__law_on c__law_on k__law_on).binds (ps := ["table", "number"]) (fun _ _ _ _ _ _ us hl => match us, hl with | [_, _], _ => rfl), m__law_on := PySem.W.mg_of X G a__law_on, k__law_on := k__law_on, f_plus := f_plus, fd_plus := _, F_plus := fun_mk (st := s_plus) l_plus c_plus k_plus, b_plus := (fun_mk (st := s_plus) l_plus c_plus k_plus).binds (ps := ["one", "other"]) (fun _ _ _ _ _ _ us hl => match us, hl with | [_, _], _ => rfl), m_plus := PySem.W.mg_of X G a_plus, k_plus := k_plus, f_minus := f_minus, fd_minus := _, F_minus := fun_mk (st := s_minus) l_minus c_minus k_minus, b_minus := (fun_mk (st := s_minus) l_minus c_minus k_minus).binds (ps := ["one", "other"]) (fun _ _ _ _ _ _ us hl => match us, hl with | [_, _], _ => rfl), m_minus := PySem.W.mg_of X G a_minus, k_minus := k_minus, f_times := f_times, fd_times := _, F_times := fun_mk (st := s_times) l_times c_times k_times, b_times := (fun_mk (st := s_times) l_times c_times k_times).binds (ps := ["one", "other"]) (fun _ _ _ _ _ _ us hl => match us, hl with | [_, _], _ => rfl), m_times := PySem.W.mg_of X G a_times, k_times := k_times, f_over := f_over, fd_over := _, F_over := fun_mk (st := s_over) l_over c_over k_over, b_over := (fun_mk (st := s_over) l_over c_over k_over).binds (ps := ["one", "other"]) (fun _ _ _ _ _ _ us hl => match us, hl with | [_, _], _ => rfl), m_over := PySem.W.mg_of X G a_over, k_over := k_over, f__check_day := f__check_day, fd__check_day := _, F__check_day := fun_mk (st := s__check_day) l__check_day c__check_day k__check_day, b__check_day := (fun_mk (st := s__check_day) l__check_day c__check_day k__check_day).binds (ps := ["day"]) (fun _ _ _ _ _ _ us hl => match us, hl with | [_], _ => rfl), m__check_day := PySem.W.mg_of X G a__check_day, k__check_day := k__check_day, f__lengths := f__lengths, fd__lengths := _, F__lengths := fun_mk (st := s__lengths) l__lengths c__lengths k__lengths, b__lengths := (fun_mk (st := s__lengths) l__lengths c__lengths k__lengths).binds (ps := ["day"]) (fun _ _ _ _ _ _ us hl => match us, hl with | [_], _ => rfl), m__lengths := PySem.W.mg_of X G a__lengths, k__lengths := k__lengths, f__is_told := f__is_told, fd__is_told := _, F__is_told := fun_mk (st := s__is_told) l__is_told c__is_told k__is_told, b__is_told := (fun_mk (st := s__is_told) l__is_told c__is_told k__is_told).binds (ps := ["value"]) (fun _ _ _ _ _ _ us hl => match us, hl with | [_], _ => rfl), m__is_told := PySem.W.mg_of X G a__is_told, k__is_told := k__is_told, f__check_table := f__check_table, fd__check_table := _, F__check_table := fun_mk (st := s__check_table) l__check_table c__check_table k__check_table, b__check_table := (fun_mk (st := s__check_table) l__check_table c__check_table k__check_table).binds (ps := ["table"]) (fun _ _ _ _ _ _ us hl => match us, hl with | [_], _ => rfl), m__check_table := PySem.W.mg_of X G a__check_table, k__check_table := k__check_table, f__between := f__between, fd__between := _, F__between := fun_mk (st := s__between) l__between c__between k__between, b__between := (fun_mk (st := s__between) l__between c__between k__between).binds (ps := ["one", "other", "number", "place"]) (fun _ _ _ _ _ _ us hl => match us, hl with | [_, _, _, _], _ => rfl), m__between := PySem.W.mg_of X G a__between, k__between := k__between, f_hour_lengths := f_hour_lengths, fd_hour_lengths := _, F_hour_lengths := fun_mk (st := s_hour_lengths) l_hour_lengths c_hour_lengths k_hour_lengths, b_hour_lengths := (fun_mk (st := s_hour_lengths) l_hour_lengths c_hour_lengths k_hour_lengths).binds (ps := ["day"]) (fun _ _ _ _ _ _ us hl => match us, hl with | [_], _ => rfl), m_hour_lengths := PySem.W.mg_of X G a_hour_lengths, k_hour_lengths := k_hour_lengths, f__check_moment := f__check_moment, fd__check_moment := _, F__check_moment := fun_mk (st := s__check_moment) l__check_moment c__check_moment k__check_moment, b__check_moment := (fun_mk (st := s__check_moment) l__check_moment c__check_moment k__check_moment).binds (ps := ["day", "minute"]) (fun _ _ _ _ _ _ us hl => match us, hl with | [_, _], _ => rfl), m__check_moment := PySem.W.mg_of X G a__check_moment, k__check_moment := k__check_moment, f__told_at := f__told_at, fd__told_at := _, F__told_at := fun_mk (st := s__told_at) l__told_at c__told_at k__told_at, b__told_at := (fun_mk (st := s__told_at) l__told_at c__told_at k__told_at).binds (ps := ["day", "minute"]) (fun _ _ _ _ _ _ us hl => match us, hl with | [_, _], _ => rfl), m__told_at := PySem.W.mg_of X G a__told_at, k__told_at := k__told_at, f_minute_of := f_minute_of, fd_minute_of := _, F_minute_of := fun_mk (st := s_minute_of) l_minute_of c_minute_of k_minute_of, b_minute_of := (fun_mk (st := s_minute_of) l_minute_of c_minute_of k_minute_of).binds (ps := ["day", "told"]) (fun _ _ _ _ _ _ us hl => match us, hl with | [_, _], _ => rfl), m_minute_of := PySem.W.mg_of X G a_minute_of, k_minute_of := k_minute_of, f__day_on := f__day_on, fd__day_on := _, F__day_on := fun_mk (st := s__day_on) l__day_on c__day_on k__day_on, b__day_on := (fun_mk (st := s__day_on) l__day_on c__day_on k__day_on).binds (ps := ["table", "number"]) (fun _ _ _ _ _ _ us hl => match us, hl with | [_, _], _ => rfl), m__day_on := PySem.W.mg_of X G a__day_on, k__day_on := k__day_on, f_longest := f_longest, fd_longest := _, F_longest := fun_mk (st := s_longest) l_longest c_longest k_longest, b_longest := (fun_mk (st := s_longest) l_longest c_longest k_longest).binds (ps := ["table"]) (fun _ _ _ _ _ _ us hl => match us, hl with | [_], _ => rfl), m_longest := PySem.W.mg_of X G a_longest, k_longest := k_longest, f_told_at := f_told_at, fd_told_at := _, F_told_at := fun_mk (st := s_told_at) l_told_at c_told_at k_told_at, b_told_at := (fun_mk (st := s_told_at) l_told_at c_told_at k_told_at).binds (ps := ["day", "minute"]) (fun _ _ _ _ _ _ us hl => match us, hl with | [_, _], _ => rfl), m_told_at := PySem.W.mg_of X G a_told_at, k_told_at := k_told_at, f_stroke := f_stroke, fd_stroke := _, F_stroke := fun_mk (st := s_stroke) l_stroke c_stroke k_stroke, b_stroke := (fun_mk (st := s_stroke) l_stroke c_stroke k_stroke).binds (ps := ["day", "minute"]) (fun _ _ _ _ _ _ us hl => match us, hl with | [_, _], _ => rfl), m_stroke := PySem.W.mg_of X G a_stroke, k_stroke := k_stroke, f_strokes_by := f_strokes_by, fd_strokes_by := _, F_strokes_by := fun_mk (st := s_strokes_by) l_strokes_by c_strokes_by k_strokes_by, b_strokes_by := (fun_mk (st := s_strokes_by) l_strokes_by c_strokes_by k_strokes_by).binds (ps := ["day", "minute"]) (fun _ _ _ _ _ _ us hl => match us, hl with | [_, _], _ => rfl), m_strokes_by := PySem.W.mg_of X G a_strokes_by, k_strokes_by := k_strokes_by, f_next_stroke := f_next_stroke, fd_next_stroke := _, F_next_stroke := fun_mk (st := s_next_stroke) l_next_stroke c_next_stroke k_next_stroke, b_next_stroke := (fun_mk (st := s_next_stroke) l_next_stroke c_next_stroke k_next_stroke).binds (ps := ["day", "minute"]) (fun _ _ _ _ _ _ us hl => match us, hl with | [_, _], _ => rfl), m_next_stroke := PySem.W.mg_of X G a_next_stroke, k_next_stroke := k_next_stroke, f_day_on := f_day_on, fd_day_on := _, F_day_on := fun_mk (st := s_day_on) l_day_on c_day_on k_day_on, b_day_on := (fun_mk (st := s_day_on) l_day_on c_day_on k_day_on).binds (ps := ["table", "number"]) (fun _ _ _ _ _ _ us hl => match us, hl with | [_, _], _ => rfl), m_day_on := PySem.W.mg_of X G a_day_on, k_day_on := k_day_on, f__light := f__light, fd__light := _, F__light := fun_mk (st := s__light) l__light c__light k__light, b__light := (fun_mk (st := s__light) l__light c__light k__light).binds (ps := ["table", "number"]) (fun _ _ _ _ _ _ us hl => match us, hl with | [_, _], _ => rfl), m__light := PySem.W.mg_of X G a__light, k__light := k__light, f_even_days := f_even_days, fd_even_days := _, F_even_days := fun_mk (st := s_even_days) l_even_days c_even_days k_even_days, b_even_days := (fun_mk (st := s_even_days) l_even_days c_even_days k_even_days).binds (ps := ["table"]) (fun _ _ _ _ _ _ us hl => match us, hl with | [_], _ => rfl), m_even_days := PySem.W.mg_of X G a_even_days, k_even_days := k_even_days, f_candle_hours := f_candle_hours, fd_candle_hours := _, F_candle_hours := fun_mk (st := s_candle_hours) l_candle_hours c_candle_hours k_candle_hours, b_candle_hours := (fun_mk (st := s_candle_hours) l_candle_hours c_candle_hours k_candle_hours).binds (ps := ["table", "number", "size"]) (fun _ _ _ _ _ _ us hl => match us, hl with | [_, _, _], _ => rfl), m_candle_hours := PySem.W.mg_of X G a_candle_hours, k_candle_hours := k_candle_hours, f_shortest_candle := f_shortest_candle, fd_shortest_candle := _, F_shortest_candle := fun_mk (st := s_shortest_candle) l_shortest_candle c_shortest_candle k_shortest_candle, b_shortest_candle := (fun_mk (st := s_shortest_candle) l_shortest_candle c_shortest_candle k_shortest_candle).binds (ps := ["table"]) (fun _ _ _ _ _ _ us hl => match us, hl with | [_], _ => rfl), m_shortest_candle := PySem.W.mg_of X G a_shortest_candle, k_shortest_candle := k_shortest_candle, f__law_error := f__law_error, fd__law_error := _, F__law_error := fun_mk (st := s__law_error) l__law_error c__law_error k__law_error, b__law_error := (fun_mk (st := s__law_error) l__law_error c__law_error k__law_error).binds (ps := ["call", "one", "two", "three"]) (fun _ _ _ _ _ _ us hl => match us, hl with | [_, _, _, _], _ => rfl), m__law_error := PySem.W.mg_of X G a__law_error, k__law_error := k__law_error, f__law_refuses := f__law_refuses, fd__law_refuses := _, F__law_refuses := fun_mk (st := s__law_refuses) l__law_refuses c__law_refuses k__law_refuses, b__law_refuses := (fun_mk (st := s__law_refuses) l__law_refuses c__law_refuses k__law_refuses).binds (ps := []) (fun _ _ _ _ _ _ us hl => match us, hl with | [], _ => rfl), m__law_refuses := PySem.W.mg_of X G a__law_refuses, k__law_refuses := k__law_refuses, f_law := f_law, fd_law := _, F_law := fun_mk (st := s_law) l_law c_law k_law, b_law := (fun_mk (st := s_law) l_law c_law k_law).binds (ps := ["script"]) (fun _ _ _ _ _ _ us hl => match us, hl with | [_], _ => rfl), m_law := PySem.W.mg_of X G a_law, k_law := k_law, z_abs := PySem.W.mg_none_of X G z_abs, z_all := PySem.W.mg_none_of X G z_all, z_any := PySem.W.mg_none_of X G z_any, z_bool := PySem.W.mg_none_of X G z_bool, z_int := PySem.W.mg_none_of X G z_int, z_isinstance := PySem.W.mg_none_of X G z_isinstance, z_len := PySem.W.mg_none_of X G z_len, z_list := PySem.W.mg_none_of X G z_list, z_max := PySem.W.mg_none_of X G z_max, z_min := PySem.W.mg_none_of X G z_min, z_range := PySem.W.mg_none_of X G z_range, z_str := PySem.W.mg_none_of X G z_str, z_tuple := PySem.W.mg_none_of X G z_tuple, z_zip := PySem.W.mg_none_of X G z_zip, c_DAY := mc_str (PySem.W.mg_of X G v_DAY), c_HALF := mc_tup (PySem.W.mg_of X G v_HALF) l_HALF (.int (.int .nil)) (by show 2 ≤ sizeLine; decide), c_HOURS := mc_int (PySem.W.mg_of X G v_HOURS), c_MINUTES := mc_int (PySem.W.mg_of X G v_MINUTES), c_MOST_NUMBER := mc_int (PySem.W.mg_of X G v_MOST_NUMBER), c_MOST_ROWS := mc_int (PySem.W.mg_of X G v_MOST_ROWS), c_NIGHT := mc_str (PySem.W.mg_of X G v_NIGHT), c_NOTHING := mc_tup (PySem.W.mg_of X G v_NOTHING) l_NOTHING (.int (.int .nil)) (by show 2 ≤ sizeLine; decide), C_BadDay := C_BadDay, g_BadDay := PySem.W.mg_of X G g_BadDay, x_BadDay := x_BadDay, k_BadDay := kk_BadDay, s_BadDay := s_BadDay, t_BadDay := t_BadDay, C_BadMoment := C_BadMoment, g_BadMoment := PySem.W.mg_of X G g_BadMoment, x_BadMoment := x_BadMoment, k_BadMoment := kk_BadMoment, s_BadMoment := s_BadMoment, t_BadMoment := t_BadMoment, C_BadNumber := C_BadNumber, g_BadNumber := PySem.W.mg_of X G g_BadNumber, x_BadNumber := x_BadNumber, k_BadNumber := kk_BadNumber, s_BadNumber := s_BadNumber, t_BadNumber := t_BadNumber, C_BadSize := C_BadSize, g_BadSize := PySem.W.mg_of X G g_BadSize, x_BadSize := x_BadSize, k_BadSize := kk_BadSize, s_BadSize := s_BadSize, t_BadSize := t_BadSize, C_BadTable := C_BadTable, g_BadTable := PySem.W.mg_of X G g_BadTable, x_BadTable := x_BadTable, k_BadTable := kk_BadTable, s_BadTable := s_BadTable, t_BadTable := t_BadTable, C_BadTold := C_BadTold, g_BadTold := PySem.W.mg_of X G g_BadTold, x_BadTold := x_BadTold, k_BadTold := kk_BadTold, s_BadTold := s_BadTold, t_BadTold := t_BadTold, ap := ap }
  exact ⟨PySem.W.fnOf "law" "law" (defArgs s_law) (defBody s_law) (defScope s_law) .none kV_law dc_law pm_law an_law cd_law ct_law, fun s v => .of_eq rfl, fun base _ _ => fn_law T⟩
end K79
open PySem PySem.W PyProof.Rows
set_option maxHeartbeats 0 in
theorem PySem.Challenge.cw_sandwright_k79_whole_hours_holds : PySem.Challenge.rw_sandwright_k79_whole_hours.Holds := by
  w_on; o_law; k_head; (case hw => w_witness2)
  k_fill
  refine DL.walk_law (l := PySem.Challenge.rw_sandwright_k79_whole_hours) (k := 9) (F := K79.F_law) rfl rfl ⟨rfl, by decide, by decide⟩ (fun w h Y => PySem.W.kIn_of Y) K79.holds ?F
  case F =>
    intro w mg fa h KX G hmg
    refine' K79.all_mk KX G hmg ?a_is_whole ?l_is_whole ?c_is_whole ?k_is_whole ?a_ascends ?l_ascends ?c_ascends ?k_ascends ?a_divisor ?l_divisor ?c_divisor ?k_divisor ?a_is_less ?l_is_less ?c_is_less ?k_is_less ?a_is_integer ?l_is_integer ?c_is_integer ?k_is_integer ?a__law_draws ?l__law_draws ?c__law_draws ?k__law_draws ?a__law_lowest ?l__law_lowest ?c__law_lowest ?k__law_lowest ?a__law_day ?l__law_day ?c__law_day ?k__law_day ?a_quotient ?l_quotient ?c_quotient ?k_quotient ?a_is_quotient ?l_is_quotient ?c_is_quotient ?k_is_quotient ?a_is_day ?l_is_day ?c_is_day ?k_is_day ?a__check_number ?l__check_number ?c__check_number ?k__check_number ?a__law_told ?l__law_told ?c__law_told ?k__law_told ?a__law_ends ?l__law_ends ?c__law_ends ?k__law_ends ?a__law_on ?l__law_on ?c__law_on ?k__law_on ?a_plus ?l_plus ?c_plus ?k_plus ?a_minus ?l_minus ?c_minus ?k_minus ?a_times ?l_times ?c_times ?k_times ?a_over ?l_over ?c_over ?k_over ?a__check_day ?l__check_day ?c__check_day ?k__check_day ?a__lengths ?l__lengths ?c__lengths ?k__lengths ?a__is_told ?l__is_told ?c__is_told ?k__is_told ?a__check_table ?l__check_table ?c__check_table ?k__check_table ?a__between ?l__between ?c__between ?k__between ?a_hour_lengths ?l_hour_lengths ?c_hour_lengths ?k_hour_lengths ?a__check_moment ?l__check_moment ?c__check_moment ?k__check_moment ?a__told_at ?l__told_at ?c__told_at ?k__told_at ?a_minute_of ?l_minute_of ?c_minute_of ?k_minute_of ?a__day_on ?l__day_on ?c__day_on ?k__day_on ?a_longest ?l_longest ?c_longest ?k_longest ?a_told_at ?l_told_at ?c_told_at ?k_told_at ?a_stroke ?l_stroke ?c_stroke ?k_stroke ?a_strokes_by ?l_strokes_by ?c_strokes_by ?k_strokes_by ?a_next_stroke ?l_next_stroke ?c_next_stroke ?k_next_stroke ?a_day_on ?l_day_on ?c_day_on ?k_day_on ?a__light ?l__light ?c__light ?k__light ?a_even_days ?l_even_days ?c_even_days ?k_even_days ?a_candle_hours ?l_candle_hours ?c_candle_hours ?k_candle_hours ?a_shortest_candle ?l_shortest_candle ?c_shortest_candle ?k_shortest_candle ?a__law_error ?l__law_error ?c__law_error ?k__law_error ?a__law_refuses ?l__law_refuses ?c__law_refuses ?k__law_refuses ?a_law ?l_law ?c_law ?k_law ?z_abs ?z_all ?z_any ?z_bool ?z_int ?z_isinstance ?z_len ?z_list ?z_max ?z_min ?z_range ?z_str ?z_tuple ?z_zip ?v_DAY ?v_HALF ?l_HALF ?v_HOURS ?v_MINUTES ?v_MOST_NUMBER ?v_MOST_ROWS ?v_NIGHT ?v_NOTHING ?l_NOTHING ?g_BadDay ?x_BadDay ?kk_BadDay ?s_BadDay ?t_BadDay ?i_BadDay ?g_BadMoment ?x_BadMoment ?kk_BadMoment ?s_BadMoment ?t_BadMoment ?i_BadMoment ?g_BadNumber ?x_BadNumber ?kk_BadNumber ?s_BadNumber ?t_BadNumber ?i_BadNumber ?g_BadSize ?x_BadSize ?kk_BadSize ?s_BadSize ?t_BadSize ?i_BadSize ?g_BadTable ?x_BadTable ?kk_BadTable ?s_BadTable ?t_BadTable ?i_BadTable ?g_BadTold ?x_BadTold ?kk_BadTold ?s_BadTold ?t_BadTold ?i_BadTold ?p_BadDay_BadDay ?p_BadDay_BadMoment ?p_BadDay_BadNumber ?p_BadDay_BadSize ?p_BadDay_BadTable ?p_BadDay_BadTold ?p_BadMoment_BadDay ?p_BadMoment_BadMoment ?p_BadMoment_BadNumber ?p_BadMoment_BadSize ?p_BadMoment_BadTable ?p_BadMoment_BadTold ?p_BadNumber_BadDay ?p_BadNumber_BadMoment ?p_BadNumber_BadNumber ?p_BadNumber_BadSize ?p_BadNumber_BadTable ?p_BadNumber_BadTold ?p_BadSize_BadDay ?p_BadSize_BadMoment ?p_BadSize_BadNumber ?p_BadSize_BadSize ?p_BadSize_BadTable ?p_BadSize_BadTold ?p_BadTable_BadDay ?p_BadTable_BadMoment ?p_BadTable_BadNumber ?p_BadTable_BadSize ?p_BadTable_BadTable ?p_BadTable_BadTold ?p_BadTold_BadDay ?p_BadTold_BadMoment ?p_BadTold_BadNumber ?p_BadTold_BadSize ?p_BadTold_BadTable ?p_BadTold_BadTold
    (case a_is_whole => k_is)
    (case l_is_whole => k_is)
    (case c_is_whole => k_is)
    (case k_is_whole => k_is)
    (case a_ascends => k_is)
    (case l_ascends => k_is)
    (case c_ascends => k_is)
    (case k_ascends => k_is)
    (case a_divisor => k_is)
    (case l_divisor => k_is)
    (case c_divisor => k_is)
    (case k_divisor => k_is)
    (case a_is_less => k_is)
    (case l_is_less => k_is)
    (case c_is_less => k_is)
    (case k_is_less => k_is)
    (case a_is_integer => k_is)
    (case l_is_integer => k_is)
    (case c_is_integer => k_is)
    (case k_is_integer => k_is)
    (case a__law_draws => k_is)
    (case l__law_draws => k_is)
    (case c__law_draws => k_is)
    (case k__law_draws => k_is)
    (case a__law_lowest => k_is)
    (case l__law_lowest => k_is)
    (case c__law_lowest => k_is)
    (case k__law_lowest => k_is)
    (case a__law_day => k_is)
    (case l__law_day => k_is)
    (case c__law_day => k_is)
    (case k__law_day => k_is)
    (case a_quotient => k_is)
    (case l_quotient => k_is)
    (case c_quotient => k_is)
    (case k_quotient => k_is)
    (case a_is_quotient => k_is)
    (case l_is_quotient => k_is)
    (case c_is_quotient => k_is)
    (case k_is_quotient => k_is)
    (case a_is_day => k_is)
    (case l_is_day => k_is)
    (case c_is_day => k_is)
    (case k_is_day => k_is)
    (case a__check_number => k_is)
    (case l__check_number => k_is)
    (case c__check_number => k_is)
    (case k__check_number => k_is)
    (case a__law_told => k_is)
    (case l__law_told => k_is)
    (case c__law_told => k_is)
    (case k__law_told => k_is)
    (case a__law_ends => k_is)
    (case l__law_ends => k_is)
    (case c__law_ends => k_is)
    (case k__law_ends => k_is)
    (case a__law_on => k_is)
    (case l__law_on => k_is)
    (case c__law_on => k_is)
    (case k__law_on => k_is)
    (case a_plus => k_is)
    (case l_plus => k_is)
    (case c_plus => k_is)
    (case k_plus => k_is)
    (case a_minus => k_is)
    (case l_minus => k_is)
    (case c_minus => k_is)
    (case k_minus => k_is)
    (case a_times => k_is)
    (case l_times => k_is)
    (case c_times => k_is)
    (case k_times => k_is)
    (case a_over => k_is)
    (case l_over => k_is)
    (case c_over => k_is)
    (case k_over => k_is)
    (case a__check_day => k_is)
    (case l__check_day => k_is)
    (case c__check_day => k_is)
    (case k__check_day => k_is)
    (case a__lengths => k_is)
    (case l__lengths => k_is)
    (case c__lengths => k_is)
    (case k__lengths => k_is)
    (case a__is_told => k_is)
    (case l__is_told => k_is)
    (case c__is_told => k_is)
    (case k__is_told => k_is)
    (case a__check_table => k_is)
    (case l__check_table => k_is)
    (case c__check_table => k_is)
    (case k__check_table => k_is)
    (case a__between => k_is)
    (case l__between => k_is)
    (case c__between => k_is)
    (case k__between => k_is)
    (case a_hour_lengths => k_is)
    (case l_hour_lengths => k_is)
    (case c_hour_lengths => k_is)
    (case k_hour_lengths => k_is)
    (case a__check_moment => k_is)
    (case l__check_moment => k_is)
    (case c__check_moment => k_is)
    (case k__check_moment => k_is)
    (case a__told_at => k_is)
    (case l__told_at => k_is)
    (case c__told_at => k_is)
    (case k__told_at => k_is)
    (case a_minute_of => k_is)
    (case l_minute_of => k_is)
    (case c_minute_of => k_is)
    (case k_minute_of => k_is)
    (case a__day_on => k_is)
    (case l__day_on => k_is)
    (case c__day_on => k_is)
    (case k__day_on => k_is)
    (case a_longest => k_is)
    (case l_longest => k_is)
    (case c_longest => k_is)
    (case k_longest => k_is)
    (case a_told_at => k_is)
    (case l_told_at => k_is)
    (case c_told_at => k_is)
    (case k_told_at => k_is)
    (case a_stroke => k_is)
    (case l_stroke => k_is)
    (case c_stroke => k_is)
    (case k_stroke => k_is)
    (case a_strokes_by => k_is)
    (case l_strokes_by => k_is)
    (case c_strokes_by => k_is)
    (case k_strokes_by => k_is)
    (case a_next_stroke => k_is)
    (case l_next_stroke => k_is)
    (case c_next_stroke => k_is)
    (case k_next_stroke => k_is)
    (case a_day_on => k_is)
    (case l_day_on => k_is)
    (case c_day_on => k_is)
    (case k_day_on => k_is)
    (case a__light => k_is)
    (case l__light => k_is)
    (case c__light => k_is)
    (case k__light => k_is)
    (case a_even_days => k_is)
    (case l_even_days => k_is)
    (case c_even_days => k_is)
    (case k_even_days => k_is)
    (case a_candle_hours => k_is)
    (case l_candle_hours => k_is)
    (case c_candle_hours => k_is)
    (case k_candle_hours => k_is)
    (case a_shortest_candle => k_is)
    (case l_shortest_candle => k_is)
    (case c_shortest_candle => k_is)
    (case k_shortest_candle => k_is)
    (case a__law_error => k_is)
    (case l__law_error => k_is)
    (case c__law_error => k_is)
    (case k__law_error => k_is)
    (case a__law_refuses => k_is)
    (case l__law_refuses => k_is)
    (case c__law_refuses => k_is)
    (case k__law_refuses => k_is)
    (case a_law => k_is)
    (case l_law => k_is)
    (case c_law => k_is)
    (case k_law => k_is)
    (case z_abs => k_is)
    (case z_all => k_is)
    (case z_any => k_is)
    (case z_bool => k_is)
    (case z_int => k_is)
    (case z_isinstance => k_is)
    (case z_len => k_is)
    (case z_list => k_is)
    (case z_max => k_is)
    (case z_min => k_is)
    (case z_range => k_is)
    (case z_str => k_is)
    (case z_tuple => k_is)
    (case z_zip => k_is)
    (case v_DAY => k_is)
    (case v_HALF => k_is)
    (case l_HALF => k_is)
    (case v_HOURS => k_is)
    (case v_MINUTES => k_is)
    (case v_MOST_NUMBER => k_is)
    (case v_MOST_ROWS => k_is)
    (case v_NIGHT => k_is)
    (case v_NOTHING => k_is)
    (case l_NOTHING => k_is)
    (case g_BadDay => k_is)
    (case x_BadDay => k_exc)
    (case kk_BadDay => k_is)
    (case s_BadDay => k_is)
    (case t_BadDay => k_is)
    (case i_BadDay => k_is)
    (case g_BadMoment => k_is)
    (case x_BadMoment => k_exc)
    (case kk_BadMoment => k_is)
    (case s_BadMoment => k_is)
    (case t_BadMoment => k_is)
    (case i_BadMoment => k_is)
    (case g_BadNumber => k_is)
    (case x_BadNumber => k_exc)
    (case kk_BadNumber => k_is)
    (case s_BadNumber => k_is)
    (case t_BadNumber => k_is)
    (case i_BadNumber => k_is)
    (case g_BadSize => k_is)
    (case x_BadSize => k_exc)
    (case kk_BadSize => k_is)
    (case s_BadSize => k_is)
    (case t_BadSize => k_is)
    (case i_BadSize => k_is)
    (case g_BadTable => k_is)
    (case x_BadTable => k_exc)
    (case kk_BadTable => k_is)
    (case s_BadTable => k_is)
    (case t_BadTable => k_is)
    (case i_BadTable => k_is)
    (case g_BadTold => k_is)
    (case x_BadTold => k_exc)
    (case kk_BadTold => k_is)
    (case s_BadTold => k_is)
    (case t_BadTold => k_is)
    (case i_BadTold => k_is)
    (case p_BadDay_BadDay => (first | rfl | k_is))
    (case p_BadDay_BadMoment => (first | rfl | k_is))
    (case p_BadDay_BadNumber => (first | rfl | k_is))
    (case p_BadDay_BadSize => (first | rfl | k_is))
    (case p_BadDay_BadTable => (first | rfl | k_is))
    (case p_BadDay_BadTold => (first | rfl | k_is))
    (case p_BadMoment_BadDay => (first | rfl | k_is))
    (case p_BadMoment_BadMoment => (first | rfl | k_is))
    (case p_BadMoment_BadNumber => (first | rfl | k_is))
    (case p_BadMoment_BadSize => (first | rfl | k_is))
    (case p_BadMoment_BadTable => (first | rfl | k_is))
    (case p_BadMoment_BadTold => (first | rfl | k_is))
    (case p_BadNumber_BadDay => (first | rfl | k_is))
    (case p_BadNumber_BadMoment => (first | rfl | k_is))
    (case p_BadNumber_BadNumber => (first | rfl | k_is))
    (case p_BadNumber_BadSize => (first | rfl | k_is))
    (case p_BadNumber_BadTable => (first | rfl | k_is))
    (case p_BadNumber_BadTold => (first | rfl | k_is))
    (case p_BadSize_BadDay => (first | rfl | k_is))
    (case p_BadSize_BadMoment => (first | rfl | k_is))
    (case p_BadSize_BadNumber => (first | rfl | k_is))
    (case p_BadSize_BadSize => (first | rfl | k_is))
    (case p_BadSize_BadTable => (first | rfl | k_is))
    (case p_BadSize_BadTold => (first | rfl | k_is))
    (case p_BadTable_BadDay => (first | rfl | k_is))
    (case p_BadTable_BadMoment => (first | rfl | k_is))
    (case p_BadTable_BadNumber => (first | rfl | k_is))
    (case p_BadTable_BadSize => (first | rfl | k_is))
    (case p_BadTable_BadTable => (first | rfl | k_is))
    (case p_BadTable_BadTold => (first | rfl | k_is))
    (case p_BadTold_BadDay => (first | rfl | k_is))
    (case p_BadTold_BadMoment => (first | rfl | k_is))
    (case p_BadTold_BadNumber => (first | rfl | k_is))
    (case p_BadTold_BadSize => (first | rfl | k_is))
    (case p_BadTold_BadTable => (first | rfl | k_is))
    (case p_BadTold_BadTold => (first | rfl | k_is))
