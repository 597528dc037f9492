import PyProof.Rows.All
import Wide.All
import OpenK.AllK
import Wide.FinOn
import HandS.ForMost
import HandS.ForExc
import HandS.Wide
import HandS.Strs
import HandS.SetFor
import HandS.TupSets
import HandS.Flow
import HandS.TupAny
import HandS.Deep
import HandS.IsInst
import HandS.SortInts
import HandS.Zip
import KE.SortData
import KE.DataMinMax
import KE.DataCmp
import HandS.Zip0
import PyProof.EnumMake
import PyProof.Draws
import HandS.Conv
import KE.KUnpackStar
import PySem.Challenge.RW_staysmet_k34_who_is_met_behind_a_move
set_option Elab.async false
set_option linter.all false
set_option maxRecDepth 100000
set_option maxHeartbeats 4000000
/-! SmA: a functional reading of Python code over plain data: data, slots, transitions, the judgements. -/
namespace Sm
open PySem PySem.Spec PyProof.Rows L2

/-! ### data -/
inductive D where
  | non | bl (b : Bool) | int (i : Int) | str (x : Str)
  | tup (xs : List D) | lst (xs : List D)
  | dct (ks vs : List D) | set (xs : List D) | obj (c : Nat) (fs : List D)
  /-- the script: a list that is read alone -/
  | scr (xs : List D)
instance : Inhabited D := ⟨.non⟩

/-- where the classes of the program stand -/
structure Lay where
  K : PySem.W.Frag
  w : World
  cls : Nat → Addr
  pr : Program

mutual
/-- the value v stands for the datum d, by the frozen heap F -/
def Rp (L : Lay) (F : Hp) : D → V → Prop
  | .non, v => v = .non
  | .bl b, v => v = .bl b
  | .int i, v => v = .int i
  | .str x, v => v = .str x
  | .tup ds, v => ∃ a vs, v = .ref a ∧ SqT L.K F a vs ∧ Rps L F ds vs
  | .lst ds, v => ∃ a vs, v = .ref a ∧ F a = some (.lst vs) ∧ Rps L F ds vs
  | .scr ds, v => ∃ a vs, v = .ref a ∧ SqL L.K F a vs ∧ Rps L F ds vs
  | .dct _ _, _ => False
  | .set ds, v => (∃ (a : Addr) (ns : List Int), v = .ref a ∧ ds = ns.map D.int ∧ ns.Pairwise (· < ·) ∧ F a = some (SetO L.w a (fun k => decide (k ∈ ns)) ns.length)) ∨
    ∃ (a : Addr) (ks : List (List Int)) (L' : List (Addr × List Int)), v = .ref a ∧ ds = ks.map (fun k => D.tup (k.map D.int)) ∧ ks.Pairwise (· < ·) ∧ F a = some (SetTO L.pr L.w a L') ∧ (∀ p ∈ L', SqT L.K F p.1 (p.2.map V.int)) ∧ ∀ k, k ∈ ks ↔ k ∈ L'.map (·.2)
  | .obj _ _, _ => False
def Rps (L : Lay) (F : Hp) : List D → List V → Prop
  | [], vs => vs = []
  | d :: ds, vs => ∃ v r, vs = v :: r ∧ Rp L F d v ∧ Rps L F ds r
end

theorem SqT.same {K : PySem.W.Frag} {H H' : Hp} {a : Addr} {xs : List V} (e : Same H H') (h : SqT K H a xs) : SqT K H' a xs := by
  rcases h with (h | ⟨o, h⟩) | h
  · exact .inl (.inl (e _ _ h))
  · exact .inl (.inr ⟨o, e _ _ h⟩)
  · exact .inr h

mutual
theorem Rp.same {L : Lay} {F F' : Hp} (e : Same F F') : ∀ {d : D} {v : V}, Rp L F d v → Rp L F' d v
  | .non, _, h => h
  | .bl _, _, h => h
  | .int _, _, h => h
  | .str _, _, h => h
  | .tup ds, _, h => by
    unfold Rp at h ⊢
    obtain ⟨a, vs, e1, q, r⟩ := h
    exact ⟨a, vs, e1, SqT.same e q, Rps.same e r⟩
  | .lst ds, _, h => by
    unfold Rp at h ⊢
    obtain ⟨a, vs, e1, q, r⟩ := h
    exact ⟨a, vs, e1, e _ _ q, Rps.same e r⟩
  | .scr ds, _, h => by
    unfold Rp at h ⊢
    obtain ⟨a, vs, e1, q, r⟩ := h
    exact ⟨a, vs, e1, e.seq q, Rps.same e r⟩
  | .dct _ _, _, h => by unfold Rp at h; exact h.elim
  | .set _, _, h => by
    unfold Rp at h ⊢
    rcases h with ⟨a, ns, e1, e2, e3, q⟩ | ⟨a, ks, L', e1, e2, e3, q, q2, q3⟩
    · exact .inl ⟨a, ns, e1, e2, e3, e _ _ q⟩
    · exact .inr ⟨a, ks, L', e1, e2, e3, e _ _ q, fun p hp => SqT.same e (q2 p hp), q3⟩
  | .obj _ _, _, h => by unfold Rp at h; exact h.elim
theorem Rps.same {L : Lay} {F F' : Hp} (e : Same F F') : ∀ {ds : List D} {vs : List V}, Rps L F ds vs → Rps L F' ds vs
  | [], _, h => by unfold Rps at h ⊢; exact h
  | _ :: _, _, h => by
    unfold Rps at h ⊢
    obtain ⟨v, r, e1, q, rr⟩ := h
    exact ⟨v, r, e1, Rp.same e q, Rps.same e rr⟩
end

theorem Rps.nil {L : Lay} {F : Hp} : Rps L F [] [] := by unfold Rps; rfl
theorem Rps.cons {L : Lay} {F : Hp} {d : D} {v : V} {ds : List D} {vs : List V} (h : Rp L F d v) (t : Rps L F ds vs) : Rps L F (d :: ds) (v :: vs) := by
  unfold Rps; exact ⟨v, vs, rfl, h, t⟩
theorem Rps.length {L : Lay} {F : Hp} : ∀ {ds : List D} {vs : List V}, Rps L F ds vs → vs.length = ds.length
  | [], _, h => by unfold Rps at h; rw [h]; rfl
  | _ :: ds, _, h => by
    unfold Rps at h
    obtain ⟨v, r, rfl, _, t⟩ := h
    rw [List.length_cons, List.length_cons, Rps.length t]
theorem Rps.app {L : Lay} {F : Hp} : ∀ {ds es : List D} {vs us : List V}, Rps L F ds vs → Rps L F es us → Rps L F (ds ++ es) (vs ++ us)
  | [], _, _, _, h, t => by unfold Rps at h; subst h; exact t
  | _ :: ds, _, _, _, h, t => by
    unfold Rps at h
    obtain ⟨v, r, rfl, q, rr⟩ := h
    exact .cons q (Rps.app rr t)
theorem Rps.get {L : Lay} {F : Hp} : ∀ {ds : List D} {vs : List V} {i : Nat} {d : D}, Rps L F ds vs → ds[i]? = some d → ∃ v, vs[i]? = some v ∧ Rp L F d v
  | [], _, _, _, _, e => by simp at e
  | _ :: _, _, 0, _, h, e => by
    unfold Rps at h
    obtain ⟨v, r, rfl, q, rr⟩ := h
    simp at e; subst e
    exact ⟨v, rfl, q⟩
  | _ :: ds, _, i + 1, _, h, e => by
    unfold Rps at h
    obtain ⟨v, r, rfl, q, rr⟩ := h
    obtain ⟨u, h1, h2⟩ := Rps.get (i := i) rr (by simpa using e)
    exact ⟨u, by simpa using h1, h2⟩
theorem Rps.set {L : Lay} {F : Hp} {d : D} {v : V} (h : Rp L F d v) : ∀ {ds : List D} {vs : List V} (i : Nat), Rps L F ds vs → Rps L F (ds.set i d) (vs.set i v)
  | [], _, _, t => by unfold Rps at t; subst t; exact .nil
  | _ :: _, _, 0, t => by
    unfold Rps at t
    obtain ⟨v, r, rfl, q, rr⟩ := t
    exact .cons h rr
  | _ :: ds, _, i + 1, t => by
    unfold Rps at t
    obtain ⟨v, r, rfl, q, rr⟩ := t
    exact .cons q (Rps.set h i rr)
theorem Rps.take {L : Lay} {F : Hp} : ∀ {ds : List D} {vs : List V} (n : Nat), Rps L F ds vs → Rps L F (ds.take n) (vs.take n)
  | _, _, 0, _ => .nil
  | [], _, n + 1, t => by unfold Rps at t; subst t; exact .nil
  | _ :: _, _, n + 1, t => by
    unfold Rps at t
    obtain ⟨v, r, rfl, q, rr⟩ := t
    exact .cons q (Rps.take n rr)
theorem Rps.drop {L : Lay} {F : Hp} : ∀ {ds : List D} {vs : List V} (n : Nat), Rps L F ds vs → Rps L F (ds.drop n) (vs.drop n)
  | _, _, 0, t => t
  | [], _, n + 1, t => by unfold Rps at t; subst t; exact .nil
  | _ :: _, _, n + 1, t => by
    unfold Rps at t
    obtain ⟨v, r, rfl, q, rr⟩ := t
    exact Rps.drop n rr
theorem Rps.rev {L : Lay} {F : Hp} : ∀ {ds : List D} {vs : List V}, Rps L F ds vs → Rps L F ds.reverse vs.reverse
  | [], _, t => by unfold Rps at t; subst t; exact .nil
  | d :: ds, _, t => by
    unfold Rps at t
    obtain ⟨v, r, rfl, q, rr⟩ := t
    rw [List.reverse_cons, List.reverse_cons]
    exact (Rps.rev rr).app (.cons q .nil)
theorem Rps.rep {L : Lay} {F : Hp} {ds : List D} {vs : List V} (t : Rps L F ds vs) : ∀ n : Nat, Rps L F (List.replicate n ds).flatten (List.replicate n vs).flatten
  | 0 => .nil
  | n + 1 => by
    rw [List.replicate_succ, List.replicate_succ, List.flatten_cons, List.flatten_cons]
    exact t.app (Rps.rep t n)
theorem Rp.non_iff {L : Lay} {F : Hp} {v : V} : Rp L F .non v ↔ v = .non := by unfold Rp; rfl
theorem Rp.bl_iff {L : Lay} {F : Hp} {v : V} {b : Bool} : Rp L F (.bl b) v ↔ v = .bl b := by unfold Rp; rfl
theorem Rp.int_iff {L : Lay} {F : Hp} {v : V} {b : Int} : Rp L F (.int b) v ↔ v = .int b := by unfold Rp; rfl
theorem Rp.str_iff {L : Lay} {F : Hp} {v : V} {b : Str} : Rp L F (.str b) v ↔ v = .str b := by unfold Rp; rfl
theorem Rp.tup_iff {L : Lay} {F : Hp} {v : V} {ds : List D} : Rp L F (.tup ds) v ↔ ∃ a vs, v = .ref a ∧ SqT L.K F a vs ∧ Rps L F ds vs := by conv => lhs; unfold Rp
theorem Rp.lst_iff {L : Lay} {F : Hp} {v : V} {ds : List D} : Rp L F (.lst ds) v ↔ ∃ a vs, v = .ref a ∧ F a = some (.lst vs) ∧ Rps L F ds vs := by conv => lhs; unfold Rp
theorem Rp.scr_iff {L : Lay} {F : Hp} {v : V} {ds : List D} : Rp L F (.scr ds) v ↔ ∃ a vs, v = .ref a ∧ SqL L.K F a vs ∧ Rps L F ds vs := by conv => lhs; unfold Rp
theorem Rp.set_iff {L : Lay} {F : Hp} {v : V} {ds : List D} : Rp L F (.set ds) v ↔ (∃ (a : Addr) (ns : List Int), v = .ref a ∧ ds = ns.map D.int ∧ ns.Pairwise (· < ·) ∧ F a = some (SetO L.w a (fun k => decide (k ∈ ns)) ns.length)) ∨
    ∃ (a : Addr) (ks : List (List Int)) (L' : List (Addr × List Int)), v = .ref a ∧ ds = ks.map (fun k => D.tup (k.map D.int)) ∧ ks.Pairwise (· < ·) ∧ F a = some (SetTO L.pr L.w a L') ∧ (∀ p ∈ L', SqT L.K F p.1 (p.2.map V.int)) ∧ ∀ k, k ∈ ks ↔ k ∈ L'.map (·.2) := by conv => lhs; unfold Rp
theorem Rp.ofInts {L : Lay} {F : Hp} : ∀ ns : List Int, Rps L F (ns.map D.int) (ns.map V.int)
  | [] => .nil
  | n :: r => .cons (Rp.int_iff.mpr rfl) (Rp.ofInts r)

/-! ### slots: unknown, frozen, owned, owned and lent, the caller's own (the k-th argument) -/
inductive Sl where
  | un | fz (d : D) | ow (d : D) | le (d : D) | io (k : Nat) (d : D)
instance : Inhabited Sl := ⟨.un⟩
def Sl.own : Sl → Bool
  | .ow _ => true
  | .le _ => true
  | .io _ _ => true
  | _ => false
/-- what is to be read at a slot -/
def Sl.get : Sl → Option D
  | .fz d => some d
  | .ow d => some d
  | .le d => some d
  | .io _ d => some d
  | .un => none
/-- the slot i holds an owned object, it stands at a -/
def OwnAt (σ : L2.St) (τ : List Sl) (i : Nat) (a : Addr) : Prop := σ[i]? = some (some (.ref a)) ∧ ∃ t, τ[i]? = some t ∧ t.own = true
def Own (σ : L2.St) (τ : List Sl) (a : Addr) : Prop := ∃ i, OwnAt σ τ i a
/-- the arguments, and the objects of the callers that must not be leant on -/
structure Pa where
  args : List V
  B : Addr → Prop
def Hd (P : Pa) (σ : L2.St) (τ : List Sl) (a : Addr) : Prop := Own σ τ a ∨ P.B a
open Classical in
/-- the heap without some objects -/
noncomputable def hid (H : Hp) (A : Addr → Prop) : Hp := fun a => if A a then none else H a
theorem hid_some {H : Hp} {A : Addr → Prop} {a : Addr} {o : HO} : hid H A a = some o ↔ H a = some o ∧ ¬ A a := by
  unfold hid
  by_cases h : A a
  · rw [if_pos h]; exact ⟨fun z => (by cases z), fun z => absurd h z.2⟩
  · rw [if_neg h]; exact ⟨fun z => ⟨z, h⟩, fun z => z.1⟩
def OwR (L : Lay) (F H : Hp) : D → Addr → Prop
  | .lst ds, a => ∃ vs, H a = some (.lst vs) ∧ Rps L F ds vs
  | _, _ => False
def SlR (L : Lay) (P : Pa) (F H : Hp) (s : Option (Option V)) : Sl → Prop
  | .un => True
  | .fz d => ∃ v, s = some (some v) ∧ Rp L F d v
  | .ow d => ∃ a, s = some (some (.ref a)) ∧ OwR L F H d a
  | .le d => ∃ a, s = some (some (.ref a)) ∧ OwR L F H d a
  | .io k d => ∃ a, s = some (some (.ref a)) ∧ P.args[k]? = some (.ref a) ∧ OwR L F H d a
structure StR (L : Lay) (P : Pa) (H : Hp) (σ : L2.St) (τ : List Sl) : Prop where
  len : σ.length = τ.length
  inj : ∀ (i j : Nat) (a : Addr), OwnAt σ τ i a → OwnAt σ τ j a → i = j
  dis : ∀ a, Own σ τ a → ¬ P.B a
  bth : ∀ a, P.B a → ∃ o, H a = some o
  sl : ∀ (i : Nat) (t : Sl), τ[i]? = some t → SlR L P (hid H (Hd P σ τ)) H σ[i]? t

theorem OwR.there {L : Lay} {F H : Hp} : ∀ {d : D} {a : Addr}, OwR L F H d a → ∃ o, H a = some o
  | .lst _, _, ⟨vs, h, _⟩ => ⟨_, h⟩
theorem OwR.step {L : Lay} {F F' H H' : Hp} (e : Same F F') : ∀ {d : D} {a : Addr}, (H' a = H a) → OwR L F H d a → OwR L F' H' d a
  | .lst _, _, q, ⟨vs, h, r⟩ => ⟨vs, by rw [q]; exact h, Rps.same e r⟩
theorem StR.own_there {L : Lay} {P : Pa} {H : Hp} {σ : L2.St} {τ : List Sl} (R : StR L P H σ τ) {a : Addr} (h : Own σ τ a) : ∃ o, H a = some o := by
  obtain ⟨i, e, t, et, ow⟩ := h
  have q := R.sl i t et
  cases t with
  | un => cases ow
  | fz d => cases ow
  | ow d => obtain ⟨b, e2, r⟩ := q; rw [e] at e2; cases e2; exact r.there
  | le d => obtain ⟨b, e2, r⟩ := q; rw [e] at e2; cases e2; exact r.there
  | io k d => obtain ⟨b, e2, _, r⟩ := q; rw [e] at e2; cases e2; exact r.there

/-! ### transitions -/
/-- what is not owned stands; what is owned then was owned or is new -/
structure Tr (H : Hp) (A : Addr → Prop) (H' : Hp) (A' : Addr → Prop) : Prop where
  keep : ∀ a o, H a = some o → ¬ A a → H' a = some o
  new : ∀ a, A' a → A a ∨ H a = none
  there : ∀ a o, H a = some o → ∃ o', H' a = some o'
theorem Tr.refl {H : Hp} {A : Addr → Prop} : Tr H A H A := ⟨fun _ _ h _ => h, fun _ h => .inl h, fun _ o h => ⟨o, h⟩⟩
theorem Tr.fresh {H H' : Hp} {A A' : Addr → Prop} (x : Tr H A H' A') {a : Addr} (h : H' a = none) : H a = none := by
  cases e : H a with
  | none => rfl
  | some o => obtain ⟨o', q⟩ := x.there a o e; rw [h] at q; cases q
theorem Tr.trans {H H1 H2 : Hp} {A A1 A2 : Addr → Prop} (x : Tr H A H1 A1) (y : Tr H1 A1 H2 A2) : Tr H A H2 A2 := by
  refine ⟨fun a o h n => y.keep a o (x.keep a o h n) fun z => ?_, fun a h => ?_, fun a o h => let ⟨o1, q⟩ := x.there a o h; y.there a o1 q⟩
  · rcases x.new a z with q | q
    · exact n q
    · rw [q] at h; cases h
  · rcases y.new a h with q | q
    · exact x.new a q
    · by_cases hA : A a
      · exact .inl hA
      · refine .inr ?_
        cases e : H a with
        | none => rfl
        | some o => rw [x.keep a o e hA] at q; cases q
theorem Tr.of {H H1 : Hp} {A : Addr → Prop} (x : Same H H1) : Tr H A H1 A := ⟨fun a o h _ => x a o h, fun _ h => .inl h, fun a o h => ⟨o, x a o h⟩⟩
theorem StR.hd_there {L : Lay} {P : Pa} {H : Hp} {σ : L2.St} {τ : List Sl} (R : StR L P H σ τ) {a : Addr} (h : Hd P σ τ a) : ∃ o, H a = some o := h.elim (fun q => R.own_there q) (R.bth a)
theorem StR.fz {L : Lay} {P : Pa} {H H' : Hp} {σ σ' : L2.St} {τ τ' : List Sl} (R : StR L P H σ τ) (x : Tr H (Own σ τ) H' (Own σ' τ')) : Same (hid H (Hd P σ τ)) (hid H' (Hd P σ' τ')) := fun a o h => by
  obtain ⟨h1, h2⟩ := hid_some.mp h
  refine hid_some.mpr ⟨x.keep a o h1 fun z => h2 (.inl z), fun z => ?_⟩
  rcases z with z | z
  · rcases x.new a z with q | q
    · exact h2 (.inl q)
    · rw [q] at h1; cases h1
  · exact h2 (.inr z)
theorem hid_le {H : Hp} {A : Addr → Prop} : Same (hid H A) H := fun a o h => (hid_some.mp h).1
theorem hid_mono {H H' : Hp} {A A' : Addr → Prop} (e : Same H H') (h : ∀ a, A' a → A a) : Same (hid H A) (hid H' A') := fun a o q => by
  obtain ⟨h1, h2⟩ := hid_some.mp q
  exact hid_some.mpr ⟨e a o h1, fun z => h2 (h a z)⟩
theorem StR.same {L : Lay} {P : Pa} {H H' : Hp} {σ : L2.St} {τ : List Sl} (R : StR L P H σ τ) (e : Same H H') : StR L P H' σ τ := by
  have f := hid_mono (A := Hd P σ τ) e fun _ z => z
  refine ⟨R.len, R.inj, R.dis, fun a h => let ⟨o, q⟩ := R.bth a h; ⟨o, e a o q⟩, fun i t h => ?_⟩
  have q := R.sl i t h
  cases t with
  | un => trivial
  | fz d => obtain ⟨v, e1, r⟩ := q; exact ⟨v, e1, r.same f⟩
  | ow d =>
    obtain ⟨a, e1, r⟩ := q
    obtain ⟨o, ho⟩ := r.there
    exact ⟨a, e1, r.step f (by rw [ho]; exact e a o ho)⟩
  | le d =>
    obtain ⟨a, e1, r⟩ := q
    obtain ⟨o, ho⟩ := r.there
    exact ⟨a, e1, r.step f (by rw [ho]; exact e a o ho)⟩
  | io k d =>
    obtain ⟨a, e1, e2, r⟩ := q
    obtain ⟨o, ho⟩ := r.there
    exact ⟨a, e1, e2, r.step f (by rw [ho]; exact e a o ho)⟩
/-- a value as it is to be read now: a list may be an owned one -/
def Bp (L : Lay) (F H : Hp) (d : D) (v : V) : Prop :=
  match d with
  | .lst ds => ∃ a vs, v = .ref a ∧ H a = some (.lst vs) ∧ Rps L F ds vs
  | d => Rp L F d v
theorem Rp.bp {L : Lay} {F H : Hp} (e : Same F H) {d : D} {v : V} (h : Rp L F d v) : Bp L F H d v := by
  cases d with
  | lst ds =>
    obtain ⟨a, vs, e1, q, r⟩ := Rp.lst_iff.mp h
    exact ⟨a, vs, e1, e _ _ q, r⟩
  | _ => exact h
theorem OwR.bp {L : Lay} {F H : Hp} : ∀ {d : D} {a : Addr}, OwR L F H d a → Bp L F H d (.ref a)
  | .lst _, _, ⟨vs, h, r⟩ => ⟨_, vs, rfl, h, r⟩
def Bps (L : Lay) (F H : Hp) : List D → List V → Prop
  | [], vs => vs = []
  | d :: ds, vs => ∃ v r, vs = v :: r ∧ Bp L F H d v ∧ Bps L F H ds r
theorem Rps.bps {L : Lay} {F H : Hp} (e : Same F H) : ∀ {ds : List D} {vs : List V}, Rps L F ds vs → Bps L F H ds vs
  | [], _, h => by unfold Rps at h; exact h
  | _ :: _, _, h => by
    unfold Rps at h
    obtain ⟨v, r, e1, q, rr⟩ := h
    exact ⟨v, r, e1, q.bp e, Rps.bps e rr⟩
theorem SlR.bp {L : Lay} {P : Pa} {F H : Hp} {s : Option (Option V)} (e : Same F H) : ∀ {t : Sl} {d : D}, SlR L P F H s t → t.get = some d → ∃ v, s = some (some v) ∧ Bp L F H d v
  | .fz _, _, ⟨v, h, r⟩, z => by cases z; exact ⟨v, h, r.bp e⟩
  | .ow _, _, ⟨a, h, r⟩, z => by cases z; exact ⟨_, h, r.bp⟩
  | .le _, _, ⟨a, h, r⟩, z => by cases z; exact ⟨_, h, r.bp⟩
  | .io _ _, _, ⟨a, h, _, r⟩, z => by cases z; exact ⟨_, h, r.bp⟩

/-! ### results -/
inductive Res (α : Type) where
  | ok (a : α) (τ : List Sl) | exc (c : Nat) (xs : List D) (τ : List Sl) | fail
abbrev M (α : Type) := List Sl → Res α
@[simp] def M.pure {α : Type} (a : α) : M α := fun τ => .ok a τ
def Res.bind {α β : Type} (r : Res α) (f : α → M β) : Res β :=
  match r with
  | .ok a τ => f a τ
  | .exc c xs τ => .exc c xs τ
  | .fail => .fail
@[simp] theorem Res.bind_ok {α β : Type} {a : α} {τ : List Sl} {f : α → M β} : (Res.ok a τ).bind f = f a τ := rfl
@[simp] theorem Res.bind_exc {α β : Type} {c : Nat} {xs : List D} {τ : List Sl} {f : α → M β} : (Res.exc c xs τ : Res α).bind f = .exc c xs τ := rfl
@[simp] theorem Res.bind_fail {α β : Type} {f : α → M β} : (Res.fail : Res α).bind f = .fail := rfl
@[simp] def M.bind {α β : Type} (m : M α) (f : α → M β) : M β := fun τ => (m τ).bind f
def Res.lift {α : Type} (o : Option α) (τ : List Sl) : Res α :=
  match o with
  | some a => .ok a τ
  | none => .fail
@[simp] theorem Res.lift_some {α : Type} {a : α} {τ : List Sl} : Res.lift (some a) τ = .ok a τ := rfl
@[simp] theorem Res.lift_none {α : Type} {τ : List Sl} : (Res.lift none τ : Res α) = .fail := rfl
@[simp] def M.lift {α : Type} (o : Option α) : M α := fun τ => Res.lift o τ

/-- an exception of the class c with the fields xs: to be said when raising is served -/
def ExR (L : Lay) (H : Hp) (c : Nat) (xs : List D) (cls : Value) (od : Option Addr) : Prop := cls = .ref (L.cls c) ∧ (xs = [] ∨ True)

/-- what holds behind a result -/
def Post {α β : Type} (L : Lay) (P : Pa) (R : Hp → α → β → Prop) (H : Hp) (σ : L2.St) (τ : List Sl) (r : Res α) (Q : β → Hp → Prop) (E : XK) : Prop :=
  match r with
  | .ok a τ' => ∀ v H', Tr H (Own σ τ) H' (Own σ τ') → StR L P H' σ τ' → R (hid H' (Hd P σ τ')) a v → Q v H'
  | .exc c xs τ' => ∀ cls od H', Tr H (Own σ τ) H' (Own σ τ') → StR L P H' σ τ' → ExR L H' c xs cls od → E cls od H'
  | .fail => False
section
variable {α β γ δ : Type} {L : Lay} {P : Pa} {R : Hp → α → β → Prop} {R2 : Hp → γ → δ → Prop} {H H1 : Hp} {σ : L2.St} {τ τ1 : List Sl} {Q Q' : β → Hp → Prop} {E : XK}
theorem Post.imp {r : Res α} (h : Post L P R H σ τ r Q E) (f : ∀ v H', Q v H' → Q' v H') : Post L P R H σ τ r Q' E := by
  cases r with
  | ok a τ' => exact fun v H' x y z => f v H' (h v H' x y z)
  | exc c xs τ' => exact h
  | fail => exact h
theorem Post.from {r : Res α} (h : Post L P R H σ τ r Q E) (x : Tr H (Own σ τ) H1 (Own σ τ1)) : Post L P R H1 σ τ1 r Q E := by
  cases r with
  | ok a τ' => exact fun v H' y z w => h v H' (x.trans y) z w
  | exc c xs τ' => exact fun cls od H' y z w => h cls od H' (x.trans y) z w
  | fail => exact h
theorem Post.split {r : Res α} {f : α → M γ} {T : δ → Hp → Prop} (h : Post L P R2 H σ τ (r.bind f) T E) :
    Post L P R H σ τ r (fun v H1 => ∃ a τ1, Tr H (Own σ τ) H1 (Own σ τ1) ∧ StR L P H1 σ τ1 ∧ R (hid H1 (Hd P σ τ1)) a v ∧ Post L P R2 H1 σ τ1 (f a τ1) T E) E := by
  cases r with
  | ok a τ' => exact fun v H' x y z => ⟨a, τ', x, y, z, Post.from h x⟩
  | exc c xs τ' => exact h
  | fail => exact h
theorem Post.lift {o : Option γ} {T : δ → Hp → Prop} (h : Post L P R2 H σ τ (Res.lift o τ) T E) : ∃ d, o = some d ∧ ∀ v H', Tr H (Own σ τ) H' (Own σ τ) → StR L P H' σ τ → R2 (hid H' (Hd P σ τ)) d v → T v H' := by
  cases o with
  | none => exact h.elim
  | some d => exact ⟨d, rfl, h⟩
end

/-! ### the judgements -/
abbrev RV (L : Lay) : Hp → D → V → Prop := fun F d v => Rp L F d v
abbrev RVs (L : Lay) : Hp → List D → List V → Prop := fun F d v => Rps L F d v
abbrev RB : Hp → Bool → Bool → Prop := fun _ a b => b = a
def tE (L : Lay) (P : Pa) (E : L2.St → XK) (m : M D) : TE := fun σ H Q => ∃ τ, StR L P H σ τ ∧ Post L P (RV L) H σ τ (m τ) Q (E σ)
def tT (L : Lay) (P : Pa) (E : L2.St → XK) (m : M Bool) : TT := fun σ H Q => ∃ τ, StR L P H σ τ ∧ Post L P RB H σ τ (m τ) Q (E σ)
def tA (L : Lay) (P : Pa) (E : L2.St → XK) (m : M (List D)) : TA := fun σ H Q => ∃ τ, StR L P H σ τ ∧ Post L P (RVs L) H σ τ (m τ) Q (E σ)
abbrev SE (L : Lay) (P : Pa) (E : L2.St → XK) (X : Cx) (e : Expr) (m : M D) : Prop := PE X e (tE L P E m)
abbrev ST (L : Lay) (P : Pa) (E : L2.St → XK) (X : Cx) (e : Expr) (m : M Bool) : Prop := PT X e (tT L P E m)
abbrev SA (L : Lay) (P : Pa) (E : L2.St → XK) (X : Cx) (es : List Expr) (m : M (List D)) : Prop := PA X es (tA L P E m)
theorem PE.weak {X : Cx} {e : Expr} {t u : TE} (h : PE X e t) (f : ∀ σ H Q, u σ H Q → t σ H Q) : PE X e u := ⟨fun pins s σ H Q I q => h.run pins s σ H Q I (f σ H Q q)⟩
theorem PT.weak {X : Cx} {e : Expr} {t u : TT} (h : PT X e t) (f : ∀ σ H Q, u σ H Q → t σ H Q) : PT X e u := ⟨fun pins s σ H Q I q => h.run pins s σ H Q I (f σ H Q q)⟩
theorem PW.weak {X : Cx} {e : Expr} {t u : TT} (h : PW X e t) (f : ∀ σ H Q, u σ H Q → t σ H Q) : PW X e u := ⟨fun w pins s σ H Q I q => h.run w pins s σ H Q I (f σ H Q q)⟩
theorem PA.weak {X : Cx} {e : List Expr} {t u : TA} (h : PA X e t) (f : ∀ σ H Q, u σ H Q → t σ H Q) : PA X e u := ⟨fun pos pins s σ H Q I q => h.run pos pins s σ H Q I (f σ H Q q)⟩
theorem PS.weak {X : Cx} {e : Stmt} {t u : TS} (h : PS X e t) (f : ∀ D σ H, u D σ H → t D σ H) : PS X e u := ⟨fun pins s σ H D I q => h.run pins s σ H D I (f D σ H q)⟩
theorem PSs.weak {X : Cx} {e : List Stmt} {t u : TS} (h : PSs X e t) (f : ∀ D σ H, u D σ H → t D σ H) : PSs X e u := ⟨fun pins s σ H D I q => h.run pins s σ H D I (f D σ H q)⟩
theorem PG.weak {X : Cx} {e : Expr} {t u : TG} (h : PG X e t) (f : ∀ v σ H Q, u v σ H Q → t v σ H Q) : PG X e u := ⟨fun pins s σ H v w Q I r q => h.run pins s σ H v w Q I r (f v σ H Q q)⟩

/-! ### operations on values -/
/-- r, on values that stand for data, does what f does on the data -/
def OpS (L : Lay) (r : R2) (f : D → D → Option D) : Prop :=
  ∀ (a b d : D) (x y : V) (H : Hp) (A : Addr → Prop) (Q : VK), f a b = some d → Bp L (hid H A) H a x → Bp L (hid H A) H b y → (∀ p, A p → ∃ o, H p = some o) →
    (∀ z H', Same H H' → Rp L (hid H' A) d z → Q z H') → r x y H Q
def UnS (L : Lay) (r : V → Hp → VK → Prop) (f : D → Option D) : Prop :=
  ∀ (a d : D) (x : V) (H : Hp) (A : Addr → Prop) (Q : VK), f a = some d → Bp L (hid H A) H a x → (∀ p, A p → ∃ o, H p = some o) →
    (∀ z H', Same H H' → Rp L (hid H' A) d z → Q z H') → r x H Q
/-- a built-in function of some arguments -/
def FnS (L : Lay) (r : List V → Hp → VK → Prop) (f : List D → Option D) : Prop :=
  ∀ (ds : List D) (d : D) (xs : List V) (H : Hp) (A : Addr → Prop) (Q : VK), f ds = some d → Bps L (hid H A) H ds xs → (∀ p, A p → ∃ o, H p = some o) →
    (∀ z H', Same H H' → Rp L (hid H' A) d z → Q z H') → r xs H Q

section
variable {L : Lay} {P : Pa} {E : L2.St → XK} {X : Cx} {a b c : Expr} {ma mb mc : M D} {pos : Pos}
/-- the end of an operation -/
theorem Post.done {H : Hp} {σ : L2.St} {τ : List Sl} {o : Option D} {Q : VK} {e : XK} (R : StR L P H σ τ) (h : Post L P (RV L) H σ τ (Res.lift o τ) Q e) :
    ∃ d, o = some d ∧ ∀ z H', Same H H' → Rp L (hid H' (Hd P σ τ)) d z → Q z H' := by
  obtain ⟨d, e, q⟩ := h.lift
  exact ⟨d, e, fun z H' s r => q z H' (.of s) (R.same s) r⟩
def mOp (f : D → D → Option D) (ma mb : M D) : M D := fun τ => (ma τ).bind fun x => fun τ => (mb τ).bind fun y => fun τ => Res.lift (f x y) τ
def mUn (f : D → Option D) (ma : M D) : M D := fun τ => (ma τ).bind fun x => fun τ => Res.lift (f x) τ
theorem tOp_of {r : R2} {f : D → D → Option D} (ho : OpS L r f) (σ : L2.St) (H : Hp) (Q : VK) (h : tE L P E (mOp f ma mb) σ H Q) : tOp r (tE L P E ma) (tE L P E mb) σ H Q := by
  obtain ⟨τ, R, h⟩ := h
  refine ⟨τ, R, (Post.split (R := RV L) h).imp fun x H1 ⟨d1, τ1, t1, R1, r1, h1⟩ => ?_⟩
  refine ⟨τ1, R1, (Post.split (R := RV L) h1).imp fun y H2 ⟨d2, τ2, t2, R2, r2, h2⟩ => ?_⟩
  obtain ⟨d, e, q⟩ := h2.done R2
  exact ho d1 d2 d x y H2 (Hd P σ τ2) Q e ((r1.same (R1.fz t2)).bp hid_le) (r2.bp hid_le) (fun p hp => R2.hd_there hp) q
theorem sE_op {op : Operator} {r : R2} {f : D → D → Option D} (hr : OpR X (binaryOp op) r) (ho : OpS L r f) (ha : SE L P E X a ma) (hb : SE L P E X b mb) : SE L P E X (.BinOp a op b pos) (mOp f ma mb) :=
  PE.weak (pe_op hr ha hb) fun σ H Q h => tOp_of ho σ H Q h
theorem sE_cmp {op : CmpOp} {r : R2} {f : D → D → Option D} (hr : OpR X (compareOp op) r) (ho : OpS L r f) (ha : SE L P E X a ma) (hb : SE L P E X b mb) (hm : behindInMarks op b = false) : SE L P E X (.Compare a [op] [b] pos) (mOp f ma mb) :=
  PE.weak (pe_cmpR hr ha hb hm) fun σ H Q h => tOp_of ho σ H Q h
theorem sE_un {op : UnaryOp} {r : V → Hp → VK → Prop} {f : D → Option D} (hr : UnR X (unaryOp op) r) (ho : UnS L r f) (ha : SE L P E X a ma) : SE L P E X (.UnaryOp op a pos) (mUn f ma) :=
  PE.weak (pe_un hr ha) fun σ H Q ⟨τ, R, h⟩ => by
    refine ⟨τ, R, (Post.split (R := RV L) h).imp fun x H1 ⟨d1, τ1, t1, R1, r1, h1⟩ => ?_⟩
    obtain ⟨d, e, q⟩ := h1.done R1
    exact ho d1 d x H1 (Hd P σ τ1) Q e (r1.bp hid_le) (fun p hp => R1.hd_there hp) q
/-- a value that is a bool, as a test -/
def asB : D → Option Bool
  | .bl b => some b
  | _ => none
@[simp] theorem asB_bl {b : Bool} : asB (.bl b) = some b := rfl
def mB (m : M D) : M Bool := fun τ => (m τ).bind fun x => fun τ => Res.lift (asB x) τ
theorem tB_of {m : M D} (σ : L2.St) (H : Hp) (Q : Bool → Hp → Prop) (h : tT L P E (mB m) σ H Q) : tB (tE L P E m) σ H Q := by
  obtain ⟨τ, R, h⟩ := h
  refine ⟨τ, R, (Post.split (R := RV L) h).imp fun x H1 ⟨d1, τ1, t1, R1, r1, h1⟩ => ?_⟩
  obtain ⟨b, e, q⟩ := h1.lift
  cases d1 with
  | bl k =>
    have e' : b = k := (Option.some.inj e).symm
    subst e'
    exact ⟨b, Rp.bl_iff.mp r1, q b H1 .refl R1 rfl⟩
  | _ => cases e
theorem sT_val {e : Expr} {m : M D} (h : SE L P E X e m) (he : ∀ whole, isTrue e X.env whole = (do let v ← whole; standAt e.pos; holding [v] (truthy v)) := by intro _; rfl) : ST L P E X e (mB m) :=
  PT.weak (pt_val h he) fun σ H Q q => tB_of σ H Q q
theorem sT_cmp {op : CmpOp} {r : R2} {f : D → D → Option D} (hr : OpR X (compareOp op) r) (ho : OpS L r f) (ha : SE L P E X a ma) (hb : SE L P E X b mb) (hm : behindInMarks op b = false) : ST L P E X (.Compare a [op] [b] pos) (mB (mOp f ma mb)) :=
  PT.weak (pt_cmpR hr ha hb hm) fun σ H Q h => by
    obtain ⟨τ, R, h⟩ := h
    have q : tB (tE L P E (mOp f ma mb)) σ H Q := tB_of σ H Q ⟨τ, R, h⟩
    exact tOp_of ho σ H _ q

/-! ### names and constants -/
def mVar (i : Nat) : M D := fun τ =>
  match τ[i]? with
  | some (.fz d) => .ok d τ
  | some (.ow d) => .ok d (τ.set i (.fz d))
  | _ => .fail
def mC (d : D) : M D := fun τ => .ok d τ
theorem sE_int {i : Int} {j} : SE L P E X (.Constant (.int i) j pos) (mC (.int i)) :=
  PE.weak pe_int fun σ H Q ⟨τ, R, h⟩ => h (.int i) H .refl R (Rp.int_iff.mpr rfl)
theorem sE_bl {i : Bool} {j} : SE L P E X (.Constant (.bool i) j pos) (mC (.bl i)) :=
  PE.weak pe_bl fun σ H Q ⟨τ, R, h⟩ => h (.bl i) H .refl R (Rp.bl_iff.mpr rfl)
theorem sE_str {i : Str} {j} : SE L P E X (.Constant (.str i) j pos) (mC (.str i)) :=
  PE.weak pe_str fun σ H Q ⟨τ, R, h⟩ => h (.str i) H .refl R (Rp.str_iff.mpr rfl)
theorem sE_non {j} : SE L P E X (.Constant .none j pos) (mC .non) :=
  PE.weak pe_non fun σ H Q ⟨τ, R, h⟩ => h .non H .refl R (Rp.non_iff.mpr rfl)
/-- an owned slot is frozen -/
theorem StR.freeze {H : Hp} {σ : L2.St} {τ : List Sl} {i : Nat} {d : D} (R : StR L P H σ τ) (h : τ[i]? = some (.ow d)) :
    Tr H (Own σ τ) H (Own σ (τ.set i (.fz d))) ∧ StR L P H σ (τ.set i (.fz d)) ∧ ∃ v, σ[i]? = some (some v) ∧ Rp L (hid H (Hd P σ (τ.set i (.fz d)))) d v := by
  have hi : i < τ.length := (List.getElem?_eq_some_iff.mp h).1
  have sub : ∀ j a, OwnAt σ (τ.set i (.fz d)) j a → OwnAt σ τ j a ∧ j ≠ i := fun j a ⟨e, t, et, ow⟩ => by
    by_cases hj : i = j
    · subst hj
      rw [List.getElem?_set_self hi] at et
      cases et
      cases ow
    · rw [List.getElem?_set_ne hj] at et
      exact ⟨⟨e, t, et, ow⟩, fun z => hj z.symm⟩
  have tr : Tr H (Own σ τ) H (Own σ (τ.set i (.fz d))) := ⟨fun _ _ q _ => q, fun a ⟨j, q⟩ => .inl ⟨j, (sub j a q).1⟩, fun _ o h => ⟨o, h⟩⟩
  obtain ⟨a, e1, r⟩ := R.sl i _ h
  have na : ¬ Hd P σ (τ.set i (.fz d)) a := fun z => by
    rcases z with ⟨j, q⟩ | z
    · obtain ⟨q1, q2⟩ := sub j a q
      exact q2 (R.inj j i a q1 ⟨e1, _, h, rfl⟩)
    · exact R.dis a ⟨i, e1, _, h, rfl⟩ z
  have rv : Rp L (hid H (Hd P σ (τ.set i (.fz d)))) d (.ref a) := by
    cases d with
    | lst ds =>
      obtain ⟨vs, hv, rr⟩ := r
      exact Rp.lst_iff.mpr ⟨a, vs, rfl, hid_some.mpr ⟨hv, na⟩, Rps.same (R.fz tr) rr⟩
    | _ => exact r.elim
  refine ⟨tr, ⟨by rw [List.length_set]; exact R.len, fun j k b x y => R.inj j k b (sub j b x).1 (sub k b y).1, fun b ⟨j, q⟩ => R.dis b ⟨j, (sub j b q).1⟩, R.bth, fun j t ht => ?_⟩, .ref a, e1, rv⟩
  by_cases hj : i = j
  · subst hj
    rw [List.getElem?_set_self hi] at ht
    cases ht
    exact ⟨.ref a, e1, rv⟩
  · rw [List.getElem?_set_ne hj] at ht
    have q := R.sl j t ht
    cases t with
    | un => trivial
    | fz d' => obtain ⟨v, e2, r2⟩ := q; exact ⟨v, e2, r2.same (R.fz tr)⟩
    | ow d' => obtain ⟨b, e2, r2⟩ := q; exact ⟨b, e2, r2.step (R.fz tr) rfl⟩
    | le d' => obtain ⟨b, e2, r2⟩ := q; exact ⟨b, e2, r2.step (R.fz tr) rfl⟩
    | io k d' => obtain ⟨b, e2, e3, r2⟩ := q; exact ⟨b, e2, e3, r2.step (R.fz tr) rfl⟩
theorem sE_var (i : Nat) {x : Str} (hN : X.N[i]? = some x := by rfl) (hv : Vis X.env.scope x := by first | exact Or.inl rfl | exact Or.inr (Or.inl rfl) | exact Or.inr (Or.inr rfl)) (hd : (x == ("__debug__" : Str)) = false := by decide)
    (hcd : (x == ("__classdict__" : Str)) = false := by decide) : SE L P E X (.Name x pos) (mVar i) :=
  PE.weak (pe_var hN hv hd hcd) fun σ H Q ⟨τ, R, h⟩ => by
    unfold mVar at h
    split at h
    · rename_i d e
      obtain ⟨v, e1, r⟩ := R.sl i _ e
      exact ⟨v, e1, h v H .refl R r⟩
    · rename_i d e
      obtain ⟨tr, R', v, e1, r⟩ := R.freeze e
      exact ⟨v, e1, h v H tr R' r⟩
    · exact h.elim

/-! ### argument lists and displays -/
def mNil : M (List D) := fun τ => .ok [] τ
def mCons (m : M D) (ms : M (List D)) : M (List D) := fun τ => (m τ).bind fun x => fun τ => (ms τ).bind fun xs => fun τ => .ok (x :: xs) τ
variable {e : Expr} {es : List Expr} {m : M D} {ms : M (List D)}
theorem sA_nil : SA L P E X [] mNil := PA.weak pa_nil fun σ H Q ⟨τ, R, h⟩ => h [] H .refl R .nil
theorem sA_cons (ha : SE L P E X e m) (hr : SA L P E X es ms) (hs : starEach (e :: es) X.env = (false, eval e X.env) :: starEach es X.env := by rfl) : SA L P E X (e :: es) (mCons m ms) :=
  PA.weak (pa_cons ha hr hs) fun σ H Q ⟨τ, R, h⟩ => by
    refine ⟨τ, R, (Post.split (R := RV L) h).imp fun x H1 ⟨d1, τ1, t1, R1, r1, h1⟩ => ?_⟩
    refine ⟨τ1, R1, (Post.split (R := RVs L) h1).imp fun y H2 ⟨d2, τ2, t2, R2, r2, h2⟩ => ?_⟩
    exact h2 (x :: y) H2 .refl R2 (.cons (r1.same (R1.fz t2)) r2)
theorem same_upd {H : Hp} {p : Addr} {o : HO} (h : H p = none) : Same H (upd H p o) := fun b x e => by
  rw [upd_ne (ne_of_none e h)]
  exact e
theorem new_hid {H : Hp} {A : Addr → Prop} {p : Addr} {o : HO} (hA : ∀ q, A q → ∃ o, H q = some o) (h : H p = none) : hid (upd H p o) A p = some o :=
  hid_some.mpr ⟨upd_same, fun z => by obtain ⟨o, q⟩ := hA p z; rw [h] at q; cases q⟩
/-- lists and tuples stay below the line -/
def small (xs : List D) : Option (List D) := if xs.length ≤ 16000000 then some xs else none
theorem small_some {xs ys : List D} (h : small xs = some ys) : ys = xs ∧ xs.length ≤ sizeLine := by
  unfold small at h
  split at h
  · rename_i q
    cases h
    exact ⟨rfl, Nat.le_trans q (by decide)⟩
  · cases h
def mTup (ms : M (List D)) : M D := fun τ => (ms τ).bind fun xs => fun τ => Res.lift ((small xs).map D.tup) τ
def mLst (ms : M (List D)) : M D := fun τ => (ms τ).bind fun xs => fun τ => Res.lift ((small xs).map D.lst) τ
theorem new_tup {H : Hp} {A : Addr → Prop} {p : Addr} {ds : List D} {vs : List V} (hA : ∀ q, A q → ∃ o, H q = some o) (h : H p = none) (r : Rps L (hid H A) ds vs) : Rp L (hid (upd H p (.tup vs)) A) (.tup ds) (.ref p) :=
  Rp.tup_iff.mpr ⟨p, vs, rfl, .inl (.inl (new_hid hA h)), Rps.same (hid_mono (same_upd h) fun _ z => z) r⟩
theorem new_lst {H : Hp} {A : Addr → Prop} {p : Addr} {ds : List D} {vs : List V} (hA : ∀ q, A q → ∃ o, H q = some o) (h : H p = none) (r : Rps L (hid H A) ds vs) : Rp L (hid (upd H p (.lst vs)) A) (.lst ds) (.ref p) :=
  Rp.lst_iff.mpr ⟨p, vs, rfl, new_hid hA h, Rps.same (hid_mono (same_upd h) fun _ z => z) r⟩
theorem sE_tup {x1} (h : SA L P E X es ms) : SE L P E X (.Tuple es x1 pos) (mTup ms) :=
  PE.weak (pe_tup h) fun σ H Q ⟨τ, R, h⟩ => by
    refine ⟨τ, R, (Post.split (R := RVs L) h).imp fun xs H1 ⟨ds, τ1, t1, R1, r1, h1⟩ => ?_⟩
    obtain ⟨d, e, q⟩ := h1.done R1
    obtain ⟨ds', e1, rfl⟩ := Option.map_eq_some_iff.mp e
    obtain ⟨rfl, hz⟩ := small_some e1
    refine ⟨by rw [r1.length]; exact hz, fun p hp => q (.ref p) _ (same_upd hp) (new_tup (fun a ha => R1.hd_there ha) hp r1)⟩
theorem sE_lst (h : SA L P E X es ms) : SE L P E X (.List es pos) (mLst ms) :=
  PE.weak (pe_lst h) fun σ H Q ⟨τ, R, h⟩ => by
    refine ⟨τ, R, (Post.split (R := RVs L) h).imp fun xs H1 ⟨ds, τ1, t1, R1, r1, h1⟩ => ?_⟩
    obtain ⟨d, e, q⟩ := h1.done R1
    obtain ⟨ds', e1, rfl⟩ := Option.map_eq_some_iff.mp e
    obtain ⟨rfl, hz⟩ := small_some e1
    refine ⟨by rw [r1.length]; exact hz, fun p hp => q (.ref p) _ (same_upd hp) (new_lst (fun a ha => R1.hd_there ha) hp r1)⟩

/-! ### and, or, not, if else, as tests -/
def mAnd (a b : M Bool) : M Bool := fun τ => (a τ).bind fun k => fun τ => if k = true then b τ else .ok false τ
def mOr (a b : M Bool) : M Bool := fun τ => (a τ).bind fun k => fun τ => if k = true then .ok true τ else b τ
def mNot (a : M Bool) : M Bool := fun τ => (a τ).bind fun k => fun τ => .ok (!k) τ
abbrev SW (L : Lay) (P : Pa) (E : L2.St → XK) (X : Cx) (e : Expr) (m : M Bool) : Prop := PW X e (tT L P E m)
variable {na nb : M Bool} {rest : List Expr}
theorem sW_and1 (ha : ST L P E X a na) : SW L P E X (.BoolOp .And [a] pos) na := pw_and1 ha
theorem sW_or1 (ha : ST L P E X a na) : SW L P E X (.BoolOp .Or [a] pos) na := pw_or1 ha
theorem sW_and (ha : ST L P E X a na) (hb : SW L P E X (.BoolOp .And (b :: rest) pos) nb) : SW L P E X (.BoolOp .And (a :: b :: rest) pos) (mAnd na nb) :=
  PW.weak (pw_and ha hb) fun σ H Q ⟨τ, R, h⟩ => by
    refine ⟨τ, R, (Post.split (R := RB) h).imp fun k H1 ⟨k', τ1, t1, R1, r1, h1⟩ => ?_⟩
    cases r1
    cases k with
    | true => exact (if_pos rfl).mpr ⟨τ1, R1, h1⟩
    | false => exact h1 false H1 .refl R1 rfl
theorem sW_or (ha : ST L P E X a na) (hb : SW L P E X (.BoolOp .Or (b :: rest) pos) nb) : SW L P E X (.BoolOp .Or (a :: b :: rest) pos) (mOr na nb) :=
  PW.weak (pw_or ha hb) fun σ H Q ⟨τ, R, h⟩ => by
    refine ⟨τ, R, (Post.split (R := RB) h).imp fun k H1 ⟨k', τ1, t1, R1, r1, h1⟩ => ?_⟩
    cases r1
    cases k with
    | false => exact (if_neg Bool.false_ne_true).mpr ⟨τ1, R1, h1⟩
    | true => exact h1 true H1 .refl R1 rfl
theorem sT_w (h : SW L P E X e na) : ST L P E X e na := h.pt
theorem sT_not (ha : ST L P E X a na) : ST L P E X (.UnaryOp .Not a pos) (mNot na) :=
  PT.weak (pt_not ha) fun σ H Q ⟨τ, R, h⟩ => by
    refine ⟨τ, R, (Post.split (R := RB) h).imp fun k H1 ⟨k', τ1, t1, R1, r1, h1⟩ => ?_⟩
    cases r1
    exact h1 (!k) H1 .refl R1 rfl
def mIf {α : Type} (t : M Bool) (a b : M α) : M α := fun τ => (t τ).bind fun k => fun τ => if k = true then a τ else b τ
theorem sE_if (hc : ST L P E X c na) (ha : SE L P E X a ma) (hb : SE L P E X b mb) : SE L P E X (.IfExp c a b pos) (mIf na ma mb) :=
  PE.weak (pe_ifExp hc ha hb) fun σ H Q ⟨τ, R, h⟩ => by
    refine ⟨τ, R, (Post.split (R := RB) h).imp fun k H1 ⟨k', τ1, t1, R1, r1, h1⟩ => ?_⟩
    cases r1
    cases k with
    | false => exact (if_neg Bool.false_ne_true).mpr ⟨τ1, R1, h1⟩
    | true => exact (if_pos rfl).mpr ⟨τ1, R1, h1⟩
end
end Sm
set_option Elab.async false
set_option linter.all false
set_option maxRecDepth 100000
set_option maxHeartbeats 4000000
/-! SmB: statements, targets, loops. -/
namespace Sm
open PySem PySem.Spec PyProof.Rows L2

inductive SR where
  | nx (τ : List Sl) | rt (d : D) (τ : List Sl) | ro (d : D) (τ : List Sl) | bk (τ : List Sl) | ct (τ : List Sl) | exc (c : Nat) (xs : List D) (τ : List Sl) | fail
abbrev MS := List Sl → SR

def rid (H : Hp) (a : Addr) : Hp := fun b => if b = a then none else H b
theorem rid_ne {H : Hp} {a b : Addr} (h : b ≠ a) : rid H a b = H b := if_neg h
theorem rid_same {H : Hp} {a : Addr} : rid H a a = none := if_pos rfl
theorem rid_le {H : Hp} {a : Addr} : Same (rid H a) H := fun b o h => by
  by_cases e : b = a
  · rw [e, rid_same] at h; cases h
  · rw [rid_ne e] at h; exact h
theorem rid_upd {H : Hp} {a : Addr} {o : HO} (h : H a = none) : rid (upd H a o) a = H := by
  funext b
  by_cases e : b = a
  · rw [e, rid_same, h]
  · rw [rid_ne e, upd_ne e]

/-- what holds behind a statement -/
def SPost (L : Lay) (P : Pa) (W : WX) (H : Hp) (σ : L2.St) (τ : List Sl) (r : SR) (D : Ends) : Prop :=
  match r with
  | .nx τ' => ∀ σ' H', Tr H (Own σ τ) H' (Own σ' τ') → StR L P H' σ' τ' → D.nx σ' H'
  | .bk τ' => ∀ σ' H', Tr H (Own σ τ) H' (Own σ' τ') → StR L P H' σ' τ' → D.bk σ' H'
  | .ct τ' => ∀ σ' H', Tr H (Own σ τ) H' (Own σ' τ') → StR L P H' σ' τ' → D.ct σ' H'
  | .rt d τ' => ∀ v σ' H', Tr H (Own σ τ) H' (Own σ' τ') → StR L P H' σ' τ' → Rp L (hid H' (Hd P σ' τ')) d v → D.rt v H'
  | .ro d τ' => ∀ a σ' H', Tr H (Own σ τ) (rid H' a) (Own σ' τ') → StR L P (rid H' a) σ' τ' → OwR L (hid (rid H' a) (Hd P σ' τ')) H' d a → D.rt (.ref a) H'
  | .exc c xs τ' => ∀ cls od σ' H', Tr H (Own σ τ) H' (Own σ' τ') → StR L P H' σ' τ' → ExR L H' c xs cls od → W cls od σ' H'
  | .fail => False
section
variable {L : Lay} {P : Pa} {W : WX} {H H1 : Hp} {σ σ1 : L2.St} {τ τ1 : List Sl} {D : Ends}
theorem SPost.from {r : SR} (h : SPost L P W H σ τ r D) (x : Tr H (Own σ τ) H1 (Own σ1 τ1)) : SPost L P W H1 σ1 τ1 r D := by
  cases r with
  | nx τ' => exact fun σ' H' y z => h σ' H' (x.trans y) z
  | bk τ' => exact fun σ' H' y z => h σ' H' (x.trans y) z
  | ct τ' => exact fun σ' H' y z => h σ' H' (x.trans y) z
  | rt d τ' => exact fun v σ' H' y z w => h v σ' H' (x.trans y) z w
  | ro d τ' => exact fun v σ' H' y z w => h v σ' H' (x.trans y) z w
  | exc c xs τ' => exact fun cls od σ' H' y z w => h cls od σ' H' (x.trans y) z w
  | fail => exact h
end
def tS (L : Lay) (P : Pa) (W : WX) (m : MS) : TS := fun D σ H => ∃ τ, StR L P H σ τ ∧ SPost L P W H σ τ (m τ) D
abbrev SS (L : Lay) (P : Pa) (W : WX) (X : Cx) (st : Stmt) (m : MS) : Prop := PS X st (tS L P W m)
abbrev SSs (L : Lay) (P : Pa) (W : WX) (X : Cx) (st : List Stmt) (m : MS) : Prop := PSs X st (tS L P W m)

/-- a result of an expression, for a statement -/
def Res.st {α : Type} (r : Res α) (f : α → MS) : SR :=
  match r with
  | .ok a τ => f a τ
  | .exc c xs τ => .exc c xs τ
  | .fail => .fail
@[simp] theorem Res.st_ok {α : Type} {a : α} {τ : List Sl} {f : α → MS} : (Res.ok a τ).st f = f a τ := rfl
@[simp] theorem Res.st_exc {α : Type} {c : Nat} {xs : List D} {τ : List Sl} {f : α → MS} : (Res.exc c xs τ : Res α).st f = .exc c xs τ := rfl
@[simp] theorem Res.st_fail {α : Type} {f : α → MS} : (Res.fail : Res α).st f = .fail := rfl
def SR.then (r : SR) (m : MS) : SR :=
  match r with
  | .nx τ => m τ
  | r => r
@[simp] theorem SR.then_nx {τ : List Sl} {m : MS} : (SR.nx τ).then m = m τ := rfl
@[simp] theorem SR.then_rt {d : D} {τ : List Sl} {m : MS} : (SR.rt d τ).then m = .rt d τ := rfl
@[simp] theorem SR.then_ro {d : D} {τ : List Sl} {m : MS} : (SR.ro d τ).then m = .ro d τ := rfl
@[simp] theorem SR.then_bk {τ : List Sl} {m : MS} : (SR.bk τ).then m = .bk τ := rfl
@[simp] theorem SR.then_ct {τ : List Sl} {m : MS} : (SR.ct τ).then m = .ct τ := rfl
@[simp] theorem SR.then_exc {c : Nat} {xs : List Sm.D} {τ : List Sl} {m : MS} : (SR.exc c xs τ).then m = .exc c xs τ := rfl
@[simp] theorem SR.then_fail {m : MS} : SR.fail.then m = .fail := rfl

section
variable {L : Lay} {P : Pa} {W : WX} {X : Cx} {e : Expr} {pos : Pos} {m : M D} {st : Stmt} {rest : List Stmt} {ms ns : MS}
theorem Post.sta {α β : Type} {R : Hp → α → β → Prop} {H : Hp} {σ : L2.St} {τ : List Sl} {r : Res α} {f : α → MS} {D : Ends} (h : SPost L P W H σ τ (r.st f) D) :
    Post L P R H σ τ r (fun v H1 => ∃ a τ1, Tr H (Own σ τ) H1 (Own σ τ1) ∧ StR L P H1 σ τ1 ∧ R (hid H1 (Hd P σ τ1)) a v ∧ SPost L P W H1 σ τ1 (f a τ1) D) (WE W σ) := by
  cases r with
  | ok a τ' => exact fun v H' x y z => ⟨a, τ', x, y, z, SPost.from h x⟩
  | exc c xs τ' => exact fun cls od H' x y z => h cls od σ H' x y z
  | fail => exact h
def mNx : MS := fun τ => .nx τ
theorem sS_nil : SSs L P W X [] mNx := PSs.weak pss_nil fun D σ H ⟨τ, R, h⟩ => h σ H .refl R
def mSeq (a b : MS) : MS := fun τ => (a τ).then b
theorem SPost.then {H : Hp} {σ : L2.St} {τ : List Sl} {r : SR} {D : Ends} (h : SPost L P W H σ τ (r.then ns) D) : SPost L P W H σ τ r { D with nx := tS L P W ns D } := by
  cases r with
  | nx τ' => exact fun σ' H' x y => ⟨τ', y, SPost.from h x⟩
  | _ => exact h
theorem sS_cons (h1 : SS L P W X st ms) (h2 : SSs L P W X rest ns) : SSs L P W X (st :: rest) (mSeq ms ns) :=
  PSs.weak (pss_cons h1 h2) fun D σ H ⟨τ, R, h⟩ => ⟨τ, R, h.then⟩
theorem sS_one (h1 : SS L P W X st ms) : SSs L P W X [st] ms := pss_one h1
theorem sS_pass : SS L P W X (.Pass pos) mNx := PS.weak ps_pass fun D σ H ⟨τ, R, h⟩ => h σ H .refl R
def mBk : MS := fun τ => .bk τ
def mCt : MS := fun τ => .ct τ
theorem sS_break : SS L P W X (.Break pos) mBk := PS.weak ps_break fun D σ H ⟨τ, R, h⟩ => h σ H .refl R
theorem sS_continue : SS L P W X (.Continue pos) mCt := PS.weak ps_continue fun D σ H ⟨τ, R, h⟩ => h σ H .refl R
def mRet (m : M D) : MS := fun τ => (m τ).st fun d τ => .rt d τ
theorem sS_ret (he : SE L P (WE W) X e m) : SS L P W X (.Return (some e) pos) (mRet m) :=
  PS.weak (ps_ret he) fun D σ H ⟨τ, R, h⟩ => ⟨τ, R, (Post.sta (R := RV L) h).imp fun v H1 ⟨d, τ1, t1, R1, r1, h1⟩ => h1 v σ H1 .refl R1 r1⟩
def mRetN : MS := fun τ => .rt .non τ
theorem sS_retN : SS L P W X (.Return none pos) mRetN := PS.weak ps_retN fun D σ H ⟨τ, R, h⟩ => h .non σ H .refl R (Rp.non_iff.mpr rfl)
def mIfS (c : M Bool) (a b : MS) : MS := fun τ => (c τ).st fun k τ => if k = true then a τ else b τ
theorem sS_if {c : Expr} {a b : List Stmt} {mc : M Bool} (hc : ST L P (WE W) X c mc) (ha : SSs L P W X a ms) (hb : SSs L P W X b ns) : SS L P W X (.If c a b pos) (mIfS mc ms ns) :=
  PS.weak (ps_if hc ha hb) fun D σ H ⟨τ, R, h⟩ => by
    refine ⟨τ, R, (Post.sta (R := RB) h).imp fun k H1 ⟨k', τ1, t1, R1, r1, h1⟩ => ?_⟩
    cases r1
    cases k with
    | true => exact (if_pos rfl).mpr ⟨τ1, R1, h1⟩
    | false => exact (if_neg Bool.false_ne_true).mpr ⟨τ1, R1, h1⟩
def mDrop (m : M D) : MS := fun τ => (m τ).st fun _ τ => .nx τ
theorem sS_expr (he : SE L P (WE W) X e m) (hs : swapsWith e none pos.line X.env = pure false := by rfl) : SS L P W X (.Expr e pos) (mDrop m) :=
  PS.weak (ps_expr he hs) fun D σ H ⟨τ, R, h⟩ => ⟨τ, R, (Post.sta (R := RV L) h).imp fun v H1 ⟨d, τ1, t1, R1, r1, h1⟩ => h1 σ H1 .refl R1⟩
theorem sS_doc {x j pos'} : SS L P W X (.Expr (.Constant (.str x) j pos) pos') mNx := PS.weak ps_doc fun D σ H ⟨τ, R, h⟩ => h σ H .refl R

/-! ### stores into slots -/
/-- a slot that may be given another value: not the caller's -/
def Sl.free : Sl → Bool
  | .io _ _ => false
  | .le _ => false
  | _ => true
def setFz (i : Nat) (d : D) (τ : List Sl) : Option (List Sl) :=
  match τ[i]? with
  | some t => if t.free = true then some (τ.set i (.fz d)) else none
  | none => none
def setOw (i : Nat) (d : D) (τ : List Sl) : Option (List Sl) :=
  match τ[i]? with
  | some t => if t.free = true then some (τ.set i (.ow d)) else none
  | none => none
theorem setFz_some {i : Nat} {d : D} {τ τ' : List Sl} (h : setFz i d τ = some τ') : i < τ.length ∧ τ' = τ.set i (.fz d) := by
  unfold setFz at h
  split at h
  · rename_i t e
    split at h
    · cases h; exact ⟨(List.getElem?_eq_some_iff.mp e).1, rfl⟩
    · cases h
  · cases h
theorem setOw_some {i : Nat} {d : D} {τ τ' : List Sl} (h : setOw i d τ = some τ') : i < τ.length ∧ τ' = τ.set i (.ow d) := by
  unfold setOw at h
  split at h
  · rename_i t e
    split at h
    · cases h; exact ⟨(List.getElem?_eq_some_iff.mp e).1, rfl⟩
    · cases h
  · cases h
theorem StR.setFz {H : Hp} {σ : L2.St} {τ : List Sl} {i : Nat} {d : D} {v : V} (R : StR L P H σ τ) (hi : i < τ.length) (r : Rp L (hid H (Hd P σ τ)) d v) :
    Tr H (Own σ τ) H (Own (σ.set i (some v)) (τ.set i (.fz d))) ∧ StR L P H (σ.set i (some v)) (τ.set i (.fz d)) := by
  have hi' : i < σ.length := by rw [R.len]; exact hi
  have sub : ∀ j a, OwnAt (σ.set i (some v)) (τ.set i (.fz d)) j a → OwnAt σ τ j a := fun j a ⟨e, t, et, ow⟩ => by
    by_cases hj : i = j
    · subst hj
      rw [List.getElem?_set_self hi] at et
      cases et
      cases ow
    · rw [List.getElem?_set_ne hj] at et e
      exact ⟨e, t, et, ow⟩
  have tr : Tr H (Own σ τ) H (Own (σ.set i (some v)) (τ.set i (.fz d))) := ⟨fun _ _ q _ => q, fun a ⟨j, q⟩ => .inl ⟨j, sub j a q⟩, fun _ o h => ⟨o, h⟩⟩
  refine ⟨tr, by rw [List.length_set, List.length_set]; exact R.len, fun j k b x y => R.inj j k b (sub j b x) (sub k b y), fun b ⟨j, q⟩ => R.dis b ⟨j, sub j b q⟩, R.bth, fun j t ht => ?_⟩
  by_cases hj : i = j
  · subst hj
    rw [List.getElem?_set_self hi] at ht
    cases ht
    exact ⟨v, List.getElem?_set_self hi', r.same (R.fz tr)⟩
  · rw [List.getElem?_set_ne hj] at ht
    rw [List.getElem?_set_ne hj]
    have q := R.sl j t ht
    cases t with
    | un => trivial
    | fz d' => obtain ⟨v, e2, r2⟩ := q; exact ⟨v, e2, r2.same (R.fz tr)⟩
    | ow d' => obtain ⟨b, e2, r2⟩ := q; exact ⟨b, e2, r2.step (R.fz tr) rfl⟩
    | le d' => obtain ⟨b, e2, r2⟩ := q; exact ⟨b, e2, r2.step (R.fz tr) rfl⟩
    | io k d' => obtain ⟨b, e2, e3, r2⟩ := q; exact ⟨b, e2, e3, r2.step (R.fz tr) rfl⟩
theorem StR.setOw {H' : Hp} {σ : L2.St} {τ : List Sl} {i : Nat} {d : D} {a : Addr} (R : StR L P (rid H' a) σ τ) (hi : i < τ.length) (r : OwR L (hid (rid H' a) (Hd P σ τ)) H' d a) :
    Tr (rid H' a) (Own σ τ) H' (Own (σ.set i (some (.ref a))) (τ.set i (.ow d))) ∧ StR L P H' (σ.set i (some (.ref a))) (τ.set i (.ow d)) := by
  have hi' : i < σ.length := by rw [R.len]; exact hi
  have old : ∀ j b, j ≠ i → OwnAt (σ.set i (some (.ref a))) (τ.set i (.ow d)) j b → OwnAt σ τ j b := fun j b hj ⟨e, t, et, ow⟩ => by
    rw [List.getElem?_set_ne (Ne.symm hj)] at et e
    exact ⟨e, t, et, ow⟩
  have new : ∀ b, OwnAt (σ.set i (some (.ref a))) (τ.set i (.ow d)) i b → b = a := fun b ⟨e, _⟩ => by
    rw [List.getElem?_set_self hi'] at e
    cases e; rfl
  have notA : ∀ j b, OwnAt σ τ j b → b ≠ a := fun j b q z => by
    obtain ⟨o, h⟩ := R.own_there ⟨j, q⟩
    rw [z, rid_same] at h; cases h
  have tr : Tr (rid H' a) (Own σ τ) H' (Own (σ.set i (some (.ref a))) (τ.set i (.ow d))) := by
    refine ⟨fun b o q _ => rid_le b o q, fun b ⟨j, q⟩ => ?_, fun b o q => ⟨o, rid_le b o q⟩⟩
    by_cases hj : j = i
    · subst hj; rw [new b q]; exact .inr rid_same
    · exact .inl ⟨j, old j b hj q⟩
  refine ⟨tr, by rw [List.length_set, List.length_set]; exact R.len, fun j k b x y => ?_, fun b ⟨j, q⟩ z => ?_, fun b z => let ⟨o, q⟩ := R.bth b z; ⟨o, rid_le b o q⟩, fun j t ht => ?_⟩
  · by_cases hj : j = i
    · by_cases hk : k = i
      · rw [hj, hk]
      · subst hj
        exact absurd (new b x) (notA k b (old k b hk y))
    · by_cases hk : k = i
      · subst hk
        exact absurd (new b y) (notA j b (old j b hj x))
      · exact R.inj j k b (old j b hj x) (old k b hk y)
  · by_cases hj : j = i
    · subst hj
      rw [new b q] at z
      obtain ⟨o, h⟩ := R.bth a z
      rw [rid_same] at h; cases h
    · exact R.dis b ⟨j, old j b hj q⟩ z
  · by_cases hj : i = j
    · subst hj
      rw [List.getElem?_set_self hi] at ht
      cases ht
      exact ⟨a, List.getElem?_set_self hi', r.step (R.fz tr) rfl⟩
    · rw [List.getElem?_set_ne hj] at ht
      rw [List.getElem?_set_ne hj]
      have q := R.sl j t ht
      have st : ∀ {d' : Sm.D} {b : Addr}, OwR L (hid (rid H' a) (Hd P σ τ)) (rid H' a) d' b → OwR L (hid H' (Hd P (σ.set i (some (.ref a))) (τ.set i (.ow d)))) H' d' b := fun {d' b} q => by
        obtain ⟨o, ho⟩ := q.there
        exact q.step (R.fz tr) (by rw [ho]; exact rid_le b o ho)
      cases t with
      | un => trivial
      | fz d' => obtain ⟨v, e2, r2⟩ := q; exact ⟨v, e2, r2.same (R.fz tr)⟩
      | ow d' => obtain ⟨b, e2, r2⟩ := q; exact ⟨b, e2, st r2⟩
      | le d' => obtain ⟨b, e2, r2⟩ := q; exact ⟨b, e2, st r2⟩
      | io k d' => obtain ⟨b, e2, e3, r2⟩ := q; exact ⟨b, e2, e3, st r2⟩

def SR.opt (o : Option (List Sl)) : SR :=
  match o with
  | some τ => .nx τ
  | none => .fail
@[simp] theorem SR.opt_some {τ : List Sl} : SR.opt (some τ) = .nx τ := rfl
@[simp] theorem SR.opt_none : SR.opt none = .fail := rfl
theorem SPost.opt {H : Hp} {σ : L2.St} {τ : List Sl} {o : Option (List Sl)} {D : Ends} (h : SPost L P W H σ τ (SR.opt o) D) : ∃ τ', o = some τ' ∧ ∀ σ' H', Tr H (Own σ τ) H' (Own σ' τ') → StR L P H' σ' τ' → D.nx σ' H' := by
  cases o with
  | none => exact h.elim
  | some τ' => exact ⟨τ', rfl, h⟩
def mSet (i : Nat) (m : M D) : MS := fun τ => (m τ).st fun d τ => SR.opt (setFz i d τ)
theorem sS_set {i : Nat} {x : Str} {pos' : Pos} (hN : X.N.Nodup) (hi : X.N[i]? = some x) (hx : Loc X.env.scope x) (he : SE L P (WE W) X e m) (hs : swapsWith e (some (.Name x pos')) pos.line X.env = pure false := by rfl) (hf : X.fn x = true ∨ X.env.scope.names.lookup x = some .local := by first | exact .inl rfl | exact .inr rfl | assumption) :
    SS L P W X (.Assign [.Name x pos'] e pos) (mSet i m) :=
  PS.weak (ps_set hN hi hx he hs hf) fun D σ H ⟨τ, R, h⟩ => by
    refine ⟨τ, R, (Post.sta (R := RV L) h).imp fun v H1 ⟨d, τ1, t1, R1, r1, h1⟩ => ?_⟩
    obtain ⟨τ', e, q⟩ := h1.opt
    obtain ⟨hi, rfl⟩ := setFz_some e
    obtain ⟨tr, R2⟩ := R1.setFz hi r1
    exact q _ H1 tr R2

/-! ### fresh objects -/
/-- what holds behind an expression that makes a new object -/
def PostF (L : Lay) (P : Pa) (H : Hp) (σ : L2.St) (τ : List Sl) (r : Res D) (Q : VK) (E : XK) : Prop :=
  match r with
  | .ok d τ' => ∀ a H', Tr H (Own σ τ) (rid H' a) (Own σ τ') → StR L P (rid H' a) σ τ' → OwR L (hid (rid H' a) (Hd P σ τ')) H' d a → Q (.ref a) H'
  | .exc c xs τ' => ∀ cls od H', Tr H (Own σ τ) H' (Own σ τ') → StR L P H' σ τ' → ExR L H' c xs cls od → E cls od H'
  | .fail => False
def tF (L : Lay) (P : Pa) (E : L2.St → XK) (m : M D) : TE := fun σ H Q => ∃ τ, StR L P H σ τ ∧ PostF L P H σ τ (m τ) Q (E σ)
abbrev SF (L : Lay) (P : Pa) (E : L2.St → XK) (X : Cx) (e : Expr) (m : M D) : Prop := PE X e (tF L P E m)
/-- a new object, frozen -/
theorem fresh_rp {H' : Hp} {σ : L2.St} {τ : List Sl} {d : D} {a : Addr} (R : StR L P (rid H' a) σ τ) (r : OwR L (hid (rid H' a) (Hd P σ τ)) H' d a) : Rp L (hid H' (Hd P σ τ)) d (.ref a) := by
  have na : ¬ Hd P σ τ a := fun z => by
    obtain ⟨o, h⟩ := R.hd_there z
    rw [rid_same] at h; cases h
  cases d with
  | lst ds =>
    obtain ⟨vs, h, rr⟩ := r
    exact Rp.lst_iff.mpr ⟨a, vs, rfl, hid_some.mpr ⟨h, na⟩, Rps.same (hid_mono rid_le fun _ z => z) rr⟩
  | _ => exact r.elim
theorem SE.of {E : L2.St → XK} (h : SF L P E X e m) : SE L P E X e m :=
  PE.weak h fun σ H Q ⟨τ, R, h⟩ => by
    refine ⟨τ, R, ?_⟩
    revert h
    cases m τ with
    | ok d τ' => exact fun h a H' t R' o => h (.ref a) H' (t.trans (.of rid_le)) (R'.same rid_le) (fresh_rp R' o)
    | exc c xs τ' => exact fun h => h
    | fail => exact fun h => h
theorem tLst_fresh {es : List Expr} {E : L2.St → XK} {k : M (List D)} (h : SA L P E X es k) : SF L P E X (.List es pos) (mLst k) :=
  PE.weak (pe_lst h) fun σ H Q ⟨τ, R, h⟩ => by
    have h : PostF L P H σ τ ((k τ).bind fun xs τ => Res.lift ((small xs).map D.lst) τ) Q (E σ) := h
    refine ⟨τ, R, ?_⟩
    revert h
    cases k τ with
    | ok ds τ1 =>
      intro h vs H1 t1 R1 r1
      cases e : small ds with
      | none => rw [Res.bind_ok, e] at h; exact h.elim
      | some ds' =>
        rw [Res.bind_ok, e] at h
        obtain ⟨rfl, hz⟩ := small_some e
        refine ⟨by rw [r1.length]; exact hz, fun p hp => h p _ ?_ ?_ ?_⟩
        · rw [rid_upd hp]; exact t1
        · rw [rid_upd hp]; exact R1
        · rw [rid_upd hp]; exact ⟨vs, upd_same, r1⟩
    | exc c xs τ' => exact fun h => h
    | fail => exact fun h => h
def mSetO (i : Nat) (m : M D) : MS := fun τ => (m τ).st fun d τ => SR.opt (setOw i d τ)
theorem sS_setO {i : Nat} {x : Str} {pos' : Pos} (hN : X.N.Nodup) (hi : X.N[i]? = some x) (hx : Loc X.env.scope x) (he : SF L P (WE W) X e m) (hs : swapsWith e (some (.Name x pos')) pos.line X.env = pure false := by rfl) (hf : X.fn x = true ∨ X.env.scope.names.lookup x = some .local := by first | exact .inl rfl | exact .inr rfl | assumption) :
    SS L P W X (.Assign [.Name x pos'] e pos) (mSetO i m) :=
  PS.weak (ps_set hN hi hx he hs hf) fun D σ H ⟨τ, R, h⟩ => by
    refine ⟨τ, R, ?_⟩
    have h : SPost L P W H σ τ ((m τ).st fun d τ => SR.opt (setOw i d τ)) D := h
    revert h
    cases m τ with
    | ok d τ1 =>
      intro h a H1 t1 R1 r1
      obtain ⟨τ', e, q⟩ := SPost.opt h
      obtain ⟨hi, rfl⟩ := setOw_some e
      obtain ⟨tr, R2⟩ := R1.setOw hi r1
      exact q _ H1 (t1.trans tr) R2
    | exc c xs τ' => exact fun h cls od H' x y z => h cls od σ H' x y z
    | fail => exact fun h => h
def mRetO (m : M D) : MS := fun τ => (m τ).st fun d τ => .ro d τ
theorem sS_retO (he : SF L P (WE W) X e m) : SS L P W X (.Return (some e) pos) (mRetO m) :=
  PS.weak (ps_ret he) fun D σ H ⟨τ, R, h⟩ => by
    refine ⟨τ, R, ?_⟩
    have h : SPost L P W H σ τ ((m τ).st fun d τ => .ro d τ) D := h
    revert h
    cases m τ with
    | ok d τ1 => exact fun h a H1 t1 R1 r1 => h a σ H1 t1 R1 r1
    | exc c xs τ' => exact fun h cls od H' x y z => h cls od σ H' x y z
    | fail => exact fun h => h

/-! ### targets -/
abbrev MG := D → List Sl → Option (List Sl)
def tG (L : Lay) (P : Pa) (g : MG) : TG := fun v σ H Q => ∃ τ d τ', StR L P H σ τ ∧ Rp L (hid H (Hd P σ τ)) d v ∧ g d τ = some τ' ∧ ∀ σ' H', Tr H (Own σ τ) H' (Own σ' τ') → StR L P H' σ' τ' → Q σ' H'
abbrev SG (L : Lay) (P : Pa) (X : Cx) (tg : Expr) (g : MG) : Prop := PG X tg (tG L P g)
def gN (i : Nat) : MG := fun d τ => setFz i d τ
theorem sG_name {i : Nat} {x : Str} (hN : X.N.Nodup) (hi : X.N[i]? = some x) (hx : Loc X.env.scope x) (hf : X.fn x = true ∨ X.env.scope.names.lookup x = some .local := by first | exact .inl rfl | exact .inr rfl | assumption) : SG L P X (.Name x pos) (gN i) :=
  PG.weak (pg_name hN hi hx hf) fun v σ H Q ⟨τ, d, τ', R, r, e, q⟩ => by
    obtain ⟨hi, rfl⟩ := setFz_some e
    obtain ⟨tr, R2⟩ := R.setFz hi r
    exact q _ H tr R2
abbrev MGs := List D → List Sl → Option (List Sl)
def tGs (L : Lay) (P : Pa) (g : MGs) : TGs := fun vs σ H Q => ∃ τ ds τ', StR L P H σ τ ∧ Rps L (hid H (Hd P σ τ)) ds vs ∧ g ds τ = some τ' ∧ ∀ σ' H', Tr H (Own σ τ) H' (Own σ' τ') → StR L P H' σ' τ' → Q σ' H'
abbrev SGs (L : Lay) (P : Pa) (X : Cx) (tg : List Expr) (g : MGs) : Prop := PGs X tg (tGs L P g)
def gNil : MGs := fun ds τ =>
  match ds with
  | [] => some τ
  | _ => none
def gCons (g : MG) (gs : MGs) : MGs := fun ds τ =>
  match ds with
  | d :: r => (g d τ).bind (gs r)
  | [] => none
theorem PGs.weak {X : Cx} {e : List Expr} {t u : TGs} (h : PGs X e t) (f : ∀ v σ H Q, u v σ H Q → t v σ H Q) : PGs X e u := ⟨fun pins s σ H v w Q I r q => h.run pins s σ H v w Q I r (f v σ H Q q)⟩
theorem sGs_nil : SGs L P X [] Sm.gNil :=
  PGs.weak pgs_nil fun vs σ H Q ⟨τ, ds, τ', R, r, e, q⟩ => by
    cases ds with
    | nil => cases e; unfold Rps at r; exact ⟨r, q σ H .refl R⟩
    | cons d r => cases e
theorem sGs_cons {e : Expr} {es : List Expr} {g : MG} {gs : MGs} (h1 : SG L P X e g) (h2 : SGs L P X es gs) (hs : (assignEach (e :: es) X.env).map (·.2) = assign e X.env :: (assignEach es X.env).map (·.2) := by rfl) : SGs L P X (e :: es) (Sm.gCons g gs) :=
  PGs.weak (pgs_cons h1 h2 hs) fun vs σ H Q ⟨τ, ds, τ', R, r, e, q⟩ => by
    cases ds with
    | nil => cases e
    | cons d ds =>
      unfold Rps at r
      obtain ⟨v, vr, rfl, rd, rr⟩ := r
      obtain ⟨τ1, e1, e2⟩ := Option.bind_eq_some_iff.mp e
      refine ⟨v, vr, rfl, τ, d, τ1, R, rd, e1, fun σ1 H1 t1 R1 => ?_⟩
      exact ⟨τ1, ds, τ', R1, Rps.same (R.fz t1) rr, e2, fun σ' H' t2 R2 => q σ' H' (t1.trans t2) R2⟩
def gT (n : Nat) (gs : MGs) : MG := fun d τ =>
  match d with
  | .tup ds => if ds.length = n then gs ds τ else none
  | .lst ds => if ds.length = n then gs ds τ else none
  | _ => none
theorem PG.or {X : Cx} {tg : Expr} {g g' : TG} (h : PG X tg g) (h' : PG X tg g') : PG X tg (fun v σ H Q => g v σ H Q ∨ g' v σ H Q) :=
  ⟨fun pins s σ H v w Q I r q => q.elim (fun q => h.run pins s σ H v w Q I r q) fun q => h'.run pins s σ H v w Q I r q⟩
theorem sG_tup {es : List Expr} {k : Nat} {gs : MGs} {n : Nat} (hK : X.K = L.K) (hc : X.calm = true) (h : SGs L P X es gs)
    (hn : (assignEach es X.env).length = n := by rfl) (hst : (assignEach es X.env).findIdx? (·.1) = none := by rfl) : SG L P X (.Tuple es k pos) (gT n gs) :=
  PG.weak (Sm.PG.or (pg_tup hc h hn hst) (pg_lst hc h hn hst)) fun v σ H Q ⟨τ, d, τ', R, r, e, q⟩ => by
    cases d with
    | tup ds =>
      obtain ⟨a, vs, rfl, s, rr⟩ := Rp.tup_iff.mp r
      have e : (if ds.length = n then gs ds τ else none) = some τ' := e
      by_cases hl : ds.length = n
      · rw [if_pos hl] at e
        refine .inl ⟨a, vs, rfl, by rw [hK]; exact SqT.same hid_le s, by rw [rr.length]; exact hl, τ, ds, τ', R, rr, e, q⟩
      · rw [if_neg hl] at e; cases e
    | lst ds =>
      obtain ⟨a, vs, rfl, s, rr⟩ := Rp.lst_iff.mp r
      have e : (if ds.length = n then gs ds τ else none) = some τ' := e
      by_cases hl : ds.length = n
      · rw [if_pos hl] at e
        refine .inr ⟨a, vs, rfl, .inl (.inl (hid_le _ _ s)), by rw [rr.length]; exact hl, τ, ds, τ', R, rr, e, q⟩
      · rw [if_neg hl] at e; cases e
    | _ => cases e
def mAsg (g : MG) (m : M D) : MS := fun τ => (m τ).st fun d τ => SR.opt (g d τ)
theorem sS_asg {tg : Expr} {g : MG} (he : SE L P (WE W) X e m) (hg : SG L P X tg g) (hs : swapsWithSole [tg] e pos.line X.env = pure false := by rfl) (hw : swappedStores [tg] e X.env = pure none := by rfl)
    (h1 : (assignEach [tg] X.env).map (·.2) = [assign tg X.env] := by rfl) : SS L P W X (.Assign [tg] e pos) (mAsg g m) :=
  PS.weak (ps_asg he hg hs hw h1) fun D σ H ⟨τ, R, h⟩ => by
    refine ⟨τ, R, (Post.sta (R := RV L) h).imp fun v H1 ⟨d, τ1, t1, R1, r1, h1⟩ => ?_⟩
    obtain ⟨τ', e, q⟩ := h1.opt
    exact ⟨τ1, d, τ', R1, r1, e, q⟩
/-- a, b = x, y with plain local names -/
def mPar (i j : Nat) (ma mb : M D) : MS := fun τ => (ma τ).st fun a τ => (mb τ).st fun b τ => SR.opt ((setFz i a τ).bind (setFz j b))
theorem sS_par {i j : Nat} {x y : Str} {a b : Expr} {ma mb : M D} {px py pt : Pos} {kt k2 pt2} (hc : X.calm = true) (hN : X.N.Nodup) (hi : X.N[i]? = some x) (hj : X.N[j]? = some y) (hij : i ≠ j)
    (hx : X.env.scope.names.lookup x = some .local) (hy : X.env.scope.names.lookup y = some .local) (ha : SE L P (WE W) X a ma) (hb : SE L P (WE W) X b mb)
    (hw : swappedStores [.Tuple [.Name x px, .Name y py] kt pt] (.Tuple [a, b] k2 pt2) X.env = pure (some [x, y]))
    (hs : swapsWithSole [.Tuple [.Name x px, .Name y py] kt pt] (.Tuple [a, b] k2 pt2) pos.line X.env = pure false := by rfl)
    (hs1 : starEach [a, b] X.env = (false, eval a X.env) :: starEach [b] X.env := by rfl) (hs2 : starEach [b] X.env = (false, eval b X.env) :: starEach [] X.env := by rfl) :
    SS L P W X (.Assign [.Tuple [.Name x px, .Name y py] kt pt] (.Tuple [a, b] k2 pt2) pos) (mPar i j ma mb) :=
  PS.weak (ps_par hc hN hi hj hij hx hy (pa_cons ha (pa_cons hb pa_nil hs2) hs1) hw hs) fun D σ H ⟨τ, R, h⟩ => by
    refine ⟨τ, R, (Post.sta (R := RV L) h).imp fun v H1 ⟨d, τ1, t1, R1, r1, h1⟩ => ?_⟩
    refine ⟨τ1, R1, (Post.sta (R := RV L) h1).imp fun u H2 ⟨d2, τ2, t2, R2, r2, h2⟩ => ?_⟩
    obtain ⟨τ', e, q⟩ := h2.opt
    obtain ⟨τ3, e1, e2⟩ := Option.bind_eq_some_iff.mp e
    obtain ⟨hi, rfl⟩ := setFz_some e1
    obtain ⟨tr, R3⟩ := R2.setFz hi (r1.same (R1.fz t2))
    obtain ⟨hj, rfl⟩ := setFz_some e2
    obtain ⟨tr2, R4⟩ := R3.setFz hj (r2.same (R2.fz tr))
    exact ⟨v, u, rfl, q _ H2 (tr.trans tr2) R4⟩

/-! ### while -/
def mWhile : Nat → M Bool → MS → MS
  | 0, _, _ => fun _ => .fail
  | n + 1, c, b => fun τ => (c τ).st fun k τ =>
    if k = true then
      match b τ with
      | .nx τ => mWhile n c b τ
      | .ct τ => mWhile n c b τ
      | .bk τ => .nx τ
      | r => r
    else .nx τ
theorem sS_while {c : Expr} {body : List Stmt} {mc : M Bool} (n : Nat) (hp : PassesOwn (model X.prog X.w) X.A X.env X.xe) (hc : ST L P (WE W) X c mc) (hb : SSs L P W X body ms) : SS L P W X (.While c body [] pos) (mWhile n mc ms) :=
  PS.weak (ps_while hp hc hb) fun D σ H ⟨τ, R, h⟩ => by
    refine ⟨fun k σ H => ∃ τ, StR L P H σ τ ∧ SPost L P W H σ τ (mWhile k mc ms τ) D, ⟨n, τ, R, h⟩, ?_⟩
    rintro k σ1 H1 ⟨τ1, R1, h1⟩
    cases k with
    | zero => exact h1.elim
    | succ k =>
      refine ⟨τ1, R1, (Post.sta (R := RB) h1).imp fun b H2 ⟨b', τ2, t2, R2, r2, h2⟩ => ?_⟩
      cases r2
      cases b with
      | false => exact (if_neg Bool.false_ne_true).mpr (h2 σ1 H2 .refl R2)
      | true =>
        refine (if_pos rfl).mpr ⟨fun σ' H' => ∃ τ, StR L P H' σ' τ ∧ SPost L P W H' σ' τ (mWhile k mc ms τ) D, fun σ' H' q => ⟨k, Nat.lt_succ_self k, q⟩, τ2, R2, ?_⟩
        rw [if_pos rfl] at h2
        revert h2
        cases ms τ2 with
        | nx τ3 => exact fun h2 σ' H' t R' => ⟨τ3, R', SPost.from h2 t⟩
        | ct τ3 => exact fun h2 σ' H' t R' => ⟨τ3, R', SPost.from h2 t⟩
        | bk τ3 => exact fun h2 => h2
        | rt d τ3 => exact fun h2 => h2
        | ro d τ3 => exact fun h2 => h2
        | exc c xs τ3 => exact fun h2 => h2
        | fail => exact fun h2 => h2

/-! ### what a loop walks -/
/-- while G holds, J yields what stands for ds -/
def ItR (L : Lay) (J : It) (G : Hp → (Addr → Prop) → Prop) (ds : List D) : Prop :=
  ∀ (i : Nat) (H : Hp) (A : Addr → Prop), G H A → (∀ p, A p → ∃ o, H p = some o) →
    (∀ d, ds[i]? = some d → J.go i H ∧ ∀ x H', J.yld i H x H' → Same H H' ∧ Rp L (hid H' A) d x) ∧ (ds[i]? = none → J.stop i H)
def tI (L : Lay) (P : Pa) (E : L2.St → XK) (m : M (List D)) : TI := fun σ H R => ∃ τ, StR L P H σ τ ∧
  match m τ with
  | .ok ds τ' => ∀ J H', Tr H (Own σ τ) H' (Own σ τ') → StR L P H' σ τ' → ItR L J (fun H2 A2 => Same (hid H' (Hd P σ τ')) (hid H2 A2)) ds → R J H'
  | .exc c xs τ' => ∀ cls od H', Tr H (Own σ τ) H' (Own σ τ') → StR L P H' σ τ' → ExR L H' c xs cls od → E σ cls od H'
  | .fail => False
abbrev SI (L : Lay) (P : Pa) (E : L2.St → XK) (X : Cx) (tg iter : Expr) (m : M (List D)) : Prop := PI X tg iter (tI L P E m)
theorem PI.weak {tg iter : Expr} {t u : TI} (h : PI X tg iter t) (f : ∀ σ H R, u σ H R → t σ H R) : PI X tg iter u := ⟨fun pins s σ H R I q => h.run pins s σ H R I (f σ H R q)⟩
def asL : D → Option (List D)
  | .lst ds => some ds
  | _ => none
def asT : D → Option (List D)
  | .tup ds => some ds
  | _ => none
@[simp] theorem asL_lst {ds : List D} : asL (.lst ds) = some ds := rfl
@[simp] theorem asT_tup {ds : List D} : asT (.tup ds) = some ds := rfl
def mOn {α β : Type} (f : α → Option β) (m : M α) : M β := fun τ => (m τ).bind fun d => fun τ => Res.lift (f d) τ
theorem itl_ok {a : Addr} {vs : List V} {ds : List D} {F : Hp} (s : F a = some (.lst vs)) (r : Rps L F ds vs) : ItR L (Itl L.K a) (fun H2 A2 => Same F (hid H2 A2)) ds := by
  intro i H A g hA
  have s2 : SqL L.K H a vs := .inl (.inl ((g.trans hid_le) _ _ s))
  refine ⟨fun d e => ?_, fun e => ⟨vs, s2, ?_⟩⟩
  · obtain ⟨v, hv, rv⟩ := r.get e
    refine ⟨⟨vs, v, s2, hv⟩, fun x H' y => ?_⟩
    obtain ⟨rfl, y⟩ := y
    have e2 : v = x := Option.some.inj (hv.symm.trans (y vs s2))
    subst e2
    exact ⟨.refl _, rv.same g⟩
  · rw [r.length]
    exact List.getElem?_eq_none_iff.mp e
theorem itt_ok {a : Addr} {vs : List V} {ds : List D} {F : Hp} (s : SqT L.K F a vs) (r : Rps L F ds vs) : ItR L (Itt L.K a) (fun H2 A2 => Same F (hid H2 A2)) ds := by
  intro i H A g hA
  have s2 : SqT L.K H a vs := SqT.same (g.trans hid_le) s
  refine ⟨fun d e => ?_, fun e => ⟨vs, s2, ?_⟩⟩
  · obtain ⟨v, hv, rv⟩ := r.get e
    refine ⟨⟨vs, v, s2, hv⟩, fun x H' y => ?_⟩
    obtain ⟨rfl, y⟩ := y
    have e2 : v = x := Option.some.inj (hv.symm.trans (y vs s2))
    subst e2
    exact ⟨.refl _, rv.same g⟩
  · rw [r.length]
    exact List.getElem?_eq_none_iff.mp e
theorem tI_on {E : L2.St → XK} {f : D → Option (List D)} {R : It → Hp → Prop} {σ : L2.St} {H : Hp} (h : tI L P E (mOn f m) σ H R) :
    ∃ τ, StR L P H σ τ ∧ Post L P (RV L) H σ τ (m τ) (fun v H1 => ∃ d ds τ1, StR L P H1 σ τ1 ∧ Rp L (hid H1 (Hd P σ τ1)) d v ∧ f d = some ds ∧
      ∀ J H', Tr H1 (Own σ τ1) H' (Own σ τ1) → StR L P H' σ τ1 → ItR L J (fun H2 A2 => Same (hid H' (Hd P σ τ1)) (hid H2 A2)) ds → R J H') (E σ) := by
  obtain ⟨τ, R0, h⟩ := h
  refine ⟨τ, R0, ?_⟩
  revert h
  show (match (m τ).bind fun d => fun τ => Res.lift (f d) τ with | .ok ds τ' => _ | .exc c xs τ' => _ | .fail => _) → _
  cases m τ with
  | ok d τ1 =>
    intro h v H1 t1 R1 r1
    rw [Res.bind_ok] at h
    cases e : f d with
    | none => rw [e] at h; exact h.elim
    | some ds =>
      rw [e] at h
      exact ⟨d, ds, τ1, R1, r1, e, fun J H' t R' it => h J H' (t1.trans t) R' it⟩
  | exc c xs τ' => exact fun h => h
  | fail => exact fun h => h
theorem sI_list {E : L2.St → XK} {tg l : Expr} (hK : X.K = L.K) (hl : SE L P E X l m) : SI L P E X tg l (mOn asL m) :=
  PI.weak (pi_list hl) fun σ H R h => by
    obtain ⟨τ, R0, h⟩ := tI_on h
    refine ⟨τ, R0, h.imp fun v H1 ⟨d, ds, τ1, R1, r1, e, q⟩ => ?_⟩
    cases d with
    | lst xs =>
      cases e
      obtain ⟨a, vs, rfl, s, rr⟩ := Rp.lst_iff.mp r1
      rw [hK]
      exact ⟨a, rfl, ⟨vs, .inl (.inl (hid_le _ _ s))⟩, q _ H1 .refl R1 (itl_ok s rr)⟩
    | _ => cases e
theorem sI_tup {E : L2.St → XK} {tg l : Expr} (hK : X.K = L.K) (hl : SE L P E X l m) : SI L P E X tg l (mOn asT m) :=
  PI.weak (pi_tup hl) fun σ H R h => by
    obtain ⟨τ, R0, h⟩ := tI_on h
    refine ⟨τ, R0, h.imp fun v H1 ⟨d, ds, τ1, R1, r1, e, q⟩ => ?_⟩
    cases d with
    | tup xs =>
      cases e
      obtain ⟨a, vs, rfl, s, rr⟩ := Rp.tup_iff.mp r1
      rw [hK]
      exact ⟨a, rfl, ⟨vs, SqT.same hid_le s⟩, q _ H1 .refl R1 (itt_ok s rr)⟩
    | _ => cases e
/-- lo, lo + 1, .. -/
def upFrom (lo : Int) : Nat → List D
  | 0 => []
  | n + 1 => .int lo :: upFrom (lo + 1) n
theorem upFrom_get : ∀ (n : Nat) (lo : Int) (i : Nat), (upFrom lo n)[i]? = if i < n then some (.int (lo + i)) else none
  | 0, lo, i => by simp [upFrom]
  | n + 1, lo, 0 => by simp [upFrom]
  | n + 1, lo, i + 1 => by
    show (upFrom (lo + 1) n)[i]? = _
    rw [upFrom_get n (lo + 1) i]
    by_cases h : i < n
    · rw [if_pos h, if_pos (by omega)]
      congr 2
      omega
    · rw [if_neg h, if_neg (by omega)]
theorem itr_ok {lo : Int} {n : Nat} {G : Hp → (Addr → Prop) → Prop} : ItR L (Itr lo n) G (upFrom lo n) := by
  intro i H A g hA
  rw [upFrom_get]
  by_cases h : i < n
  · rw [if_pos h]
    refine ⟨fun d e => ⟨h, fun x H' y => ?_⟩, fun e => (by cases e)⟩
    obtain ⟨rfl, rfl⟩ := y
    cases e
    exact ⟨.refl _, Rp.int_iff.mpr rfl⟩
  · rw [if_neg h]
    exact ⟨fun d e => (by cases e), fun _ => (show n ≤ i by omega)⟩
def rng1 : List D → Option (List D)
  | [.int n] => if n < 16000000 ∧ n.natAbs < 2 ^ 60 then some (upFrom 0 n.toNat) else none
  | _ => none
def rng2 : List D → Option (List D)
  | [.int lo, .int hi] => if lo.natAbs < 2 ^ 60 ∧ hi.natAbs < 2 ^ 60 then some (upFrom lo (hi - lo).toNat) else none
  | _ => none
end
end Sm
set_option Elab.async false
set_option linter.all false
set_option maxRecDepth 100000
set_option maxHeartbeats 400000
/-! SmC: owned objects that change, defs and their calls, for loops, comprehensions. -/
namespace Sm
open PySem PySem.Spec PyProof.Rows L2

section
variable {L : Lay} {P : Pa} {W : WX} {X : Cx} {E : L2.St → XK}
/-- an owned object has changed -/
theorem StR.upd1 {H H' : Hp} {σ : L2.St} {τ : List Sl} {i : Nat} {a : Addr} {t' : Sl} (R : StR L P H σ τ) (ha : OwnAt σ τ i a) (keep : ∀ b o, H b = some o → b ≠ a → H' b = some o) (there : ∃ o, H' a = some o)
    (hn : t' = .un ∨ (t'.own = true ∧ (Tr H (Own σ τ) H' (Own σ (τ.set i t')) → SlR L P (hid H' (Hd P σ (τ.set i t'))) H' σ[i]? t'))) : Tr H (Own σ τ) H' (Own σ (τ.set i t')) ∧ StR L P H' σ (τ.set i t') := by
  obtain ⟨e0, t0, et0, ow0⟩ := ha
  have hi : i < τ.length := (List.getElem?_eq_some_iff.mp et0).1
  have sub : ∀ j b, OwnAt σ (τ.set i t') j b → OwnAt σ τ j b := fun j b ⟨e, t, et, ow⟩ => by
    by_cases hj : i = j
    · subst hj
      rw [e0] at e
      cases e
      exact ⟨e0, t0, et0, ow0⟩
    · rw [List.getElem?_set_ne hj] at et
      exact ⟨e, t, et, ow⟩
  have tr : Tr H (Own σ τ) H' (Own σ (τ.set i t')) := by
    refine ⟨fun b o h n => keep b o h fun z => n (by rw [z]; exact ⟨i, e0, t0, et0, ow0⟩), fun b ⟨j, q⟩ => .inl ⟨j, sub j b q⟩, fun b o h => ?_⟩
    by_cases hb : b = a
    · rw [hb]; exact there
    · exact ⟨o, keep b o h hb⟩
  refine ⟨tr, by rw [List.length_set]; exact R.len, fun j k b x y => R.inj j k b (sub j b x) (sub k b y), fun b ⟨j, q⟩ => R.dis b ⟨j, sub j b q⟩, fun b z => ?_, fun j t ht => ?_⟩
  · obtain ⟨o, q⟩ := R.bth b z
    exact tr.there b o q
  · by_cases hj : i = j
    · subst hj
      rw [List.getElem?_set_self hi] at ht
      cases ht
      rcases hn with rfl | ⟨_, q⟩
      · trivial
      · exact q tr
    · rw [List.getElem?_set_ne hj] at ht
      have q := R.sl j t ht
      have st : ∀ {d' : Sm.D} {b : Addr}, σ[j]? = some (some (.ref b)) → t.own = true → OwR L (hid H (Hd P σ τ)) H d' b → OwR L (hid H' (Hd P σ (τ.set i t'))) H' d' b := fun {d' b} e ow q => by
        obtain ⟨o, ho⟩ := q.there
        have hb : b ≠ a := fun z => hj (R.inj i j a ⟨e0, t0, et0, ow0⟩ ⟨by rw [← z]; exact e, t, ht, ow⟩)
        exact q.step (R.fz tr) (by rw [ho]; exact keep b o ho hb)
      cases t with
      | un => trivial
      | fz d' => obtain ⟨v, e2, r2⟩ := q; exact ⟨v, e2, r2.same (R.fz tr)⟩
      | ow d' => obtain ⟨b, e2, r2⟩ := q; exact ⟨b, e2, st e2 rfl r2⟩
      | le d' => obtain ⟨b, e2, r2⟩ := q; exact ⟨b, e2, st e2 rfl r2⟩
      | io k d' => obtain ⟨b, e2, e3, r2⟩ := q; exact ⟨b, e2, e3, st e2 rfl r2⟩

/-! ### defs -/
inductive RF where
  | ok (d : D) (outs : List (Option D)) | own (d : D) | exc (c : Nat) (xs : List D) | fail
def argS : Nat → List Bool → List D → List Sl
  | k, b :: io, d :: ds => (if b = true then .io k d else .fz d) :: argS (k + 1) io ds
  | _, _, _ => []
def outS : Nat → List (Option D) → List Sl
  | k, o :: os => (match o with | some d => .io k d | none => .un) :: outS (k + 1) os
  | _, [] => []
/-- what is left of an argument that is changed -/
def outE (k : Nat) (b : Bool) (t : Option Sl) : Option D :=
  match t with
  | some (.io j d) => if b = true ∧ j = k then some d else none
  | _ => none
theorem outE_some {k : Nat} {b : Bool} {t : Option Sl} {d : D} (h : outE k b t = some d) : t = some (.io k d) := by
  unfold outE at h
  split at h
  · split at h
    · rename_i e
      cases h
      rw [e.2]
    · cases h
  · cases h
def outD : Nat → List Bool → List Sl → List (Option D)
  | k, b :: io, τ => outE k b τ[k]? :: outD (k + 1) io τ
  | _, [], _ => []
def mkF (n : Nat) (io : List Bool) (b : MS) : List D → RF := fun ds =>
  if ds.length = io.length then
    match b (argS 0 io ds ++ List.replicate (n - io.length) .un) with
    | .nx τ => .ok .non (outD 0 io τ)
    | .rt d τ => .ok d (outD 0 io τ)
    | .ro d _ => .own d
    | .exc c xs _ => .exc c xs
    | _ => .fail
  else .fail
def FPost (L : Lay) (P : Pa) (H : Hp) (τ : List Sl) (r : RF) (Q : VK) (E : XK) : Prop :=
  match r with
  | .ok d outs => ∀ v H', Tr H (Own (P.args.map some) τ) H' (Own (P.args.map some) (outS 0 outs)) → StR L P H' (P.args.map some) (outS 0 outs) → Rp L (hid H' (Hd P (P.args.map some) (outS 0 outs))) d v → Q v H'
  | .own d => ∀ a H', Tr H (Own (P.args.map some) τ) (rid H' a) (fun _ => False) → OwR L (hid (rid H' a) P.B) H' d a → Q (.ref a) H'
  | .exc c xs => ∀ cls od H', Tr H (Own (P.args.map some) τ) H' (fun _ => False) → ExR L H' c xs cls od → E cls od H'
  | .fail => False
/-- a def's promise -/
def spF (L : Lay) (io : List Bool) (f : List D → RF) : Sp := fun vs H Q E => ∃ (ds : List D) (B : Addr → Prop), ds.length = io.length ∧ StR L ⟨vs, B⟩ H (vs.map some) (argS 0 io ds) ∧ FPost L ⟨vs, B⟩ H (argS 0 io ds) (f ds) Q E
theorem argS_length : ∀ (k : Nat) (io : List Bool) (ds : List D), ds.length = io.length → (argS k io ds).length = io.length
  | _, [], [], _ => rfl
  | k, b :: io, d :: ds, h => by
    show (argS (k + 1) io ds).length + 1 = io.length + 1
    rw [argS_length (k + 1) io ds (by simpa using h)]
  | _, [], _ :: _, h => by simp at h
  | _, _ :: _, [], h => by simp at h
theorem outS_length : ∀ (k : Nat) (os : List (Option D)), (outS k os).length = os.length
  | _, [] => rfl
  | k, o :: os => by
    show (outS (k + 1) os).length + 1 = os.length + 1
    rw [outS_length]
theorem outS_get : ∀ (k : Nat) (os : List (Option D)) (i : Nat), (outS k os)[i]? = (os[i]?).map fun o => match o with | some d => Sl.io (k + i) d | none => Sl.un
  | _, [], i => by simp [outS]
  | k, o :: os, 0 => by simp [outS]
  | k, o :: os, i + 1 => by
    show (outS (k + 1) os)[i]? = (os[i]?).map _
    rw [outS_get (k + 1) os i]
    have e : k + 1 + i = k + (i + 1) := by omega
    rw [e]
theorem outD_length : ∀ (k : Nat) (io : List Bool) (τ : List Sl), (outD k io τ).length = io.length
  | _, [], _ => rfl
  | k, b :: io, τ => by
    show (outD (k + 1) io τ).length + 1 = io.length + 1
    rw [outD_length]
theorem outD_get : ∀ (k : Nat) (io : List Bool) (τ : List Sl) (i : Nat) (d : D), (outD k io τ)[i]? = some (some d) → τ[k + i]? = some (.io (k + i) d)
  | _, [], _, i, d, h => by cases h
  | k, b :: io, τ, 0, d, h => by
    have h : some (outE k b τ[k]?) = some (some d) := h
    exact outE_some (Option.some.inj h)
  | k, b :: io, τ, i + 1, d, h => by
    have h : (outD (k + 1) io τ)[i]? = some (some d) := h
    have q := outD_get (k + 1) io τ i d h
    have e : k + 1 + i = k + (i + 1) := Nat.add_right_comm k 1 i
    rw [e] at q
    exact q

/-- behind a def's body: what its caller gets back -/
theorem out_ok {H H' : Hp} {σ' : L2.St} {τ' : List Sl} {io : List Bool} {vs : List V} {B A : Addr → Prop} (hl : vs.length = io.length) (t : Tr H A H' (Own σ' τ')) (R : StR L ⟨vs, B⟩ H' σ' τ') :
    Tr H A H' (Own (vs.map some) (outS 0 (outD 0 io τ'))) ∧ StR L ⟨vs, B⟩ H' (vs.map some) (outS 0 (outD 0 io τ')) ∧ Same (hid H' (Hd ⟨vs, B⟩ σ' τ')) (hid H' (Hd ⟨vs, B⟩ (vs.map some) (outS 0 (outD 0 io τ')))) := by
  have at1 : ∀ (i : Nat) (t : Sl), (outS 0 (outD 0 io τ'))[i]? = some t → t.own = true → ∃ d, t = .io i d ∧ τ'[i]? = some (.io i d) := fun i t h ow => by
    rw [outS_get] at h
    cases e : (outD 0 io τ')[i]? with
    | none => rw [e] at h; cases h
    | some o =>
      rw [e] at h
      cases o with
      | none => cases h; cases ow
      | some d =>
        have q := outD_get 0 io τ' i d e
        rw [Nat.zero_add] at q
        refine ⟨d, ?_, q⟩
        have h : some (Sl.io (0 + i) d) = some t := h
        rw [Nat.zero_add] at h
        exact (Option.some.inj h).symm
  have at2 : ∀ (i : Nat) (d : D), τ'[i]? = some (.io i d) → ∃ a, vs[i]? = some (.ref a) ∧ σ'[i]? = some (some (.ref a)) ∧ OwR L (hid H' (Hd ⟨vs, B⟩ σ' τ')) H' d a := fun i d h => by
    obtain ⟨a, e1, e2, r⟩ := R.sl i _ h
    exact ⟨a, e2, e1, r⟩
  have sub : ∀ (i : Nat) (a : Addr), OwnAt (vs.map some) (outS 0 (outD 0 io τ')) i a → OwnAt σ' τ' i a := fun i a ⟨e, t, et, ow⟩ => by
    obtain ⟨d, rfl, h⟩ := at1 i t et ow
    obtain ⟨b, e1, e2, _⟩ := at2 i d h
    rw [List.getElem?_map, e1] at e
    cases e
    exact ⟨e2, _, h, rfl⟩
  have subO : ∀ a, Own (vs.map some) (outS 0 (outD 0 io τ')) a → Own σ' τ' a := fun a ⟨i, q⟩ => ⟨i, sub i a q⟩
  have mono : Same (hid H' (Hd ⟨vs, B⟩ σ' τ')) (hid H' (Hd ⟨vs, B⟩ (vs.map some) (outS 0 (outD 0 io τ')))) := hid_mono (.refl _) fun a z => z.elim (fun q => .inl (subO a q)) .inr
  refine ⟨⟨t.keep, fun a q => t.new a (subO a q), t.there⟩, ⟨?_, fun i j a x y => R.inj i j a (sub i a x) (sub j a y), fun a q => R.dis a (subO a q), R.bth, fun i t h => ?_⟩, mono⟩
  · rw [List.length_map, outS_length, outD_length 0 io τ', hl]
  · cases ow : t.own with
    | true =>
      obtain ⟨d, rfl, h2⟩ := at1 i t h ow
      obtain ⟨a, e1, e2, r⟩ := at2 i d h2
      exact ⟨a, by rw [List.getElem?_map, e1]; rfl, e1, r.step mono rfl⟩
    | false =>
      cases t with
      | un => trivial
      | fz d =>
        rw [outS_get] at h
        cases e : (outD 0 io τ')[i]? with
        | none => rw [e] at h; cases h
        | some o => rw [e] at h; cases o <;> cases h
      | _ => cases ow
/-- the start of a def's body -/
theorem start_ok {H : Hp} {N : List Str} {io : List Bool} {vs : List V} {B : Addr → Prop} {ds : List D} (hd : ds.length = io.length) (hn : io.length ≤ N.length) (R : StR L ⟨vs, B⟩ H (vs.map some) (argS 0 io ds)) :
    StR L ⟨vs, B⟩ H (L2.start N vs) (argS 0 io ds ++ List.replicate (N.length - io.length) Sl.un) ∧ ∀ a, Own (L2.start N vs) (argS 0 io ds ++ List.replicate (N.length - io.length) Sl.un) a ↔ Own (vs.map some) (argS 0 io ds) a := by
  have hl := R.len
  rw [List.length_map, argS_length 0 io ds hd] at hl
  have la := argS_length 0 io ds hd
  have get : ∀ (i : Nat) (t : Sl), (argS 0 io ds ++ List.replicate (N.length - io.length) Sl.un)[i]? = some t → (t = .un) ∨ ((argS 0 io ds)[i]? = some t ∧ (L2.start N vs)[i]? = (vs.map some)[i]?) := fun i t h => by
    by_cases hi : i < io.length
    · rw [List.getElem?_append_left (by rw [la]; exact hi)] at h
      refine .inr ⟨h, ?_⟩
      unfold L2.start
      rw [List.getElem?_append_left (by rw [List.length_map, hl]; exact hi)]
    · rw [List.getElem?_append_right (by rw [la]; omega), List.getElem?_replicate] at h
      split at h
      · exact .inl (Option.some.inj h).symm
      · cases h
  have o1 : ∀ (i : Nat) (a : Addr), OwnAt (L2.start N vs) (argS 0 io ds ++ List.replicate (N.length - io.length) Sl.un) i a → OwnAt (vs.map some) (argS 0 io ds) i a := fun i a ⟨e, t, et, ow⟩ => by
    rcases get i t et with rfl | ⟨h1, h2⟩
    · cases ow
    · exact ⟨by rw [← h2]; exact e, t, h1, ow⟩
  have o2 : ∀ (i : Nat) (a : Addr), OwnAt (vs.map some) (argS 0 io ds) i a → OwnAt (L2.start N vs) (argS 0 io ds ++ List.replicate (N.length - io.length) Sl.un) i a := fun i a ⟨e, t, et, ow⟩ => by
    have hi : i < (argS 0 io ds).length := (List.getElem?_eq_some_iff.mp et).1
    have hv : i < (vs.map some).length := (List.getElem?_eq_some_iff.mp e).1
    refine ⟨?_, t, by rw [List.getElem?_append_left hi]; exact et, ow⟩
    unfold L2.start
    rw [List.getElem?_append_left hv]
    exact e
  have oo : ∀ a, Own (L2.start N vs) (argS 0 io ds ++ List.replicate (N.length - io.length) Sl.un) a ↔ Own (vs.map some) (argS 0 io ds) a := fun a => ⟨fun ⟨i, q⟩ => ⟨i, o1 i a q⟩, fun ⟨i, q⟩ => ⟨i, o2 i a q⟩⟩
  have mono : Same (hid H (Hd ⟨vs, B⟩ (vs.map some) (argS 0 io ds))) (hid H (Hd ⟨vs, B⟩ (L2.start N vs) (argS 0 io ds ++ List.replicate (N.length - io.length) Sl.un))) := hid_mono (.refl _) fun a z => z.elim (fun q => .inl ((oo a).mp q)) .inr
  refine ⟨⟨?_, fun i j a x y => R.inj i j a (o1 i a x) (o1 j a y), fun a q => R.dis a ((oo a).mp q), R.bth, fun i t h => ?_⟩, oo⟩
  · unfold L2.start
    rw [List.length_append, List.length_append, List.length_map, List.length_replicate, List.length_replicate, la, hl]
  · rcases get i t h with rfl | ⟨h1, h2⟩
    · trivial
    · have q := R.sl i t h1
      rw [h2]
      cases t with
      | un => trivial
      | fz d' => obtain ⟨v, e2, r2⟩ := q; exact ⟨v, e2, r2.same mono⟩
      | ow d' => obtain ⟨b, e2, r2⟩ := q; exact ⟨b, e2, r2.step mono rfl⟩
      | le d' => obtain ⟨b, e2, r2⟩ := q; exact ⟨b, e2, r2.step mono rfl⟩
      | io k d' => obtain ⟨b, e2, e3, r2⟩ := q; exact ⟨b, e2, e3, r2.step mono rfl⟩
abbrev Wof (E : XK) : WX := fun cls od _ H => E cls od H
/-- the context of a def's body -/
abbrev cxB (Pr : Program) (w : World) (K : PySem.W.Frag) (mg : Str → Option Value) (base : Heap) (N : List Str) (qual : Str) (sc : Scope) (f : Addr) (cdv : Value) (A : Around) (outer : List Env) (s : Shared) (H : Hp) (E : XK) : Cx := cxOf (L2.CX Pr w) Pr w K mg base N qual sc f cdv A outer s H E
theorem fn_ok {Pr : Program} {w : World} {mg : Str → Option Value} {base : Heap} {x qual : Str} {st : Stmt} {f : Addr} {fd : FuncData} {N ps : List Str} {k : Nat} {io : List Bool} {b : MS} (F : Fun L.K x qual st f fd) (S : FnScope N ps (defScope st))
    (hio : io.length = ps.length) (hN : io.length ≤ N.length)
    (body : ∀ (cdv : Value) (A : Around) (outer : List Env) (s : Shared) (H : Hp) (E : XK) (P : Pa), Room k (A.deeper (envOfC qual (defScope st) s.heap.objs.size f cdv)) →
      SSs L P (Wof E) (cxB Pr w L.K mg base N qual (defScope st) f cdv A outer s H E) (defBody st) b) : FnOk Pr w L.K mg base (L2.CX Pr w) (k + 1) f fd ps (spF L io (mkF N.length io b)) := by
  refine F.okX S (fun vs H Q E ⟨ds, B, hd, R, _⟩ => ?_) (fun cdv A outer s H vs Q E hr ⟨ds, B, hd, R, h⟩ => ⟨_, body cdv A outer s H E ⟨vs, B⟩ hr, ?_⟩)
  · have hl := R.len
    rw [List.length_map, argS_length 0 io ds hd] at hl
    rw [hl, hio]
  · have hl : vs.length = io.length := by
      have hl := R.len
      rw [List.length_map, argS_length 0 io ds hd] at hl
      exact hl
    obtain ⟨R0, oo⟩ := start_ok (N := N) hd hN R
    refine ⟨_, R0, ?_⟩
    unfold mkF at h
    rw [if_pos hd] at h
    have tr : ∀ {H' : Hp} {A' : Addr → Prop}, Tr H (Own (L2.start N vs) (argS 0 io ds ++ List.replicate (N.length - io.length) Sl.un)) H' A' → Tr H (Own (vs.map some) (argS 0 io ds)) H' A' := fun {H' A'} t =>
      ⟨fun a o e n => t.keep a o e fun z => n ((oo a).mp z), fun a q => (t.new a q).elim (fun z => .inl ((oo a).mp z)) .inr, t.there⟩
    revert h
    cases b (argS 0 io ds ++ List.replicate (N.length - io.length) Sl.un) with
    | nx τ' =>
      intro h σ' H' t R'
      obtain ⟨t2, R2, mono⟩ := out_ok hl (tr t) R'
      exact h .non H' t2 R2 (Rp.non_iff.mpr rfl)
    | rt d τ' =>
      intro h v σ' H' t R' r
      obtain ⟨t2, R2, mono⟩ := out_ok hl (tr t) R'
      exact h v H' t2 R2 (r.same mono)
    | ro d τ' =>
      intro h a σ' H' t R' r
      exact h a H' ⟨(tr t).keep, fun _ z => z.elim, (tr t).there⟩ (r.step (hid_mono (.refl _) fun b z => .inr z) rfl)
    | exc c xs τ' =>
      intro h cls od σ' H' t R' ex
      exact h cls od H' ⟨(tr t).keep, fun _ z => z.elim, (tr t).there⟩ ex
    | bk τ' => exact fun h => h.elim
    | ct τ' => exact fun h => h.elim
    | fail => exact fun h => h.elim
end
end Sm
set_option Elab.async false
set_option linter.all false
set_option maxRecDepth 100000
set_option maxHeartbeats 400000
/-! SmD: calls of defs, for loops, comprehensions. -/
namespace Sm
open PySem PySem.Spec PyProof.Rows L2

/-! ### arguments: data, or an owned slot -/
inductive Ar where
  | v (d : D) | io (i : Nat)
instance : Inhabited Ar := ⟨.v .non⟩
def Ar.Rel (L : Lay) (σ : L2.St) (F : Hp) : Ar → V → Prop
  | .v d, x => Rp L F d x
  | .io i, x => σ[i]? = some (some x)
def Ars (L : Lay) (σ : L2.St) (F : Hp) : List Ar → List V → Prop
  | [], vs => vs = []
  | a :: as, vs => ∃ x r, vs = x :: r ∧ a.Rel L σ F x ∧ Ars L σ F as r
theorem Ar.Rel.same {L : Lay} {σ : L2.St} {F F' : Hp} (e : Same F F') : ∀ {a : Ar} {x : V}, a.Rel L σ F x → a.Rel L σ F' x
  | .v _, _, h => Rp.same e h
  | .io _, _, h => h
theorem Ars.same {L : Lay} {σ : L2.St} {F F' : Hp} (e : Same F F') : ∀ {as : List Ar} {vs : List V}, Ars L σ F as vs → Ars L σ F' as vs
  | [], _, h => h
  | _ :: _, _, ⟨x, r, e1, h, t⟩ => ⟨x, r, e1, Ar.Rel.same e h, Ars.same e t⟩
theorem Ars.length {L : Lay} {σ : L2.St} {F : Hp} : ∀ {as : List Ar} {vs : List V}, Ars L σ F as vs → vs.length = as.length
  | [], _, h => by rw [show _ = [] from h]; rfl
  | _ :: _, _, ⟨x, r, e1, _, t⟩ => by rw [e1, List.length_cons, List.length_cons, Ars.length t]
theorem Ars.app {L : Lay} {σ : L2.St} {F : Hp} : ∀ {as bs : List Ar} {vs us : List V}, Ars L σ F as vs → Ars L σ F bs us → Ars L σ F (as ++ bs) (vs ++ us)
  | [], _, _, _, h, t => by rw [show _ = [] from h]; exact t
  | _ :: _, _, _, _, ⟨x, r, e1, h, t⟩, u => by rw [e1]; exact ⟨x, _, rfl, h, Ars.app t u⟩
theorem Ars.get {L : Lay} {σ : L2.St} {F : Hp} : ∀ {as : List Ar} {vs : List V} {i : Nat} {a : Ar}, Ars L σ F as vs → as[i]? = some a → ∃ x, vs[i]? = some x ∧ a.Rel L σ F x
  | [], _, _, _, _, e => by simp at e
  | _ :: _, _, 0, _, ⟨x, r, e1, h, t⟩, e => by
    rw [List.getElem?_cons_zero] at e; cases e; rw [e1]; exact ⟨x, rfl, h⟩
  | _ :: _, _, i + 1, _, ⟨x, r, e1, h, t⟩, e => by
    rw [List.getElem?_cons_succ] at e
    obtain ⟨y, h1, h2⟩ := Ars.get t e
    rw [e1]
    exact ⟨y, by rw [List.getElem?_cons_succ]; exact h1, h2⟩
theorem Rps.ars {L : Lay} {σ : L2.St} {F : Hp} : ∀ {ds : List D} {vs : List V}, Rps L F ds vs → Ars L σ F (ds.map Ar.v) vs
  | [], _, h => by unfold Rps at h; exact h
  | _ :: _, _, h => by
    unfold Rps at h
    obtain ⟨v, r, e1, q, rr⟩ := h
    exact ⟨v, r, e1, q, Rps.ars rr⟩
/-- what is to be got of an argument -/
def ownD : Option Sl → Option D
  | some (.ow d) => some d
  | some (.io _ d) => some d
  | _ => none
def Ar.get (τ : List Sl) : Ar → Option D
  | .v d => some d
  | .io i => ownD τ[i]?
def Ar.isIo : Ar → Bool
  | .v _ => false
  | .io _ => true
def Ar.ix : Ar → Option Nat
  | .v _ => none
  | .io i => some i
def getAll (τ : List Sl) : List Ar → Option (List D)
  | [] => some []
  | a :: as => (a.get τ).bind fun d => (getAll τ as).map (d :: ·)
/-- an owned slot is given back -/
def give (τ : List Sl) (i : Nat) (o : Option D) : List Sl :=
  match o, τ[i]? with
  | some d, some (.ow _) => τ.set i (.ow d)
  | some d, some (.io k _) => τ.set i (.io k d)
  | _, _ => τ.set i .un
/-- the place of the owned argument -/
def ioAt : List Ar → Option (Nat × Nat)
  | [] => none
  | .io i :: _ => some (0, i)
  | .v _ :: as => (ioAt as).map fun p => (p.1 + 1, p.2)
def noIo (as : List Ar) : Bool := as.all fun a => !a.isIo
/-- at most one argument is an owned slot -/
def oneIo : List Ar → Bool
  | [] => true
  | .io _ :: as => noIo as
  | .v _ :: as => oneIo as
/-- behind a call; p: the place of the owned argument, and its slot -/
def callB (p : Option (Nat × Nat)) (r : RF) : M D := fun τ =>
  match p with
  | none =>
    match r with
    | .ok d _ => .ok d τ
    | .exc c xs => .exc c xs τ
    | _ => .fail
  | some (k, i) =>
    match r with
    | .ok d outs => .ok d (give τ i (outs.getD k none))
    | .exc c xs => .exc c xs (τ.set i .un)
    | _ => .fail
def callR (io : List Bool) (f : List D → RF) (as : List Ar) : M D := fun τ =>
  if as.map Ar.isIo = io ∧ oneIo as = true then
    match getAll τ as with
    | none => .fail
    | some ds => callB (ioAt as) (f ds) τ
  else .fail

section
variable {L : Lay} {P : Pa} {W : WX} {X : Cx} {E : L2.St → XK} {H : Hp} {σ : L2.St} {τ : List Sl}
theorem noIo_get : ∀ {as : List Ar} {i j : Nat}, noIo as = true → as[j]? = some (.io i) → False
  | [], _, _, _, e => by simp at e
  | .v _ :: as, i, 0, h, e => by rw [List.getElem?_cons_zero] at e; cases e
  | .v _ :: as, i, j + 1, h, e => by
    rw [List.getElem?_cons_succ] at e
    exact noIo_get (as := as) (by simpa [noIo, Ar.isIo] using h) e
  | .io _ :: as, i, j, h, e => by simp [noIo, Ar.isIo] at h
theorem ioAt_none : ∀ {as : List Ar}, ioAt as = none → noIo as = true
  | [], _ => rfl
  | .io _ :: _, h => by cases h
  | .v _ :: as, h => by
    have h2 : ioAt as = none := by
      cases e : ioAt as with
      | none => rfl
      | some p => simp [ioAt, e] at h
    have := ioAt_none h2
    simpa [noIo, Ar.isIo] using this
theorem ioAt_some : ∀ {as : List Ar} {k i : Nat}, ioAt as = some (k, i) → oneIo as = true → as[k]? = some (.io i) ∧ ∀ j i', as[j]? = some (.io i') → j = k ∧ i' = i
  | [], _, _, h, _ => by cases h
  | .io i0 :: as, k, i, h, o => by
    cases h
    refine ⟨rfl, fun j i' e => ?_⟩
    cases j with
    | zero => rw [List.getElem?_cons_zero] at e; cases e; exact ⟨rfl, rfl⟩
    | succ j => rw [List.getElem?_cons_succ] at e; exact (noIo_get (as := as) o e).elim
  | .v d :: as, k, i, h, o => by
    cases e : ioAt as with
    | none => simp [ioAt, e] at h
    | some p =>
      obtain ⟨k0, i0⟩ := p
      have h : (k0 + 1, i0) = (k, i) := by simpa [ioAt, e] using h
      cases h
      obtain ⟨h1, h2⟩ := ioAt_some (as := as) e o
      refine ⟨by rw [List.getElem?_cons_succ]; exact h1, fun j i' e' => ?_⟩
      cases j with
      | zero => rw [List.getElem?_cons_zero] at e'; cases e'
      | succ j =>
        rw [List.getElem?_cons_succ] at e'
        obtain ⟨q1, q2⟩ := h2 j i' e'
        exact ⟨by rw [q1], q2⟩
theorem getAll_length : ∀ {as : List Ar} {ds : List D}, getAll τ as = some ds → ds.length = as.length
  | [], _, h => by cases h; rfl
  | a :: as, ds, h => by
    obtain ⟨d, e1, h⟩ := Option.bind_eq_some_iff.mp h
    obtain ⟨r, e2, rfl⟩ := Option.map_eq_some_iff.mp h
    rw [List.length_cons, List.length_cons, getAll_length e2]
theorem getAll_get : ∀ {as : List Ar} {ds : List D} {j : Nat} {a : Ar}, getAll τ as = some ds → as[j]? = some a → ∃ d, ds[j]? = some d ∧ a.get τ = some d
  | [], _, _, _, _, e => by simp at e
  | a :: as, ds, j, b, h, e => by
    obtain ⟨d, e1, h⟩ := Option.bind_eq_some_iff.mp h
    obtain ⟨r, e2, rfl⟩ := Option.map_eq_some_iff.mp h
    cases j with
    | zero => rw [List.getElem?_cons_zero] at e; cases e; exact ⟨d, rfl, e1⟩
    | succ j =>
      rw [List.getElem?_cons_succ] at e
      obtain ⟨d', h1, h2⟩ := getAll_get e2 e
      exact ⟨d', by rw [List.getElem?_cons_succ]; exact h1, h2⟩
theorem argS_get : ∀ (k : Nat) (io : List Bool) (ds : List D) (j : Nat) (t : Sl), (argS k io ds)[j]? = some t → ∃ b d, io[j]? = some b ∧ ds[j]? = some d ∧ t = if b = true then .io (k + j) d else .fz d
  | _, [], ds, j, t, h => by simp [argS] at h
  | _, _ :: _, [], j, t, h => by simp [argS] at h
  | k, b :: io, d :: ds, 0, t, h => by
    have h : some (if b = true then Sl.io k d else Sl.fz d) = some t := h
    exact ⟨b, d, rfl, rfl, (Option.some.inj h).symm⟩
  | k, b :: io, d :: ds, j + 1, t, h => by
    have h : (argS (k + 1) io ds)[j]? = some t := h
    obtain ⟨b', d', h1, h2, h3⟩ := argS_get (k + 1) io ds j t h
    refine ⟨b', d', by rw [List.getElem?_cons_succ]; exact h1, by rw [List.getElem?_cons_succ]; exact h2, ?_⟩
    rw [h3, Nat.add_right_comm k 1 j]
    rfl
theorem io_get {as : List Ar} {io : List Bool} {j : Nat} {b : Bool} (h : as.map Ar.isIo = io) (e : io[j]? = some b) : ∃ a, as[j]? = some a ∧ a.isIo = b := by
  rw [← h, List.getElem?_map] at e
  cases q : as[j]? with
  | none => rw [q] at e; cases e
  | some a => rw [q] at e; exact ⟨a, rfl, Option.some.inj e⟩

def Post0 (L : Lay) (P : Pa) (H : Hp) (σ : L2.St) (τ : List Sl) (r : RF) (Q : VK) (E : XK) : Prop :=
  match r with
  | .ok d _ => ∀ v H', Tr H (Own σ τ) H' (Own σ τ) → StR L P H' σ τ → Rp L (hid H' (Hd P σ τ)) d v → Q v H'
  | .own d => ∀ a H', Tr H (Own σ τ) (rid H' a) (Own σ τ) → StR L P (rid H' a) σ τ → OwR L (hid (rid H' a) (Hd P σ τ)) H' d a → Q (.ref a) H'
  | .exc c xs => ∀ cls od H', Tr H (Own σ τ) H' (Own σ τ) → StR L P H' σ τ → ExR L H' c xs cls od → E cls od H'
  | .fail => False
def Post1 (L : Lay) (P : Pa) (H : Hp) (σ : L2.St) (τ : List Sl) (k i : Nat) (r : RF) (Q : VK) (E : XK) : Prop :=
  match r with
  | .ok d outs => ∀ v H', Tr H (Own σ τ) H' (Own σ (give τ i (outs.getD k none))) → StR L P H' σ (give τ i (outs.getD k none)) → Rp L (hid H' (Hd P σ (give τ i (outs.getD k none)))) d v → Q v H'
  | .exc c xs => ∀ cls od H', Tr H (Own σ τ) H' (Own σ (τ.set i .un)) → StR L P H' σ (τ.set i .un) → ExR L H' c xs cls od → E cls od H'
  | _ => False
/-- a call, without an owned argument -/
theorem call_0 {io : List Bool} {f : List D → RF} {as : List Ar} {ds : List D} {vs : List V} {Q : VK} (R : StR L P H σ τ) (ra : Ars L σ (hid H (Hd P σ τ)) as vs) (hio : as.map Ar.isIo = io) (hn : noIo as = true) (hg : getAll τ as = some ds)
    (h : Post0 L P H σ τ (f ds) Q (E σ)) : spF L io f vs H Q (E σ) := by
  have hl : ds.length = io.length := by rw [getAll_length hg, ← hio, List.length_map]
  have at0 : ∀ (i : Nat) (t : Sl), (argS 0 io ds)[i]? = some t → ∃ d x, t = .fz d ∧ vs[i]? = some x ∧ Rp L (hid H (Hd P σ τ)) d x := fun i t e => by
    obtain ⟨b, d, e1, e2, e3⟩ := argS_get 0 io ds i t e
    obtain ⟨a, ea, eb⟩ := io_get hio e1
    cases a with
    | io j => exact (noIo_get hn ea).elim
    | v d' =>
      have eb : false = b := eb
      subst eb
      obtain ⟨d'', h1, h2⟩ := getAll_get hg ea
      rw [e2] at h1; cases h1
      have h2 : some d' = some d := h2
      cases h2
      obtain ⟨x, hx, rx⟩ := ra.get ea
      exact ⟨_, x, e3, hx, rx⟩
  have no : ∀ (i : Nat) (a : Addr), ¬ OwnAt (vs.map some) (argS 0 io ds) i a := fun i a ⟨_, t, et, ow⟩ => by
    obtain ⟨d, x, rfl, _⟩ := at0 i t et
    cases ow
  have noO : ∀ (a : Addr), ¬ Own (vs.map some) (argS 0 io ds) a := fun a ⟨i, q⟩ => no i a q
  have hle : ∀ {A' : Addr → Prop} {H' : Hp}, Tr H (Own (vs.map some) (argS 0 io ds)) H' A' → Same H H' := fun t a o e => t.keep a o e (noO a)
  refine ⟨ds, Hd P σ τ, hl, ⟨by rw [List.length_map, ra.length, argS_length 0 io ds hl, ← hio, List.length_map], fun i j a x _ => (no i a x).elim, fun a q => (noO a q).elim, fun a q => R.hd_there q, fun i t e => ?_⟩, ?_⟩
  · obtain ⟨d, x, rfl, hx, rx⟩ := at0 i t e
    exact ⟨x, by rw [List.getElem?_map, hx]; rfl, rx.same (hid_mono (.refl _) fun a z => z.elim (fun q => (noO a q).elim) id)⟩
  · revert h
    cases f ds with
    | ok d outs =>
      intro h v H' t R' r
      have s := hle t
      refine h v H' (.of s) (R.same s) (r.same (hid_mono (.refl _) fun a z => .inr z))
    | own d =>
      intro h a H' t r
      have s := hle t
      exact h a H' (.of s) (R.same s) r
    | exc c xs =>
      intro h cls od H' t ex
      have s := hle t
      exact h cls od H' (.of s) (R.same s) ex
    | fail => exact fun h => h
theorem ownD_at (R : StR L P H σ τ) {i : Nat} {d : D} (h : ownD τ[i]? = some d) : ∃ a, OwnAt σ τ i a ∧ OwR L (hid H (Hd P σ τ)) H d a := by
  cases e : τ[i]? with
  | none => rw [e] at h; cases h
  | some t =>
    have q := R.sl i t e
    rw [e] at h
    cases t with
    | ow d' =>
      have h : some d' = some d := h
      cases h
      obtain ⟨a, e1, r⟩ := q
      exact ⟨a, ⟨e1, _, e, rfl⟩, r⟩
    | io k d' =>
      have h : some d' = some d := h
      cases h
      obtain ⟨a, e1, _, r⟩ := q
      exact ⟨a, ⟨e1, _, e, rfl⟩, r⟩
    | _ => cases h
/-- a call, with one owned argument -/
theorem call_1 {io : List Bool} {f : List D → RF} {as : List Ar} {ds : List D} {vs : List V} {Q : VK} {k i : Nat} (R : StR L P H σ τ) (ra : Ars L σ (hid H (Hd P σ τ)) as vs) (hio : as.map Ar.isIo = io) (h1 : oneIo as = true) (hk : ioAt as = some (k, i)) (hg : getAll τ as = some ds)
    (h : Post1 L P H σ τ k i (f ds) Q (E σ)) : spF L io f vs H Q (E σ) := by
  have hl : ds.length = io.length := by rw [getAll_length hg, ← hio, List.length_map]
  obtain ⟨hk1, hk2⟩ := ioAt_some hk h1
  obtain ⟨dk, ek, gk⟩ := getAll_get hg hk1
  obtain ⟨a, oa, rw0⟩ := ownD_at R (show ownD τ[i]? = some dk from gk)
  obtain ⟨xk, hxk, rxk⟩ := ra.get hk1
  have exk : xk = .ref a := by
    have rxk : σ[i]? = some (some xk) := rxk
    rw [oa.1] at rxk
    cases rxk; rfl
  subst exk
  have iok : io[k]? = some true := by rw [← hio, List.getElem?_map, hk1]; rfl
  have at0 : ∀ (j : Nat) (t : Sl), (argS 0 io ds)[j]? = some t → (j = k ∧ t = .io k dk) ∨ ∃ d x, t = .fz d ∧ vs[j]? = some x ∧ Rp L (hid H (Hd P σ τ)) d x := fun j t e => by
    obtain ⟨b, d, e1, e2, e3⟩ := argS_get 0 io ds j t e
    obtain ⟨ar, ea, eb⟩ := io_get hio e1
    cases ar with
    | io i' =>
      obtain ⟨q1, q2⟩ := hk2 j i' ea
      subst q1
      have eb : true = b := eb
      subst eb
      rw [e2] at ek; cases ek
      refine .inl ⟨rfl, ?_⟩
      rw [e3, Nat.zero_add]
      rfl
    | v d' =>
      have eb : false = b := eb
      subst eb
      obtain ⟨d'', h1, h2⟩ := getAll_get hg ea
      rw [e2] at h1; cases h1
      have h2 : some d' = some d := h2
      cases h2
      obtain ⟨x, hx, rx⟩ := ra.get ea
      exact .inr ⟨_, x, e3, hx, rx⟩
  have ow1 : ∀ (j : Nat) (b : Addr), OwnAt (vs.map some) (argS 0 io ds) j b → j = k ∧ b = a := fun j b ⟨e, t, et, ow⟩ => by
    rcases at0 j t et with ⟨rfl, _⟩ | ⟨d, x, rfl, _⟩
    · rw [List.getElem?_map, hxk] at e
      cases e
      exact ⟨rfl, rfl⟩
    · cases ow
  have B0 : ∀ b, Own (vs.map some) (argS 0 io ds) b → b = a := fun b ⟨j, q⟩ => (ow1 j b q).2
  have la : (argS 0 io ds).length = io.length := argS_length 0 io ds hl
  have kl : k < (argS 0 io ds).length := by rw [la]; exact (List.getElem?_eq_some_iff.mp iok).1
  have there : ∃ o, H a = some o := rw0.there
  have hidE : Same (hid H (Hd P σ τ)) (hid H (Hd ⟨vs, fun b => Hd P σ τ b ∧ b ≠ a⟩ (vs.map some) (argS 0 io ds))) := hid_mono (.refl _) fun b z => by
    rcases z with q | q
    · rw [B0 b q]; exact .inl ⟨i, oa⟩
    · exact q.1
  refine ⟨ds, fun b => Hd P σ τ b ∧ b ≠ a, hl, ⟨by rw [List.length_map, ra.length, la, ← hio, List.length_map], fun j j' b x y => by rw [(ow1 j b x).1, (ow1 j' b y).1], fun b q z => z.2 (B0 b q), fun b q => R.hd_there q.1, fun j t e => ?_⟩, ?_⟩
  · rcases at0 j t e with ⟨rfl, rfl⟩ | ⟨d, x, rfl, hx, rx⟩
    · exact ⟨a, by rw [List.getElem?_map, hxk]; rfl, hxk, rw0.step hidE rfl⟩
    · exact ⟨x, by rw [List.getElem?_map, hx]; rfl, rx.same hidE⟩
  · -- behind the call
    have lose : ∀ {H' : Hp} {A' : Addr → Prop}, Tr H (Own (vs.map some) (argS 0 io ds)) H' A' → Tr H (Own σ τ) H' (Own σ (τ.set i .un)) ∧ StR L P H' σ (τ.set i .un) := fun {H' A'} t => by
      obtain ⟨o, ho⟩ := there
      exact R.upd1 oa (fun b o e n => t.keep b o e fun z => n (B0 b z)) (t.there a o ho) (.inl rfl)
    have offI : ∀ (t' : Sl) (b : Addr), t'.own = false → OwnAt σ (τ.set i t') i b → False := fun t' b hf ⟨_, t, et, ow⟩ => by
      rw [List.getElem?_set_self (List.getElem?_eq_some_iff.mp oa.2.choose_spec.1).1] at et
      cases et
      rw [hf] at ow; cases ow
    revert h
    cases f ds with
    | ok d outs =>
      intro h
      dsimp only [Post1] at h
      intro v H' t R' r
      have keep : ∀ b o, H b = some o → b ≠ a → H' b = some o := fun b o e n => t.keep b o e fun z => n (B0 b z)
      obtain ⟨o, ho⟩ := there
      have ath := t.there a o ho
      have subset : ∀ (t' : Sl) (b : Addr), (b ≠ a → Hd P σ (τ.set i t') b → Hd P σ τ b) := fun t' b n z => by
        rcases z with ⟨j, q⟩ | z
        · refine .inl ⟨j, ?_⟩
          obtain ⟨e, t, et, ow⟩ := q
          by_cases hj : i = j
          · subst hj
            rw [oa.1] at e
            exact absurd (by cases e; rfl) n
          · rw [List.getElem?_set_ne hj] at et
            exact ⟨e, t, et, ow⟩
        · exact .inr z
      -- the changed argument
      cases eo : outs.getD k none with
      | none =>
        rw [eo] at h
        have eg : give τ i none = τ.set i .un := rfl
        rw [eg] at h
        obtain ⟨t2, R2⟩ := lose t
        refine h v H' t2 R2 (r.same (hid_mono (.refl _) fun b z => .inr ⟨subset _ b ?_ z, ?_⟩)) <;>
        · intro e
          subst e
          rcases z with ⟨j, q⟩ | z
          · by_cases hj : j = i
            · subst hj
              exact offI _ _ rfl q
            · obtain ⟨e, t, et, ow⟩ := q
              rw [List.getElem?_set_ne (Ne.symm hj)] at et
              exact hj (R.inj j i _ ⟨e, t, et, ow⟩ oa)
          · exact R.dis _ ⟨i, oa⟩ z
      | some d' =>
        rw [eo] at h
        have eo2 : outs[k]? = some (some d') := by
          rw [List.getD_eq_getElem?_getD] at eo
          cases q : outs[k]? with
          | none => rw [q] at eo; cases eo
          | some o => rw [q] at eo; exact congrArg some eo
        have es : (outS 0 outs)[k]? = some (.io k d') := by rw [outS_get, eo2, Nat.zero_add]; rfl
        obtain ⟨a', e1, e2, r'⟩ := R'.sl k _ es
        have ea : a' = a := by
          have e2 : vs[k]? = some (.ref a') := e2
          rw [hxk] at e2
          cases e2; rfl
        subst ea
        have aOwn : Own (vs.map some) (outS 0 outs) a' := ⟨k, e1, _, es, rfl⟩
        -- the slot's kind
        obtain ⟨t0, et0, ow0⟩ := oa.2
        have fin : ∀ (t' : Sl), t'.own = true → (SlR L P (hid H' (Hd P σ (τ.set i t'))) H' σ[i]? t' ↔ True ∧ SlR L P (hid H' (Hd P σ (τ.set i t'))) H' σ[i]? t') := fun t' _ => ⟨fun z => ⟨trivial, z⟩, fun z => z.2⟩
        have sm : ∀ (t' : Sl), Same (hid H' (Hd ⟨vs, fun b => Hd P σ τ b ∧ b ≠ a'⟩ (vs.map some) (outS 0 outs))) (hid H' (Hd P σ (τ.set i t'))) := fun t' => hid_mono (.refl _) fun b z => by
          by_cases hb : b = a'
          · rw [hb]; exact .inl aOwn
          · exact .inr ⟨subset t' b hb z, hb⟩
        cases t0 with
        | ow d0 =>
          have eg : give τ i (some d') = τ.set i (.ow d') := by unfold give; rw [et0]
          rw [eg] at h
          obtain ⟨t2, R2⟩ := R.upd1 (t' := .ow d') oa keep ath (.inr ⟨rfl, fun _ => ⟨a', oa.1, r'.step (sm _) rfl⟩⟩)
          exact h v H' t2 R2 (r.same (sm _))
        | io k0 d0 =>
          have eg : give τ i (some d') = τ.set i (.io k0 d') := by unfold give; rw [et0]
          rw [eg] at h
          obtain ⟨a0, q1, q2, _⟩ := R.sl i _ et0
          have ea0 : a0 = a' := by rw [oa.1] at q1; cases q1; rfl
          subst ea0
          obtain ⟨t2, R2⟩ := R.upd1 (t' := .io k0 d') oa keep ath (.inr ⟨rfl, fun _ => ⟨a0, oa.1, q2, r'.step (sm _) rfl⟩⟩)
          exact h v H' t2 R2 (r.same (sm _))
        | le d0 =>
          have gk : ownD τ[i]? = some dk := gk
          rw [et0] at gk; cases gk
        | un => cases ow0
        | fz d0 => cases ow0
    | own d => exact fun h => h.elim
    | exc c xs =>
      intro h cls od H' t ex
      obtain ⟨t2, R2⟩ := lose t
      exact h cls od H' t2 R2 ex
    | fail => exact fun h => h.elim
/-- a call -/
theorem call_ok {io : List Bool} {f : List D → RF} {as : List Ar} {vs : List V} {Q : VK} (R : StR L P H σ τ) (ra : Ars L σ (hid H (Hd P σ τ)) as vs) (h : Post L P (RV L) H σ τ (callR io f as τ) Q (E σ)) : spF L io f vs H Q (E σ) := by
  unfold callR at h
  split at h
  · rename_i hc
    obtain ⟨hio, h1⟩ := hc
    cases hg : getAll τ as with
    | none => rw [hg] at h; exact h.elim
    | some ds =>
      rw [hg] at h
      have h : Post L P (RV L) H σ τ (callB (ioAt as) (f ds) τ) Q (E σ) := h
      cases hk : ioAt as with
      | none =>
        rw [hk] at h
        refine call_0 R ra hio (ioAt_none hk) hg ?_
        generalize f ds = r at h ⊢
        cases r with
        | ok d outs => exact h
        | own d => exact h.elim
        | exc c xs => exact h
        | fail => exact h.elim
      | some p =>
        obtain ⟨k, i⟩ := p
        rw [hk] at h
        refine call_1 R ra hio h1 hk hg ?_
        generalize f ds = r at h ⊢
        cases r with
        | ok d outs => exact h
        | own d => exact h.elim
        | exc c xs => exact h
        | fail => exact h.elim
  · exact h.elim
end
end Sm
set_option Elab.async false
set_option linter.all false
set_option maxRecDepth 100000
set_option maxHeartbeats 400000
/-! SmE: calls as expressions, for loops, comprehensions. -/
namespace Sm
open PySem PySem.Spec PyProof.Rows L2

section
variable {L : Lay} {P : Pa} {W : WX} {X : Cx} {E : L2.St → XK} {pos : Pos}
def tAr (L : Lay) (P : Pa) (E : L2.St → XK) (m : M (List Ar)) : TA := fun σ H Q => ∃ τ, StR L P H σ τ ∧ Post L P (fun F a v => Ars L σ F a v) H σ τ (m τ) Q (E σ)
abbrev SAr (L : Lay) (P : Pa) (E : L2.St → XK) (X : Cx) (es : List Expr) (m : M (List Ar)) : Prop := PA X es (tAr L P E m)
def aNil : M (List Ar) := fun τ => .ok [] τ
def aV (m : M D) (ms : M (List Ar)) : M (List Ar) := fun τ => (m τ).bind fun x => fun τ => (ms τ).bind fun xs => fun τ => .ok (.v x :: xs) τ
def aIo (i : Nat) (ms : M (List Ar)) : M (List Ar) := fun τ =>
  match ownD τ[i]? with
  | some _ => (ms τ).bind fun xs => fun τ => .ok (.io i :: xs) τ
  | none => .fail
variable {e : Expr} {es : List Expr} {m : M D} {ms : M (List Ar)}
theorem sAr_nil : SAr L P E X [] aNil := PA.weak pa_nil fun σ H Q ⟨τ, R, h⟩ => h [] H .refl R rfl
theorem sAr_v (ha : SE L P E X e m) (hr : SAr L P E X es ms) (hs : starEach (e :: es) X.env = (false, eval e X.env) :: starEach es X.env := by rfl) : SAr L P E X (e :: es) (aV m ms) :=
  PA.weak (pa_cons ha hr hs) fun σ H Q ⟨τ, R, h⟩ => by
    refine ⟨τ, R, (Post.split (R := RV L) h).imp fun x H1 ⟨d1, τ1, t1, R1, r1, h1⟩ => ?_⟩
    refine ⟨τ1, R1, (Post.split (R := fun F a v => Ars L σ F a v) h1).imp fun y H2 ⟨d2, τ2, t2, R2, r2, h2⟩ => ?_⟩
    exact h2 (x :: y) H2 .refl R2 ⟨x, y, rfl, r1.same (R1.fz t2), r2⟩
theorem sAr_io {x : Str} {p : Pos} (i : Nat) (hr : SAr L P E X es ms) (hN : X.N[i]? = some x := by rfl) (hv : Vis X.env.scope x := by first | exact Or.inl rfl | exact Or.inr (Or.inl rfl) | exact Or.inr (Or.inr rfl)) (hd : (x == ("__debug__" : Str)) = false := by decide)
    (hcd : (x == ("__classdict__" : Str)) = false := by decide) (hs : starEach (.Name x p :: es) X.env = (false, eval (.Name x p) X.env) :: starEach es X.env := by rfl) : SAr L P E X (.Name x p :: es) (aIo i ms) :=
  PA.weak (pa_cons (pe_var hN hv hd hcd) hr hs) fun σ H Q ⟨τ, R, h⟩ => by
    unfold aIo at h
    split at h
    · rename_i d e
      obtain ⟨a, oa, _⟩ := ownD_at R e
      refine ⟨.ref a, oa.1, τ, R, (Post.split (R := fun F a v => Ars L σ F a v) h).imp fun y H2 ⟨d2, τ2, t2, R2, r2, h2⟩ => ?_⟩
      exact h2 (.ref a :: y) H2 .refl R2 ⟨.ref a, y, rfl, oa.1, r2⟩
    · exact h.elim
/-- keywords -/
abbrev SK (L : Lay) (P : Pa) (E : L2.St → XK) (X : Cx) (kws : List Keyword) (m : M (List D)) : Prop := PK X kws (tA L P E m)
theorem PK.weak {X : Cx} {e : List Keyword} {t u : TA} (h : PK X e t) (f : ∀ σ H Q, u σ H Q → t σ H Q) : PK X e u := ⟨fun pos pins s σ H Q I q => h.run pos pins s σ H Q I (f σ H Q q)⟩
variable {nm : Option Str} {kpos : Pos} {kws : List Keyword} {mk : M (List D)}
theorem sK_nil : SK L P E X [] mNil := PK.weak pk_nil fun σ H Q ⟨τ, R, h⟩ => h [] H .refl R .nil
theorem sK_cons (ha : SE L P E X e m) (hr : SK L P E X kws mk) : SK L P E X (⟨nm, e, kpos⟩ :: kws) (mCons m mk) :=
  PK.weak (pk_cons ha hr) fun σ H Q ⟨τ, R, h⟩ => by
    refine ⟨τ, R, (Post.split (R := RV L) h).imp fun x H1 ⟨d1, τ1, t1, R1, r1, h1⟩ => ?_⟩
    refine ⟨τ1, R1, (Post.split (R := RVs L) h1).imp fun y H2 ⟨d2, τ2, t2, R2, r2, h2⟩ => ?_⟩
    exact h2 (x :: y) H2 .refl R2 (.cons (r1.same (R1.fz t2)) r2)

/-! ### binding -/
/-- n positional values, keywords named ks, defaults dws: the parameters get those at ix -/
structure Bd (L : Lay) (fd : FuncData) (ps : List Str) (n : Nat) (ks : List Str) (ix : List Nat) (dds : List D) : Prop where
  ex : ∃ (dvs : List V) (dws : List Value), Vals dvs dws ∧ (∀ F, Rps L F dds dvs) ∧
    ∀ (s : Shared) (us ws : List Value), L.K.In s.heap → us.length = n → ws.length = ks.length → BindsTo s fd ⟨us, ks.zip ws⟩ (ps.zip (ix.map fun i => (us ++ ws ++ dws).getD i Value.none))
def pick (ix : List Nat) (l : List Ar) : List Ar := ix.map fun i => l.getD i (.v .non)
theorem vals_pick {vs : List V} {us : List Value} (r : Vals vs us) : ∀ ix : List Nat, Vals (ix.map fun i => vs.getD i .non) (ix.map fun i => us.getD i Value.none)
  | [] => .nil
  | i :: ix => by
    refine .cons ?_ (vals_pick r ix)
    show RelV (vs.getD i .non) (us.getD i Value.none)
    rw [List.getD_eq_getElem?_getD, List.getD_eq_getElem?_getD]
    cases e : vs[i]? with
    | none => rw [r.none_of e]; rfl
    | some v =>
      obtain ⟨u, h1, h2⟩ := r.get e
      rw [h1]; exact h2
theorem ars_none {σ : L2.St} {F : Hp} {as : List Ar} {vs : List V} {i : Nat} (r : Ars L σ F as vs) (h : as[i]? = none) : vs[i]? = none := by
  rw [List.getElem?_eq_none_iff] at h ⊢
  rw [r.length]; exact h
theorem ars_pick {σ : L2.St} {F : Hp} {as : List Ar} {vs : List V} (r : Ars L σ F as vs) : ∀ ix : List Nat, Ars L σ F (pick ix as) (ix.map fun i => vs.getD i .non)
  | [] => rfl
  | i :: ix => by
    refine ⟨_, _, rfl, ?_, ars_pick r ix⟩
    show (as.getD i (.v .non)).Rel L σ F (vs.getD i .non)
    rw [List.getD_eq_getElem?_getD, List.getD_eq_getElem?_getD]
    cases e : as[i]? with
    | none => rw [ars_none r e]; exact (Rp.non_iff (L := L) (F := F)).mpr rfl
    | some a =>
      obtain ⟨x, h1, h2⟩ := r.get e
      rw [h1]; exact h2
def mCall (io : List Bool) (fn : List D → RF) (n k : Nat) (ix : List Nat) (dds : List D) (m : M (List Ar)) (mk : M (List D)) : M D := fun τ =>
  (m τ).bind fun as => fun τ => (mk τ).bind fun es => fun τ =>
    if as.length = n ∧ es.length = k then callR io fn (pick ix (as ++ es.map Ar.v ++ dds.map Ar.v)) τ else .fail
variable {k n : Nat} {f : Addr} {fd : FuncData} {ps ks : List Str} {io : List Bool} {fn : List D → RF} {ix : List Nat} {dds : List D} {x : Str} {p : Pos} {ma : M (List Ar)}
theorem run_call {pins : List (Addr × Obj)} {σ : L2.St} {τ : List Sl} {H : Hp} {s : Shared} {Q : VK} {us ws : List Value} {vs zs : List V} {as : List Ar} {ds : List D} (hK : X.K = L.K) (F : FnOk X.prog X.w X.K X.mg X.base (L2.CX X.prog X.w) k f fd ps (spF L io fn)) (hr : Room k X.A)
    (hb : Bd L fd ps n ks ix dds) (hx : PassesAt (L2.CX X.prog X.w) X σ (E σ)) (I : Inv X pins σ H s) (R : StR L P H σ τ) (r1 : Vals vs us) (r2 : Vals zs ws) (q1 : Ars L σ (hid H (Hd P σ τ)) as vs) (q2 : Rps L (hid H (Hd P σ τ)) ds zs)
    (h : Post L P (RV L) H σ τ (if as.length = n ∧ ds.length = ks.length then callR io fn (pick ix (as ++ ds.map Ar.v ++ dds.map Ar.v)) τ else .fail) Q (E σ)) :
    wpAny (model X.prog X.w) X.A (call (.ref f) us (ks.zip ws)) (EP X pins σ Q) X.xe s := by
  split at h
  · rename_i hl
    obtain ⟨dvs, dws, dv, dd, to⟩ := hb.ex
    have ra : Ars L σ (hid H (Hd P σ τ)) (as ++ ds.map Ar.v ++ dds.map Ar.v) (vs ++ zs ++ dvs) := (q1.app q2.ars).app (dd _).ars
    have rv : Vals (vs ++ zs ++ dvs) (us ++ ws ++ dws) := (r1.append r2).append dv
    have sp : spF L io fn (ix.map fun i => (vs ++ zs ++ dvs).getD i .non) H Q (E σ) := call_ok R (ars_pick ra ix) h
    refine wpAny_call (codeAny_mono (F.run X.A X.stack s H ⟨us, ks.zip ws⟩ _ _ Q (E σ) hr I.env0 (to s us ws (by rw [← hK]; exact I.kIn) (by rw [← r1.length, q1.length]; exact hl.1) (by rw [← r2.length, q2.length]; exact hl.2)) (vals_pick rv ix) sp) fun r s' hq => ?_)
    cases r with
    | error e => exact hx pins H s e s' I hq
    | ok fl =>
      cases fl with
      | ret u => exact I.after hq
      | next => exact False.elim hq
      | brk => exact False.elim hq
      | cont => exact False.elim hq
  · exact h.elim
/-- f(e, ..) -/
theorem sE_call (hK : X.K = L.K) (F : FnOk X.prog X.w X.K X.mg X.base (L2.CX X.prog X.w) k f fd ps (spF L io fn)) (hr : Room k X.A) (hg : Gl X x) (hm : X.mg x = some (.ref f)) (hk : PySem.W.keepIn X.K (.ref f) = true) (hb : Bd L fd ps n [] ix dds)
    (hx : ∀ σ, PassesAt (L2.CX X.prog X.w) X σ (E σ)) (ha : SAr L P E X (e :: es) ma) (hdb : (x == ("__debug__" : Str)) = false := by decide) (he : starEach (e :: es) X.env = (false, eval e X.env) :: starEach es X.env := by rfl) (hpl : (backTo pos (starEach es X.env)).any (·.1) = false := by rfl) :
    SE L P E X (.Call (.Name x p) (e :: es) [] pos) (mCall io fn n 0 ix dds ma mNil) := by
  refine ⟨fun pins s σ H Q I ⟨τ, R, h⟩ => ?_⟩
  refine wpAny_Call_Name_kw (ld_glob I hg hm ?_ hdb)
  refine PySem.W.callWith_K (h₀ := X.base) I.ok.mod.kin hk (thn (ha.run pos pins s σ H _ I ⟨τ, R, Post.split (R := fun F a v => Ars L σ F a v) h⟩) fun us s1 ⟨vs, H1, I1, r, as, τ1, t1, R1, q1, h1⟩ => ⟨I1.kIn, ?_⟩) he hpl
  exact run_call (ks := []) (ws := []) hK F hr hb (hx σ) I1 R1 r .nil q1 .nil h1
/-- f() -/
theorem sE_call0 (hK : X.K = L.K) (F : FnOk X.prog X.w X.K X.mg X.base (L2.CX X.prog X.w) k f fd ps (spF L io fn)) (hr : Room k X.A) (hg : Gl X x) (hm : X.mg x = some (.ref f)) (hk : PySem.W.keepIn X.K (.ref f) = true) (hb : Bd L fd ps 0 [] ix dds)
    (hx : ∀ σ, PassesAt (L2.CX X.prog X.w) X σ (E σ)) (hdb : (x == ("__debug__" : Str)) = false := by decide) :
    SE L P E X (.Call (.Name x p) [] [] pos) (mCall io fn 0 0 ix dds aNil mNil) := by
  refine ⟨fun pins s σ H Q I ⟨τ, R, h⟩ => ?_⟩
  refine wpAny_Call_Name_kw (ld_glob I hg hm ?_ hdb)
  exact PySem.W.callWith_K0 I.kIn hk (run_call (ks := []) (ws := []) (us := []) (as := []) hK F hr hb (hx σ) I R .nil .nil rfl .nil h)
/-- f(e, .., k = v, ..) -/
theorem sE_callK (hK : X.K = L.K) (F : FnOk X.prog X.w X.K X.mg X.base (L2.CX X.prog X.w) k f fd ps (spF L io fn)) (hr : Room k X.A) (hg : Gl X x) (hm : X.mg x = some (.ref f)) (hk : PySem.W.keepIn X.K (.ref f) = true) (hb : Bd L fd ps n ks ix dds)
    (hx : ∀ σ, PassesAt (L2.CX X.prog X.w) X σ (E σ)) (ha : SAr L P E X (e :: es) ma) (hkw : SK L P E X kws mk) (hall : (backToKw pos (keywordEach kws X.env)).all (·.1.isSome) = true := by rfl) (hks : (backToKw pos (keywordEach kws X.env)).filterMap (·.1) = ks := by rfl)
    (hdb : (x == ("__debug__" : Str)) = false := by decide) (he : starEach (e :: es) X.env = (false, eval e X.env) :: starEach es X.env := by rfl)
    (hpl : ((backTo pos (starEach (e :: es) X.env)).any (·.1) || (backToKw pos (keywordEach kws X.env)).any (·.1.isNone)) = false := by rfl) :
    SE L P E X (.Call (.Name x p) (e :: es) kws pos) (mCall io fn n ks.length ix dds ma mk) := by
  refine ⟨fun pins s σ H Q I ⟨τ, R, h⟩ => ?_⟩
  refine wpAny_Call_Name_kw (ld_glob I hg hm ?_ hdb)
  refine PySem.W.callWith_KW (h₀ := X.base) I.ok.mod.kin hk hall (thn (ha.run pos pins s σ H _ I ⟨τ, R, Post.split (R := fun F a v => Ars L σ F a v) h⟩) fun us s1 ⟨vs, H1, I1, r, as, τ1, t1, R1, q1, h1⟩ => ?_) hpl he
  refine thn (hkw.run pos pins s1 σ H1 _ I1 ⟨τ1, R1, Post.split (R := RVs L) h1⟩) fun ws s2 ⟨zs, H2, I2, rz, ds, τ2, t2, R2, q2, h2⟩ => ⟨I2.kIn, ?_⟩
  rw [hks]
  exact run_call hK F hr hb (hx σ) I2 R2 r rz (q1.same (R1.fz t2)) q2 h2
/-- f(k = v, ..) -/
theorem sE_callK0 (hK : X.K = L.K) (F : FnOk X.prog X.w X.K X.mg X.base (L2.CX X.prog X.w) k f fd ps (spF L io fn)) (hr : Room k X.A) (hg : Gl X x) (hm : X.mg x = some (.ref f)) (hk : PySem.W.keepIn X.K (.ref f) = true) (hb : Bd L fd ps 0 ks ix dds)
    (hx : ∀ σ, PassesAt (L2.CX X.prog X.w) X σ (E σ)) (hkw : SK L P E X kws mk) (hall : (backToKw pos (keywordEach kws X.env)).all (·.1.isSome) = true := by rfl) (hks : (backToKw pos (keywordEach kws X.env)).filterMap (·.1) = ks := by rfl)
    (hdb : (x == ("__debug__" : Str)) = false := by decide)
    (hpl : ((backTo pos (starEach [] X.env)).any (·.1) || (backToKw pos (keywordEach kws X.env)).any (·.1.isNone)) = false := by rfl) :
    SE L P E X (.Call (.Name x p) [] kws pos) (mCall io fn 0 ks.length ix dds aNil mk) := by
  refine ⟨fun pins s σ H Q I ⟨τ, R, h⟩ => ?_⟩
  refine wpAny_Call_Name_kw (ld_glob I hg hm ?_ hdb)
  refine PySem.W.callWith_KW0 (h₀ := X.base) I.ok.mod.kin hk hall ?_ hpl
  refine thn (hkw.run pos pins s σ H _ I ⟨τ, R, Post.split (R := RVs L) h⟩) fun ws s2 ⟨zs, H2, I2, rz, ds, τ2, t2, R2, q2, h2⟩ => ⟨I2.kIn, ?_⟩
  rw [hks]
  exact run_call (us := []) (as := []) hK F hr hb (hx σ) I2 R2 .nil rz rfl q2 h2
/-- a call that gives a new object -/
def callF (io : List Bool) (fn : List D → RF) (as : List Ar) : M D := fun τ =>
  if as.map Ar.isIo = io ∧ noIo as = true then
    match getAll τ as with
    | none => .fail
    | some ds =>
      match fn ds with
      | .own d => .ok d τ
      | .exc c xs => .exc c xs τ
      | _ => .fail
  else .fail
def mCallF (io : List Bool) (fn : List D → RF) (n : Nat) (ix : List Nat) (dds : List D) (m : M (List Ar)) : M D := fun τ =>
  (m τ).bind fun as => fun τ => if as.length = n then callF io fn (pick ix (as ++ dds.map Ar.v)) τ else .fail
theorem callF_ok {σ : L2.St} {τ : List Sl} {H : Hp} {as : List Ar} {vs : List V} {Q : VK} (R : StR L P H σ τ) (ra : Ars L σ (hid H (Hd P σ τ)) as vs) (h : PostF L P H σ τ (callF io fn as τ) Q (E σ)) : spF L io fn vs H Q (E σ) := by
  unfold callF at h
  split at h
  · rename_i hc
    obtain ⟨hio, h1⟩ := hc
    cases hg : getAll τ as with
    | none => rw [hg] at h; exact h.elim
    | some ds =>
      rw [hg] at h
      refine call_0 R ra hio h1 hg ?_
      revert h
      dsimp only
      cases fn ds with
      | ok d outs => exact fun h => h.elim
      | own d => exact fun h => h
      | exc c xs => exact fun h => h
      | fail => exact fun h => h
  · exact h.elim
theorem sF_call (hK : X.K = L.K) (F : FnOk X.prog X.w X.K X.mg X.base (L2.CX X.prog X.w) k f fd ps (spF L io fn)) (hr : Room k X.A) (hg : Gl X x) (hm : X.mg x = some (.ref f)) (hk : PySem.W.keepIn X.K (.ref f) = true) (hb : Bd L fd ps n [] ix dds)
    (hx : ∀ σ, PassesAt (L2.CX X.prog X.w) X σ (E σ)) (ha : SAr L P E X (e :: es) ma) (hdb : (x == ("__debug__" : Str)) = false := by decide) (he : starEach (e :: es) X.env = (false, eval e X.env) :: starEach es X.env := by rfl) (hpl : (backTo pos (starEach es X.env)).any (·.1) = false := by rfl) :
    SF L P E X (.Call (.Name x p) (e :: es) [] pos) (mCallF io fn n ix dds ma) := by
  refine ⟨fun pins s σ H Q I ⟨τ, R, h⟩ => ?_⟩
  refine wpAny_Call_Name_kw (ld_glob I hg hm ?_ hdb)
  have h : PostF L P H σ τ ((ma τ).bind fun as => fun τ => if as.length = n then callF io fn (pick ix (as ++ dds.map Ar.v)) τ else .fail) Q (E σ) := h
  have h2 : Post L P (fun F a v => Ars L σ F a v) H σ τ (ma τ) (fun vs H1 => ∃ as τ1, StR L P H1 σ τ1 ∧ Ars L σ (hid H1 (Hd P σ τ1)) as vs ∧ PostF L P H1 σ τ1 (if as.length = n then callF io fn (pick ix (as ++ dds.map Ar.v)) τ1 else .fail) Q (E σ)) (E σ) := by
    revert h
    cases ma τ with
    | ok as τ1 =>
      intro h vs H1 t1 R1 q1
      refine ⟨as, τ1, R1, q1, ?_⟩
      rw [Res.bind_ok] at h
      revert h
      cases (if as.length = n then callF io fn (pick ix (as ++ dds.map Ar.v)) τ1 else .fail) with
      | ok d τ2 => exact fun h a H' t R' o => h a H' (t1.trans t) R' o
      | exc c xs τ2 => exact fun h cls od H' t R' ex => h cls od H' (t1.trans t) R' ex
      | fail => exact fun h => h
    | exc c xs τ1 => exact fun h => h
    | fail => exact fun h => h
  refine PySem.W.callWith_K (h₀ := X.base) I.ok.mod.kin hk (thn (ha.run pos pins s σ H _ I ⟨τ, R, h2⟩) fun us s1 ⟨vs, H1, I1, r, as, τ1, R1, q1, h1⟩ => ⟨I1.kIn, ?_⟩) he hpl
  split at h1
  · rename_i hl
    obtain ⟨dvs, dws, dv, dd, to⟩ := hb.ex
    have ra : Ars L σ (hid H1 (Hd P σ τ1)) (as ++ dds.map Ar.v) (vs ++ dvs) := q1.app (dd _).ars
    have rv : Vals (vs ++ dvs) (us ++ dws) := r.append dv
    have sp := callF_ok R1 (ars_pick ra ix) h1
    have b := to s1 us [] (by rw [← hK]; exact I1.kIn) (by rw [← r.length, q1.length]; exact hl) rfl
    rw [List.append_nil] at b
    refine wpAny_call (codeAny_mono (F.run X.A X.stack s1 H1 ⟨us, []⟩ _ _ Q (E σ) hr I1.env0 b (vals_pick rv ix) sp) fun r s' hq => ?_)
    cases r with
    | error e => exact hx σ pins H1 s1 e s' I1 hq
    | ok fl =>
      cases fl with
      | ret u => exact I1.after hq
      | next => exact False.elim hq
      | brk => exact False.elim hq
      | cont => exact False.elim hq
  · exact h1.elim

/-! ### for -/
def mLoop (g : MG) (b : MS) : List D → MS
  | [] => fun τ => .nx τ
  | d :: ds => fun τ =>
    match g d τ with
    | none => .fail
    | some τ =>
      match b τ with
      | .nx τ => mLoop g b ds τ
      | .ct τ => mLoop g b ds τ
      | .bk τ => .nx τ
      | r => r
def mFor (mi : M (List D)) (g : MG) (b : MS) : MS := fun τ => (mi τ).st fun ds τ => mLoop g b ds τ
theorem sS_for {tg iter : Expr} {body : List Stmt} {mi : M (List D)} {g : MG} {b : MS} (hp : PassesOwn (model X.prog X.w) X.A X.env X.xe) (hc : X.calm = true) (hi : SI L P (WE W) X tg iter mi) (hg : SG L P X tg g) (hb : SSs L P W X body b)
    (hs : ∀ x, foldedSetIterable iter X.env x = pure x := by intro _; rfl) : SS L P W X (.For tg iter body [] pos) (mFor mi g b) :=
  PS.weak (ps_for hp hc hi hg hb hs) fun D σ H ⟨τ, R, h⟩ => by
    refine ⟨τ, R, ?_⟩
    have h : SPost L P W H σ τ ((mi τ).st fun ds τ => mLoop g b ds τ) D := h
    revert h
    cases mi τ with
    | exc c xs τ' => exact fun h cls od H' x y z => h cls od σ H' x y z
    | fail => exact fun h => h
    | ok ds τ1 =>
      intro h J H1 t1 R1 it
      have h : SPost L P W H σ τ (mLoop g b ds τ1) D := h
      refine ⟨fun i k σ2 H2 => i + k = ds.length ∧ ∃ τ2, Tr H1 (Own σ τ1) H2 (Own σ2 τ2) ∧ StR L P H2 σ2 τ2 ∧ SPost L P W H2 σ2 τ2 (mLoop g b (ds.drop i) τ2) D, ⟨ds.length, Nat.zero_add _, τ1, .refl, R1, SPost.from h t1⟩, ?_⟩
      rintro i k σ2 H2 ⟨hik, τ2, t2, R2, h2⟩
      have gg : Same (hid H1 (Hd P σ τ1)) (hid H2 (Hd P σ2 τ2)) := R1.fz t2
      obtain ⟨go, stop⟩ := it i H2 (Hd P σ2 τ2) gg fun p hp => R2.hd_there hp
      cases e : ds[i]? with
      | none =>
        refine .inl ⟨stop e, ?_⟩
        rw [List.drop_eq_nil_of_le (List.getElem?_eq_none_iff.mp e)] at h2
        exact h2 σ2 H2 .refl R2
      | some d =>
        obtain ⟨g1, g2⟩ := go d e
        have hi : i < ds.length := (List.getElem?_eq_some_iff.mp e).1
        have ed : ds.drop i = d :: ds.drop (i + 1) := by
          rw [List.drop_eq_getElem_cons hi]
          rw [List.getElem?_eq_getElem hi] at e
          cases e; rfl
        rw [ed] at h2
        refine .inr ⟨g1, fun σ3 H3 => ∃ τ3, Tr H1 (Own σ τ1) H3 (Own σ3 τ3) ∧ StR L P H3 σ3 τ3 ∧ SPost L P W H3 σ3 τ3 (mLoop g b (ds.drop (i + 1)) τ3) D, fun σ3 H3 ⟨τ3, q1, q2, q3⟩ => ⟨k - 1, by omega, by omega, τ3, q1, q2, q3⟩, fun x H3 y => ?_⟩
        obtain ⟨sm, rx⟩ := g2 x H3 y
        unfold mLoop at h2
        cases eg : g d τ2 with
        | none => rw [eg] at h2; exact h2.elim
        | some τ4 =>
          rw [eg] at h2
          refine ⟨τ2, d, τ4, R2.same sm, rx, eg, fun σ4 H4 t4 R4 => ⟨τ4, R4, ?_⟩⟩
          have t24 : Tr H2 (Own σ2 τ2) H4 (Own σ4 τ4) := (Tr.of sm).trans t4
          have t14 := t2.trans t24
          revert h2
          dsimp only
          cases b τ4 with
          | nx τ5 => exact fun h2 σ5 H5 t5 R5 => ⟨τ5, t14.trans t5, R5, SPost.from h2 (t24.trans t5)⟩
          | ct τ5 => exact fun h2 σ5 H5 t5 R5 => ⟨τ5, t14.trans t5, R5, SPost.from h2 (t24.trans t5)⟩
          | bk τ5 => exact fun h2 σ5 H5 t5 R5 => h2 σ5 H5 (t24.trans t5) R5
          | rt d τ5 => exact fun h2 v σ5 H5 t5 R5 r => h2 v σ5 H5 (t24.trans t5) R5 r
          | ro d τ5 => exact fun h2 v σ5 H5 t5 R5 r => h2 v σ5 H5 (t24.trans t5) R5 r
          | exc c xs τ5 => exact fun h2 cls od σ5 H5 t5 R5 r => h2 cls od σ5 H5 (t24.trans t5) R5 r
          | fail => exact fun h2 => h2
end
end Sm
set_option Elab.async false
set_option linter.all false
set_option maxRecDepth 100000
set_option maxHeartbeats 400000
/-! SmF: operators, comparisons. -/
namespace Sm
open PySem PySem.Spec PyProof.Rows L2

/-! ### arithmetic -/
def mulOk (i j : Int) : Bool := decide (i.natAbs < 2 ^ 63) || decide (j.natAbs < 2 ^ 63) || (decide (i.natAbs < 2 ^ 20000) && decide (j.natAbs < 2 ^ 20000))
def dAdd : D → D → Option D
  | .int i, .int j => some (.int (i + j))
  | .str a, .str b => if a.length + b.length ≤ 16000000 then some (.str (a ++ b)) else none
  | .lst xs, .lst ys => (small (xs ++ ys)).map .lst
  | .tup xs, .tup ys => (small (xs ++ ys)).map .tup
  | _, _ => none
def dSub : D → D → Option D
  | .int i, .int j => some (.int (i - j))
  | _, _ => none
def dMul : D → D → Option D
  | .int i, .int j => if mulOk i j = true then some (.int (i * j)) else none
  | .lst xs, .int k => if k.natAbs < 2 ^ 62 ∧ xs.length * k.toNat ≤ 16000000 then some (.lst (List.replicate k.toNat xs).flatten) else none
  | _, _ => none
def dFdiv : D → D → Option D
  | .int i, .int j => if 0 < j ∧ j.natAbs < 2 ^ 8000 then some (.int (i / j)) else none
  | _, _ => none
def dMod : D → D → Option D
  | .int i, .int j => if 0 < j then some (.int (i % j)) else none
  | _, _ => none
def dPow : D → D → Option D
  | .int i, .int j => if 0 ≤ j ∧ j ≤ 1000000 ∧ i.natAbs < 2 ^ 64 then some (.int (i ^ j.toNat)) else none
  | _, _ => none
def dNeg : D → Option D
  | .int i => some (.int (-i))
  | _ => none
section
variable {L : Lay} {X : Cx}
theorem Bp.int {F H : Hp} {i : Int} {v : V} (h : Bp L F H (.int i) v) : v = .int i := (Rp.int_iff (L := L) (F := F)).mp h
theorem Bp.bl {F H : Hp} {i : Bool} {v : V} (h : Bp L F H (.bl i) v) : v = .bl i := (Rp.bl_iff (L := L) (F := F)).mp h
theorem Bp.str {F H : Hp} {i : Str} {v : V} (h : Bp L F H (.str i) v) : v = .str i := (Rp.str_iff (L := L) (F := F)).mp h
theorem Bp.non {F H : Hp} {v : V} (h : Bp L F H .non v) : v = .non := (Rp.non_iff (L := L) (F := F)).mp h
theorem Bp.tup {F H : Hp} {ds : List D} {v : V} (h : Bp L F H (.tup ds) v) : ∃ a vs, v = .ref a ∧ SqT L.K F a vs ∧ Rps L F ds vs := (Rp.tup_iff (L := L) (F := F)).mp h
theorem Bp.scr {F H : Hp} {ds : List D} {v : V} (h : Bp L F H (.scr ds) v) : ∃ a vs, v = .ref a ∧ SqL L.K F a vs ∧ Rps L F ds vs := (Rp.scr_iff (L := L) (F := F)).mp h
theorem Bp.lst {F H : Hp} {ds : List D} {v : V} (h : Bp L F H (.lst ds) v) : ∃ a vs, v = .ref a ∧ H a = some (.lst vs) ∧ Rps L F ds vs := h
theorem small16 {n : Nat} (h : n ≤ 16000000) : n ≤ sizeLine := Nat.le_trans h (by decide)
theorem Rp.mk_int {F : Hp} {i : Int} : Rp L F (.int i) (.int i) := Rp.int_iff.mpr rfl
theorem Rp.mk_bl {F : Hp} {i : Bool} : Rp L F (.bl i) (.bl i) := Rp.bl_iff.mpr rfl
theorem Rp.mk_str {F : Hp} {i : Str} : Rp L F (.str i) (.str i) := Rp.str_iff.mpr rfl
theorem Rp.mk_non {F : Hp} : Rp L F .non .non := Rp.non_iff.mpr rfl

abbrev rAddA (K : PySem.W.Frag) : R2 := fun x y H Q => rI0 (fun i j => .int (i + j)) x y H Q ∨ (∃ i j, x = .str i ∧ y = .str j ∧ i.length + j.length ≤ sizeLine ∧ Q (.str (i ++ j)) H) ∨ rCat x y H Q ∨ rCatA K x y H Q
theorem or_add : OpR X (binaryOp .Add) (rAddA X.K) := op_add.or (op_add_str.or (op_cat.or op_catA))
theorem os_add : OpS L (rAddA L.K) dAdd := by
  intro a b d x y H A Q e ra rb hA q
  cases a with
  | int i =>
    cases b with
    | int j =>
      cases e
      exact .inl ⟨i, j, ra.int, rb.int, q _ H (.refl _) .mk_int⟩
    | _ => cases e
  | str i =>
    cases b with
    | str j =>
      have e : (if i.length + j.length ≤ 16000000 then some (D.str (i ++ j)) else none) = some d := e
      split at e
      · rename_i hz
        cases e
        exact .inr (.inl ⟨i, j, ra.str, rb.str, small16 hz, q _ H (.refl _) .mk_str⟩)
      · cases e
    | _ => cases e
  | lst xs =>
    cases b with
    | lst ys =>
      obtain ⟨zs, e1, rfl⟩ := Option.map_eq_some_iff.mp e
      obtain ⟨rfl, hz⟩ := small_some e1
      obtain ⟨p, vs, rfl, hp, r1⟩ := ra.lst
      obtain ⟨p', vs', rfl, hp', r2⟩ := rb.lst
      refine .inr (.inr (.inl ⟨p, p', vs, vs', rfl, rfl, hp, hp', ?_, fun n hn => q _ _ (same_upd hn) (new_lst hA hn (r1.app r2))⟩))
      rw [List.length_append] at hz
      rw [r1.length, r2.length]; exact hz
    | _ => cases e
  | tup xs =>
    cases b with
    | tup ys =>
      obtain ⟨zs, e1, rfl⟩ := Option.map_eq_some_iff.mp e
      obtain ⟨rfl, hz⟩ := small_some e1
      obtain ⟨p, vs, rfl, hp, r1⟩ := ra.tup
      obtain ⟨p', vs', rfl, hp', r2⟩ := rb.tup
      have l1 := r1.length
      have l2 := r2.length
      rw [List.length_append] at hz
      have nil : ∀ {ds : List D} {us : List V}, us.length = ds.length → us = [] → ds = [] := fun h e => by subst e; exact List.length_eq_zero_iff.mp h.symm
      refine .inr (.inr (.inr ⟨p, p', vs, vs', rfl, rfl, SqT.same hid_le hp, SqT.same hid_le hp', by omega, fun e => ?_, fun _ e => ?_, fun _ _ n hn => q _ _ (same_upd hn) (new_tup hA hn (r1.app r2))⟩))
      · rw [nil l1 e, List.nil_append] at q
        exact q _ H (.refl _) (Rp.tup_iff.mpr ⟨p', vs', rfl, hp', r2⟩)
      · rw [nil l2 e, List.append_nil] at q
        exact q _ H (.refl _) (Rp.tup_iff.mpr ⟨p, vs, rfl, hp, r1⟩)
    | _ => cases e
  | _ => cases e
theorem os_sub : OpS L (rI0 fun i j => .int (i - j)) dSub := by
  intro a b d x y H A Q e ra rb hA q
  cases a with
  | int i =>
    cases b with
    | int j =>
      cases e
      exact ⟨i, j, ra.int, rb.int, q _ H (.refl _) .mk_int⟩
    | _ => cases e
  | _ => cases e
def CMulA (i j : Int) : Prop := mulOk i j = true
theorem natAbs_lt63 {i : Int} (h : i.natAbs < 2 ^ 63) : -(2 ^ 64) < i ∧ i < 2 ^ 64 := by omega
theorem op_mulA : OpR X (binaryOp .Mult) (rI CMulA fun i j => .int (i * j)) := opI fun i j _ _ _ _ _ hc q => mul_int q (by
  have hc : (decide (i.natAbs < 2 ^ 63) || decide (j.natAbs < 2 ^ 63) || (decide (i.natAbs < 2 ^ 20000) && decide (j.natAbs < 2 ^ 20000))) = true := hc
  rw [Bool.or_eq_true, Bool.or_eq_true, Bool.and_eq_true] at hc
  rcases hc with (h | h) | ⟨h1, h2⟩
  · exact CMul.ok (.inl (natAbs_lt63 (of_decide_eq_true h)))
  · exact CMul.ok (.inr (natAbs_lt63 (of_decide_eq_true h)))
  · exact CMulW.ok (wide_mul (of_decide_eq_true h1) (of_decide_eq_true h2) (by decide) (by decide) (by decide)))
abbrev rMulA : R2 := fun x y H Q => rI CMulA (fun i j => .int (i * j)) x y H Q ∨ rRep x y H Q
theorem or_mul : OpR X (binaryOp .Mult) rMulA := op_mulA.or op_rep
theorem os_mul : OpS L rMulA dMul := by
  intro a b d x y H A Q e ra rb hA q
  cases a with
  | int i =>
    cases b with
    | int j =>
      have e : (if mulOk i j = true then some (D.int (i * j)) else none) = some d := e
      split at e
      · rename_i hz
        cases e
        exact .inl ⟨i, j, ra.int, rb.int, hz, q _ H (.refl _) .mk_int⟩
      · cases e
    | _ => cases e
  | lst xs =>
    cases b with
    | int k =>
      have e : (if k.natAbs < 2 ^ 62 ∧ xs.length * k.toNat ≤ 16000000 then some (D.lst (List.replicate k.toNat xs).flatten) else none) = some d := e
      split at e
      · rename_i hz
        cases e
        obtain ⟨p, vs, rfl, hp, r1⟩ := ra.lst
        refine .inr ⟨p, k, vs, rfl, rb.int, hp, by omega, by omega, by rw [r1.length]; exact small16 hz.2, fun n hn => q _ _ (same_upd hn) (new_lst hA hn (r1.rep _))⟩
      · cases e
    | _ => cases e
  | _ => cases e
theorem os_fdiv : OpS L (rI CDivW fun i j => .int (i / j)) dFdiv := by
  intro a b d x y H A Q e ra rb hA q
  cases a with
  | int i =>
    cases b with
    | int j =>
      have e : (if 0 < j ∧ j.natAbs < 2 ^ 8000 then some (D.int (i / j)) else none) = some d := e
      split at e
      · rename_i hz
        cases e
        exact ⟨i, j, ra.int, rb.int, wide_div hz.1 hz.2 (by decide) (by decide), q _ H (.refl _) .mk_int⟩
      · cases e
    | _ => cases e
  | _ => cases e
theorem os_mod : OpS L (rI (fun _ j => 0 < j) fun i j => .int (i % j)) dMod := by
  intro a b d x y H A Q e ra rb hA q
  cases a with
  | int i =>
    cases b with
    | int j =>
      have e : (if 0 < j then some (D.int (i % j)) else none) = some d := e
      split at e
      · rename_i hz
        cases e
        exact ⟨i, j, ra.int, rb.int, hz, q _ H (.refl _) .mk_int⟩
      · cases e
    | _ => cases e
  | _ => cases e
theorem os_pow : OpS L (rI CPow fun i j => .int (i ^ j.toNat)) dPow := by
  intro a b d x y H A Q e ra rb hA q
  cases a with
  | int i =>
    cases b with
    | int j =>
      have e : (if 0 ≤ j ∧ j ≤ 1000000 ∧ i.natAbs < 2 ^ 64 then some (D.int (i ^ j.toNat)) else none) = some d := e
      split at e
      · rename_i hz
        cases e
        exact ⟨i, j, ra.int, rb.int, hz, q _ H (.refl _) .mk_int⟩
      · cases e
    | _ => cases e
  | _ => cases e
theorem us_neg : UnS L (rU fun i => .int (-i)) dNeg := by
  intro a d x H A Q e ra hA q
  cases a with
  | int i => cases e; exact ⟨i, ra.int, q _ H (.refl _) .mk_int⟩
  | _ => cases e

/-! ### order -/
def dLt : D → D → Option D
  | .int i, .int j => some (.bl (decide (i < j)))
  | _, _ => none
def dLe : D → D → Option D
  | .int i, .int j => some (.bl (decide (i ≤ j)))
  | _, _ => none
def dGt : D → D → Option D
  | .int i, .int j => some (.bl (decide (j < i)))
  | _, _ => none
def dGe : D → D → Option D
  | .int i, .int j => some (.bl (decide (j ≤ i)))
  | _, _ => none
theorem os_int {g : Int → Int → Bool} {f : D → D → Option D} (h : ∀ i j, f (.int i) (.int j) = some (.bl (g i j))) (h2 : ∀ a b d, f a b = some d → ∃ i j, a = .int i ∧ b = .int j) : OpS L (rI0 fun i j => .bl (g i j)) f := by
  intro a b d x y H A Q e ra rb hA q
  obtain ⟨i, j, rfl, rfl⟩ := h2 a b d e
  rw [h] at e
  cases e
  exact ⟨i, j, ra.int, rb.int, q _ H (.refl _) .mk_bl⟩
theorem os_lt : OpS L (rI0 fun i j => .bl (decide (i < j))) dLt := os_int (g := fun i j => decide (i < j)) (fun _ _ => rfl) fun a b d e => by cases a <;> cases b <;> first | exact ⟨_, _, rfl, rfl⟩ | cases e
theorem os_le : OpS L (rI0 fun i j => .bl (decide (i ≤ j))) dLe := os_int (g := fun i j => decide (i ≤ j)) (fun _ _ => rfl) fun a b d e => by cases a <;> cases b <;> first | exact ⟨_, _, rfl, rfl⟩ | cases e
theorem os_gt : OpS L (rI0 fun i j => .bl (decide (j < i))) dGt := os_int (g := fun i j => decide (j < i)) (fun _ _ => rfl) fun a b d e => by cases a <;> cases b <;> first | exact ⟨_, _, rfl, rfl⟩ | cases e
theorem os_ge : OpS L (rI0 fun i j => .bl (decide (j ≤ i))) dGe := os_int (g := fun i j => decide (j ≤ i)) (fun _ _ => rfl) fun a b d e => by cases a <;> cases b <;> first | exact ⟨_, _, rfl, rfl⟩ | cases e

/-! ### equality -/
mutual
def D.py : D → Option PyData
  | .non => some .none
  | .bl b => some (.bool b)
  | .int i => some (.int i)
  | .str x => some (.str x)
  | .tup xs => (D.pys xs).map .tuple
  | .lst xs => (D.pys xs).map .list
  | _ => none
def D.pys : List D → Option (List PyData)
  | [] => some []
  | d :: ds => (D.py d).bind fun p => (D.pys ds).map (p :: ·)
end
mutual
theorem dp_of {F : Hp} : ∀ {d : D} {v : V} {p : PyData}, Rp L F d v → d.py = some p → Dp L.K F v p
  | .non, v, p, r, e => by cases e; rw [Rp.non_iff.mp r]; exact .non
  | .bl b, v, p, r, e => by cases e; rw [Rp.bl_iff.mp r]; exact .bl b
  | .int b, v, p, r, e => by cases e; rw [Rp.int_iff.mp r]; exact .int b
  | .str b, v, p, r, e => by cases e; rw [Rp.str_iff.mp r]; exact .str b
  | .tup ds, v, p, r, e => by
    unfold D.py at e
    obtain ⟨ps, e1, rfl⟩ := Option.map_eq_some_iff.mp e
    obtain ⟨a, vs, rfl, h, rr⟩ := Rp.tup_iff.mp r
    exact .tup h (dps_of rr e1)
  | .lst ds, v, p, r, e => by
    unfold D.py at e
    obtain ⟨ps, e1, rfl⟩ := Option.map_eq_some_iff.mp e
    obtain ⟨a, vs, rfl, h, rr⟩ := Rp.lst_iff.mp r
    exact .lst (.inl (.inl h)) (dps_of rr e1)
  | .dct _ _, _, _, _, e => by unfold D.py at e; cases e
  | .set _, _, _, _, e => by unfold D.py at e; cases e
  | .obj _ _, _, _, _, e => by unfold D.py at e; cases e
  | .scr _, _, _, _, e => by unfold D.py at e; cases e
theorem dps_of {F : Hp} : ∀ {ds : List D} {vs : List V} {ps : List PyData}, Rps L F ds vs → D.pys ds = some ps → DpAll L.K F vs ps
  | [], vs, ps, r, e => by unfold Rps at r; unfold D.pys at e; cases e; subst r; exact .nil
  | d :: ds, vs, ps, r, e => by
    unfold Rps at r
    unfold D.pys at e
    obtain ⟨p, e1, e2⟩ := Option.bind_eq_some_iff.mp e
    obtain ⟨qs, e3, rfl⟩ := Option.map_eq_some_iff.mp e2
    obtain ⟨v, vr, rfl, r1, r2⟩ := r
    exact .cons (dp_of r1 e1) (dps_of r2 e3)
end
mutual
theorem Dp.up {K : PySem.W.Frag} {F H : Hp} (e : Same F H) : ∀ {p : PyData} {v : V}, Dp K F v p → Dp K H v p
  | .none, _, h => by cases h; exact .non
  | .bool _, _, h => by cases h; exact .bl _
  | .int _, _, h => by cases h; exact .int _
  | .str _, _, h => by cases h; exact .str _
  | .list _, _, h => by cases h with | lst a b => exact .lst (e.seq a) (Dp.ups e b)
  | .tuple _, _, h => by cases h with | tup a b => exact .tup (SqT.same e a) (Dp.ups e b)
  | .dict _, _, h => by cases h
theorem Dp.ups {K : PySem.W.Frag} {F H : Hp} (e : Same F H) : ∀ {ps : List PyData} {vs : List V}, DpAll K F vs ps → DpAll K H vs ps
  | [], _, h => by cases h; exact .nil
  | _ :: _, _, h => by cases h with | cons a b => exact .cons (Dp.up e a) (Dp.ups e b)
end
theorem dp_bp {F H : Hp} (s : Same F H) {d : D} {v : V} {p : PyData} (r : Bp L F H d v) (e : d.py = some p) : Dp L.K H v p := by
  cases d with
  | lst ds =>
    unfold D.py at e
    obtain ⟨ps, e1, rfl⟩ := Option.map_eq_some_iff.mp e
    obtain ⟨a, vs, rfl, h, rr⟩ := r.lst
    exact .lst (.inl (.inl h)) (Dp.ups s (dps_of rr e1))
  | _ => exact Dp.up s (dp_of r e)
def eqD (a b : D) : Option Bool :=
  match a.py, b.py with
  | some p, some q => if SeqAt.shaped p = true ∧ SeqAt.shaped q = true then some (PyData.eqv p q) else none
  | _, _ => none
def dEq (a b : D) : Option D := (eqD a b).map .bl
def dNe (a b : D) : Option D := (eqD a b).map fun k => .bl (!k)
theorem eqD_some {a b : D} {k : Bool} (h : eqD a b = some k) : ∃ p q, a.py = some p ∧ b.py = some q ∧ SeqAt.shaped p = true ∧ SeqAt.shaped q = true ∧ k = PyData.eqv p q := by
  unfold eqD at h
  split at h
  · rename_i p q e1 e2
    split at h
    · rename_i hz
      cases h
      exact ⟨p, q, e1, e2, hz.1, hz.2, rfl⟩
    · cases h
  · cases h
theorem os_eq : OpS L (rEqD L.K) dEq := by
  intro a b d x y H A Q e ra rb hA q
  obtain ⟨k, e1, rfl⟩ := Option.map_eq_some_iff.mp e
  obtain ⟨p, p', e2, e3, s1, s2, rfl⟩ := eqD_some e1
  exact ⟨p, p', dp_bp hid_le ra e2, dp_bp hid_le rb e3, s1, s2, q _ H (.refl _) .mk_bl⟩
theorem os_ne : OpS L (rNeD L.K) dNe := by
  intro a b d x y H A Q e ra rb hA q
  obtain ⟨k, e1, rfl⟩ := Option.map_eq_some_iff.mp e
  obtain ⟨p, p', e2, e3, s1, s2, rfl⟩ := eqD_some e1
  exact ⟨p, p', dp_bp hid_le ra e2, dp_bp hid_le rb e3, s1, s2, q _ H (.refl _) .mk_bl⟩
def inDs (a : Option PyData) (b : Option (List PyData)) : Option Bool :=
  match a, b with
  | some p, some ps => if SeqAt.shaped p = true ∧ SeqAt.shaped (.list ps) = true then some (ps.any fun z => PyData.eqv z p) else none
  | _, _ => none
/-- x in list -/
def inD (a b : D) : Option Bool :=
  match b with
  | .lst ys => inDs a.py (D.pys ys)
  | _ => none
def dIn (a b : D) : Option D := (inD a b).map .bl
def dNotIn (a b : D) : Option D := (inD a b).map fun k => .bl (!k)
theorem inD_some {a b : D} {k : Bool} (h : inD a b = some k) : ∃ ys p ps, b = .lst ys ∧ a.py = some p ∧ b.py = some (.list ps) ∧ SeqAt.shaped p = true ∧ SeqAt.shaped (.list ps) = true ∧ k = ps.any fun z => PyData.eqv z p := by
  cases b with
  | lst ys =>
    have h : inDs a.py (D.pys ys) = some k := h
    unfold inDs at h
    split at h
    · rename_i p ps e1 e2
      split at h
      · rename_i hz
        cases h
        exact ⟨ys, p, ps, rfl, e1, by unfold D.py; rw [e2]; rfl, hz.1, hz.2, rfl⟩
      · cases h
    · cases h
  | _ => cases h
theorem os_in : OpS L (rInD L.K) dIn := by
  intro a b d x y H A Q e ra rb hA q
  obtain ⟨k, e1, rfl⟩ := Option.map_eq_some_iff.mp e
  obtain ⟨ys, p, ps, rfl, e2, e3, s1, s2, rfl⟩ := inD_some e1
  exact ⟨p, ps, dp_bp hid_le ra e2, dp_bp hid_le rb e3, s1, s2, q _ H (.refl _) .mk_bl⟩
theorem os_notIn : OpS L (rNotInD L.K) dNotIn := by
  intro a b d x y H A Q e ra rb hA q
  obtain ⟨k, e1, rfl⟩ := Option.map_eq_some_iff.mp e
  obtain ⟨ys, p, ps, rfl, e2, e3, s1, s2, rfl⟩ := inD_some e1
  exact ⟨p, ps, dp_bp hid_le ra e2, dp_bp hid_le rb e3, s1, s2, q _ H (.refl _) .mk_bl⟩
/-- is None -/
def isNon : D → Bool
  | .non => true
  | _ => false
theorem Rp.dec_non {F : Hp} {d : D} {v : V} (r : Rp L F d v) : decide (v = .non) = Sm.isNon d := by
  cases d with
  | non => rw [Rp.non_iff.mp r]; rfl
  | bl b => rw [Rp.bl_iff.mp r]; rfl
  | int b => rw [Rp.int_iff.mp r]; rfl
  | str b => rw [Rp.str_iff.mp r]; rfl
  | tup ds => obtain ⟨a, vs, rfl, _⟩ := Rp.tup_iff.mp r; rfl
  | lst ds => obtain ⟨a, vs, rfl, _⟩ := Rp.lst_iff.mp r; rfl
  | scr ds => obtain ⟨a, vs, rfl, _⟩ := Rp.scr_iff.mp r; rfl
  | dct _ _ => unfold Rp at r; exact r.elim
  | set _ => rcases Rp.set_iff.mp r with ⟨a, ns, rfl, _⟩ | ⟨a, ks, L', rfl, _⟩ <;> rfl
  | obj _ _ => unfold Rp at r; exact r.elim
theorem Bp.dec_non {F H : Hp} {d : D} {v : V} (r : Bp L F H d v) : decide (v = .non) = Sm.isNon d := by
  cases d with
  | lst ds => obtain ⟨a, vs, rfl, _⟩ := r.lst; rfl
  | _ => exact Rp.dec_non (L := L) (F := F) r
def dIs (a b : D) : Option D := if isNon b = true then some (.bl (isNon a)) else none
def dIsNot (a b : D) : Option D := if isNon b = true then some (.bl (!isNon a)) else none
theorem os_is : OpS L (fun x y H Q => y = .non ∧ Q (.bl (decide (x = .non))) H) dIs := by
  intro a b d x y H A Q e ra rb hA q
  unfold dIs at e
  split at e
  · rename_i hz
    cases e
    have hb : b = .non := by cases b <;> first | rfl | cases hz
    subst hb
    refine ⟨rb.non, ?_⟩
    rw [ra.dec_non]
    exact q _ H (.refl _) .mk_bl
  · cases e
theorem os_isNot : OpS L (fun x y H Q => y = .non ∧ Q (.bl (!decide (x = .non))) H) dIsNot := by
  intro a b d x y H A Q e ra rb hA q
  unfold dIsNot at e
  split at e
  · rename_i hz
    cases e
    have hb : b = .non := by cases b <;> first | rfl | cases hz
    subst hb
    refine ⟨rb.non, ?_⟩
    rw [ra.dec_non]
    exact q _ H (.refl _) .mk_bl
  · cases e

/-! ### subscripts -/
def dIx : D → D → Option D
  | .lst xs, .int i => HT_at xs i
  | .tup xs, .int i => HT_at xs i
  | .scr xs, .int i => HT_at xs i
  | .str z, .int i => if z.length ≤ 16000000 then (HT_atN z.cps.toList i).map fun c => .str ⟨#[c]⟩ else none
  | _, _ => none
where
  HT_at (xs : List D) (i : Int) : Option D := atI xs i
  HT_atN (xs : List Nat) (i : Int) : Option Nat := atI xs i
theorem Rps.atI {F : Hp} {ds : List D} {vs : List V} {i : Int} {d : D} (r : Rps L F ds vs) (h : L2.atI ds i = some d) : ∃ v, L2.atI vs i = some v ∧ Rp L F d v := by
  unfold L2.atI at h ⊢
  rw [r.length]
  obtain ⟨j, e1, e2⟩ := Option.bind_eq_some_iff.mp h
  obtain ⟨v, h1, h2⟩ := r.get e2
  exact ⟨v, by rw [e1]; exact h1, h2⟩
theorem os_ix : OpS L (rIx L.K) dIx := by
  intro a b d x y H A Q e ra rb hA q
  cases b with
  | int i =>
    cases a with
    | lst ds =>
      obtain ⟨p, vs, rfl, h, rr⟩ := ra.lst
      obtain ⟨v, h1, h2⟩ := rr.atI (show L2.atI ds i = some d from e)
      exact .inl ⟨p, vs, i, v, rfl, rb.int, .inl (.inl h), h1, q _ H (.refl _) h2⟩
    | scr ds =>
      obtain ⟨p, vs, rfl, h, rr⟩ := ra.scr
      obtain ⟨v, h1, h2⟩ := rr.atI (show L2.atI ds i = some d from e)
      exact .inl ⟨p, vs, i, v, rfl, rb.int, hid_le.seq h, h1, q _ H (.refl _) h2⟩
    | tup ds =>
      obtain ⟨p, vs, rfl, h, rr⟩ := ra.tup
      obtain ⟨v, h1, h2⟩ := rr.atI (show L2.atI ds i = some d from e)
      exact .inr (.inl ⟨p, vs, i, v, rfl, rb.int, SqT.same hid_le h, h1, q _ H (.refl _) h2⟩)
    | str z =>
      have e : (if z.length ≤ 16000000 then (L2.atI z.cps.toList i).map fun c => D.str ⟨#[c]⟩ else none) = some d := e
      split at e
      · rename_i hz
        obtain ⟨c, e1, rfl⟩ := Option.map_eq_some_iff.mp e
        exact .inr (.inr ⟨z, i, c, ra.str, rb.int, small16 hz, e1, q _ H (.refl _) .mk_str⟩)
      · cases e
    | _ => cases e
  | _ => cases a <;> cases e
end
end Sm
set_option Elab.async false
set_option linter.all false
set_option maxRecDepth 100000
set_option maxHeartbeats 400000
/-! SmG: list comprehensions of one clause. -/
namespace Sm
open PySem PySem.Spec PyProof.Rows L2

/-! ### slots forgotten -/
def wipeS (τ : List Sl) : List Nat → List Sl
  | [] => τ
  | v :: vs => (wipeS τ vs).set v .un
def allUn (τ : List Sl) (vs : List Nat) : Bool := vs.all fun i => match τ[i]? with | some .un => true | _ => false
theorem allUn_get {τ : List Sl} {vs : List Nat} {i : Nat} (h : allUn τ vs = true) (hi : i ∈ vs) : τ[i]? = some .un := by
  have q := List.all_eq_true.mp h i hi
  revert q
  cases e : τ[i]? with
  | none => intro q; cases q
  | some t => cases t <;> intro q <;> first | rfl | cases q
theorem wipe_get {σ : L2.St} {i : Nat} : ∀ {vs : List Nat}, i ∉ vs → (wipe σ vs)[i]? = σ[i]?
  | [], _ => rfl
  | v :: vs, h => by
    have h1 : v ≠ i := fun e => h (by rw [e]; exact List.mem_cons_self)
    have h2 : i ∉ vs := fun e => h (List.mem_cons_of_mem _ e)
    show ((wipe σ vs).set v none)[i]? = σ[i]?
    rw [List.getElem?_set_ne h1]
    exact wipe_get h2
theorem wipeS_get {τ : List Sl} {i : Nat} : ∀ {vs : List Nat}, i ∉ vs → (wipeS τ vs)[i]? = τ[i]?
  | [], _ => rfl
  | v :: vs, h => by
    have h1 : v ≠ i := fun e => h (by rw [e]; exact List.mem_cons_self)
    have h2 : i ∉ vs := fun e => h (List.mem_cons_of_mem _ e)
    show ((wipeS τ vs).set v .un)[i]? = τ[i]?
    rw [List.getElem?_set_ne h1]
    exact wipeS_get h2
theorem wipeS_length (τ : List Sl) : ∀ vs : List Nat, (wipeS τ vs).length = τ.length
  | [] => rfl
  | v :: vs => by
    show ((wipeS τ vs).set v .un).length = _
    rw [List.length_set, wipeS_length]
theorem wipeS_un {τ : List Sl} {i : Nat} {t : Sl} : ∀ {vs : List Nat}, i ∈ vs → (wipeS τ vs)[i]? = some t → t = .un
  | [], h, _ => by cases h
  | v :: vs, h, e => by
    have e : ((wipeS τ vs).set v .un)[i]? = some t := e
    by_cases hv : v = i
    · subst hv
      by_cases hl : v < (wipeS τ vs).length
      · rw [List.getElem?_set_self hl] at e; cases e; rfl
      · rw [List.getElem?_eq_none (by rw [List.length_set]; omega)] at e; cases e
    · rw [List.getElem?_set_ne hv] at e
      rcases List.mem_cons.mp h with z | z
      · exact absurd z.symm hv
      · exact wipeS_un z e
theorem wipeS_all {τ : List Sl} {vs : List Nat} (h : ∀ i ∈ vs, i < τ.length) : allUn (wipeS τ vs) vs = true := by
  refine List.all_eq_true.mpr fun i hi => ?_
  have hl : i < (wipeS τ vs).length := by rw [wipeS_length]; exact h i hi
  have e := wipeS_un hi (List.getElem?_eq_getElem hl)
  rw [List.getElem?_eq_getElem hl, e]
theorem wipe_set2 {σ : L2.St} {i : Nat} {x y : Option V} : ∀ vs : List Nat, (wipe (σ.set i x) vs).set i y = (wipe σ vs).set i y
  | [] => by
    show (σ.set i x).set i y = σ.set i y
    rw [List.set_set]
  | v :: vs => by
    show ((wipe (σ.set i x) vs).set v none).set i y = ((wipe σ vs).set v none).set i y
    by_cases h : v = i
    · subst h
      rw [List.set_set, List.set_set]
      exact wipe_set2 vs
    · rw [List.set_comm _ _ h, List.set_comm _ _ h, wipe_set2 vs]
theorem wipe_set {σ : L2.St} {i : Nat} {x : Option V} : ∀ {vs : List Nat}, i ∈ vs → wipe (σ.set i x) vs = wipe σ vs
  | [], h => by cases h
  | v :: vs, h => by
    show (wipe (σ.set i x) vs).set v none = (wipe σ vs).set v none
    by_cases hv : v = i
    · subst hv; exact wipe_set2 vs
    · rcases List.mem_cons.mp h with z | z
      · exact absurd z.symm hv
      · rw [wipe_set z]

section
variable {L : Lay} {P : Pa} {W : WX} {X : Cx} {E : L2.St → XK} {pos : Pos} {H H' : Hp} {σ : L2.St} {τ : List Sl} {vs : List Nat}
theorem ownAt_wipe (h : allUn τ vs = true) (i : Nat) (a : Addr) : OwnAt (wipe σ vs) τ i a ↔ OwnAt σ τ i a := by
  by_cases hi : i ∈ vs
  · have e := allUn_get h hi
    constructor <;> · rintro ⟨_, t, et, ow⟩; rw [e] at et; cases et; cases ow
  · unfold OwnAt
    rw [wipe_get hi]
theorem own_wipe (h : allUn τ vs = true) (a : Addr) : Own (wipe σ vs) τ a ↔ Own σ τ a := ⟨fun ⟨i, q⟩ => ⟨i, (ownAt_wipe h i a).mp q⟩, fun ⟨i, q⟩ => ⟨i, (ownAt_wipe h i a).mpr q⟩⟩
theorem Tr.iff {A A' B B' : Addr → Prop} (x : Tr H A H' A') (h : ∀ a, A a ↔ B a) (h' : ∀ a, A' a ↔ B' a) : Tr H B H' B' :=
  ⟨fun a o e n => x.keep a o e fun z => n ((h a).mp z), fun a q => (x.new a ((h' a).mpr q)).elim (fun z => .inl ((h a).mp z)) .inr, x.there⟩
/-- the slots' data by other slots, that agree where something is known -/
theorem StR.slots {σ' : L2.St} (R : StR L P H σ τ) (hl : σ'.length = σ.length) (h : ∀ (i : Nat) (t : Sl), τ[i]? = some t → t = Sl.un ∨ σ'[i]? = σ[i]?) : StR L P H σ' τ ∧ ∀ a, Own σ' τ a ↔ Own σ τ a := by
  have at1 : ∀ (i : Nat) (a : Addr), OwnAt σ' τ i a ↔ OwnAt σ τ i a := fun i a => by
    unfold OwnAt
    constructor
    · rintro ⟨e, t, et, ow⟩
      rcases h i t et with rfl | q
      · cases ow
      · exact ⟨by rw [← q]; exact e, t, et, ow⟩
    · rintro ⟨e, t, et, ow⟩
      rcases h i t et with rfl | q
      · cases ow
      · exact ⟨by rw [q]; exact e, t, et, ow⟩
  have oo : ∀ a, Own σ' τ a ↔ Own σ τ a := fun a => ⟨fun ⟨i, q⟩ => ⟨i, (at1 i a).mp q⟩, fun ⟨i, q⟩ => ⟨i, (at1 i a).mpr q⟩⟩
  have mono : Same (hid H (Hd P σ τ)) (hid H (Hd P σ' τ)) := hid_mono (.refl _) fun a z => z.elim (fun q => .inl ((oo a).mp q)) .inr
  refine ⟨⟨hl.trans R.len, fun i j a x y => R.inj i j a ((at1 i a).mp x) ((at1 j a).mp y), fun a q => R.dis a ((oo a).mp q), R.bth, fun i t e => ?_⟩, oo⟩
  have q := R.sl i t e
  rcases h i t e with rfl | hs
  · trivial
  · rw [hs]
    cases t with
    | un => trivial
    | fz d' => obtain ⟨v, e2, r2⟩ := q; exact ⟨v, e2, r2.same mono⟩
    | ow d' => obtain ⟨b, e2, r2⟩ := q; exact ⟨b, e2, r2.step mono rfl⟩
    | le d' => obtain ⟨b, e2, r2⟩ := q; exact ⟨b, e2, r2.step mono rfl⟩
    | io k d' => obtain ⟨b, e2, e3, r2⟩ := q; exact ⟨b, e2, e3, r2.step mono rfl⟩
theorem StR.wipe (R : StR L P H σ τ) (h : allUn τ vs = true) : StR L P H (L2.wipe σ vs) τ :=
  (R.slots (L2.wipe_length σ vs) fun i t e => by
    by_cases hi : i ∈ vs
    · rw [allUn_get h hi] at e; cases e; exact .inl rfl
    · exact .inr (wipe_get hi)).1
theorem StR.unwipe (R : StR L P H (L2.wipe σ vs) τ) (h : allUn τ vs = true) : StR L P H σ τ :=
  (R.slots (L2.wipe_length σ vs).symm fun i t e => by
    by_cases hi : i ∈ vs
    · rw [allUn_get h hi] at e; cases e; exact .inl rfl
    · exact .inr (wipe_get hi).symm).1
/-- slots forgotten -/
theorem StR.wipeS (R : StR L P H σ τ) : Tr H (Own σ τ) H (Own σ (wipeS τ vs)) ∧ StR L P H σ (wipeS τ vs) := by
  have get : ∀ (i : Nat) (t : Sl), (Sm.wipeS τ vs)[i]? = some t → t = Sl.un ∨ τ[i]? = some t := fun i t e => by
    by_cases hi : i ∈ vs
    · exact .inl (wipeS_un hi e)
    · rw [wipeS_get hi] at e; exact .inr e
  have sub : ∀ (i : Nat) (a : Addr), OwnAt σ (Sm.wipeS τ vs) i a → OwnAt σ τ i a := fun i a ⟨e, t, et, ow⟩ => by
    rcases get i t et with rfl | q
    · cases ow
    · exact ⟨e, t, q, ow⟩
  have tr : Tr H (Own σ τ) H (Own σ (Sm.wipeS τ vs)) := ⟨fun _ _ q _ => q, fun a ⟨i, q⟩ => .inl ⟨i, sub i a q⟩, fun _ o h => ⟨o, h⟩⟩
  refine ⟨tr, by rw [wipeS_length]; exact R.len, fun i j a x y => R.inj i j a (sub i a x) (sub j a y), fun a ⟨i, q⟩ => R.dis a ⟨i, sub i a q⟩, R.bth, fun i t e => ?_⟩
  rcases get i t e with rfl | q
  · trivial
  · have q := R.sl i t q
    cases t with
    | un => trivial
    | fz d' => obtain ⟨v, e2, r2⟩ := q; exact ⟨v, e2, r2.same (R.fz tr)⟩
    | ow d' => obtain ⟨b, e2, r2⟩ := q; exact ⟨b, e2, r2.step (R.fz tr) rfl⟩
    | le d' => obtain ⟨b, e2, r2⟩ := q; exact ⟨b, e2, r2.step (R.fz tr) rfl⟩
    | io k d' => obtain ⟨b, e2, e3, r2⟩ := q; exact ⟨b, e2, e3, r2.step (R.fz tr) rfl⟩

/-! ### a comprehension's targets -/
def tC (L : Lay) (P : Pa) (vs : List Nat) (g : MG) : TG := fun v σ H Q => ∃ τ d τ', StR L P H σ τ ∧ Rp L (hid H (Hd P σ τ)) d v ∧ g d τ = some τ' ∧ ∀ σ' H', Tr H (Own σ τ) H' (Own σ' τ') → StR L P H' σ' τ' → L2.wipe σ' vs = L2.wipe σ vs → Q σ' H'
abbrev SC (L : Lay) (P : Pa) (vs : List Nat) (X : Cx) (tg : Expr) (g : MG) : Prop := PG X tg (tC L P vs g)
theorem sC_name {i : Nat} {x : Str} (hN : X.N.Nodup) (hi : X.N[i]? = some x) (hx : Loc X.env.scope x) (hv : i ∈ vs) (hf : X.fn x = true ∨ X.env.scope.names.lookup x = some .local := by first | exact .inl rfl | exact .inr rfl | assumption) : SC L P vs X (.Name x pos) (gN i) :=
  PG.weak (pg_name hN hi hx hf) fun v σ H Q ⟨τ, d, τ', R, r, e, q⟩ => by
    obtain ⟨hi, rfl⟩ := setFz_some e
    obtain ⟨tr, R2⟩ := R.setFz hi r
    exact q _ H tr R2 (wipe_set hv)
def tCs (L : Lay) (P : Pa) (vs : List Nat) (g : MGs) : TGs := fun us σ H Q => ∃ τ ds τ', StR L P H σ τ ∧ Rps L (hid H (Hd P σ τ)) ds us ∧ g ds τ = some τ' ∧ ∀ σ' H', Tr H (Own σ τ) H' (Own σ' τ') → StR L P H' σ' τ' → L2.wipe σ' vs = L2.wipe σ vs → Q σ' H'
abbrev SCs (L : Lay) (P : Pa) (vs : List Nat) (X : Cx) (tg : List Expr) (g : MGs) : Prop := PGs X tg (tCs L P vs g)
theorem sCs_nil : SCs L P vs X [] Sm.gNil :=
  PGs.weak pgs_nil fun us σ H Q ⟨τ, ds, τ', R, r, e, q⟩ => by
    cases ds with
    | nil => cases e; unfold Rps at r; exact ⟨r, q σ H .refl R rfl⟩
    | cons d r => cases e
theorem sCs_cons {e : Expr} {es : List Expr} {g : MG} {gs : MGs} (h1 : SC L P vs X e g) (h2 : SCs L P vs X es gs) (hs : (assignEach (e :: es) X.env).map (·.2) = assign e X.env :: (assignEach es X.env).map (·.2) := by rfl) : SCs L P vs X (e :: es) (Sm.gCons g gs) :=
  PGs.weak (pgs_cons h1 h2 hs) fun us σ H Q ⟨τ, ds, τ', R, r, e, q⟩ => by
    cases ds with
    | nil => cases e
    | cons d ds =>
      unfold Rps at r
      obtain ⟨v, vr, rfl, rd, rr⟩ := r
      obtain ⟨τ1, e1, e2⟩ := Option.bind_eq_some_iff.mp e
      refine ⟨v, vr, rfl, τ, d, τ1, R, rd, e1, fun σ1 H1 t1 R1 w1 => ?_⟩
      exact ⟨τ1, ds, τ', R1, Rps.same (R.fz t1) rr, e2, fun σ' H' t2 R2 w2 => q σ' H' (t1.trans t2) R2 (w2.trans w1)⟩
theorem sC_tup {es : List Expr} {k : Nat} {gs : MGs} {n : Nat} (hK : X.K = L.K) (hc : X.calm = true) (h : SCs L P vs X es gs)
    (hn : (assignEach es X.env).length = n := by rfl) (hst : (assignEach es X.env).findIdx? (·.1) = none := by rfl) : SC L P vs X (.Tuple es k pos) (gT n gs) :=
  PG.weak (Sm.PG.or (pg_tup hc h hn hst) (pg_lst hc h hn hst)) fun v σ H Q ⟨τ, d, τ', R, r, e, q⟩ => by
    cases d with
    | tup ds =>
      obtain ⟨a, us, rfl, s, rr⟩ := Rp.tup_iff.mp r
      have e : (if ds.length = n then gs ds τ else none) = some τ' := e
      by_cases hl : ds.length = n
      · rw [if_pos hl] at e
        refine .inl ⟨a, us, rfl, by rw [hK]; exact SqT.same hid_le s, by rw [rr.length]; exact hl, τ, ds, τ', R, rr, e, q⟩
      · rw [if_neg hl] at e; cases e
    | lst ds =>
      obtain ⟨a, us, rfl, s, rr⟩ := Rp.lst_iff.mp r
      have e : (if ds.length = n then gs ds τ else none) = some τ' := e
      by_cases hl : ds.length = n
      · rw [if_pos hl] at e
        refine .inr ⟨a, us, rfl, .inl (.inl (hid_le _ _ s)), by rw [rr.length]; exact hl, τ, ds, τ', R, rr, e, q⟩
      · rw [if_neg hl] at e; cases e
    | _ => cases e

/-! ### tests -/
abbrev STs (L : Lay) (P : Pa) (E : L2.St → XK) (X : Cx) (ifs : List Expr) (m : M Bool) : Prop := PTs X ifs (tT L P E m)
theorem PTs.weak {X : Cx} {e : List Expr} {t u : TT} (h : PTs X e t) (f : ∀ σ H Q, u σ H Q → t σ H Q) : PTs X e u := ⟨fun pins s σ H Q I q => h.run pins s σ H Q I (f σ H Q q)⟩
def mYes : M Bool := fun τ => .ok true τ
theorem sTs_nil : STs L P E X [] mYes := PTs.weak pts_nil fun σ H Q ⟨τ, R, h⟩ => h true H .refl R rfl
theorem sTs_one {c : Expr} {m : M Bool} (h : ST L P E X c m) : STs L P E X [c] m := pts_one h

/-! ### the comprehension -/
abbrev Eno : L2.St → XK := fun _ _ _ _ => False
def Res.nox {α : Type} (r : Res α) : Res α :=
  match r with
  | .exc _ _ _ => .fail
  | r => r
@[simp] theorem Res.nox_ok {α : Type} {a : α} {τ : List Sl} : (Res.ok a τ).nox = .ok a τ := rfl
@[simp] theorem Res.nox_exc {α : Type} {c : Nat} {xs : List D} {τ : List Sl} : (Res.exc c xs τ : Res α).nox = .fail := rfl
@[simp] theorem Res.nox_fail {α : Type} : (Res.fail : Res α).nox = .fail := rfl
def mLcGo (g : MG) (tt : M Bool) (m : M D) (vs : List Nat) : List D → M (List D)
  | [] => fun τ => .ok [] τ
  | d :: ds => fun τ =>
    match g d τ with
    | none => .fail
    | some τ => (tt τ).nox.bind fun k => fun τ =>
      if k = true then (m τ).nox.bind fun y => fun τ => (mLcGo g tt m vs ds (Sm.wipeS τ vs)).bind fun ys => fun τ => .ok (y :: ys) τ
      else mLcGo g tt m vs ds (Sm.wipeS τ vs)
def lcEnd (g : MG) (tt : M Bool) (m : M D) (vs : List Nat) (ds : List D) : M D := fun τ =>
  if ds.length ≤ 16000000 ∧ allUn τ vs = true then (mLcGo g tt m vs ds τ).nox.bind fun ys => fun τ => .ok (.lst ys) τ else .fail
def mLc (mi : M (List D)) (g : MG) (tt : M Bool) (m : M D) (vs : List Nat) : M D := fun τ => (mi τ).bind fun ds => lcEnd g tt m vs ds
/-- the objects without D, D hidden -/
theorem hide_D {D : Addr} (h : ∀ a, Own σ τ a → a ≠ D) (hb : ∀ a, P.B a → a ≠ D) : Same (hid (rid H D) (Hd P σ τ)) (hid H (Hd ⟨P.args, fun a => P.B a ∨ a = D⟩ σ τ)) ∧ Same (hid H (Hd ⟨P.args, fun a => P.B a ∨ a = D⟩ σ τ)) (hid (rid H D) (Hd P σ τ)) := by
  refine ⟨fun a o e => ?_, fun a o e => ?_⟩
  · obtain ⟨h1, h2⟩ := hid_some.mp e
    refine hid_some.mpr ⟨rid_le a o h1, fun z => ?_⟩
    rcases z with z | z | z
    · exact h2 (.inl z)
    · exact h2 (.inr z)
    · rw [z, rid_same] at h1; cases h1
  · obtain ⟨h1, h2⟩ := hid_some.mp e
    have hD : a ≠ D := fun z => h2 (.inr (.inr z))
    exact hid_some.mpr ⟨by rw [rid_ne hD]; exact h1, fun z => h2 (z.elim .inl fun z => .inr (.inl z))⟩
theorem StR.hideD {D : Addr} {o : HO} (R : StR L P (rid H D) σ τ) (hD : H D = some o) : StR L ⟨P.args, fun a => P.B a ∨ a = D⟩ H σ τ := by
  have no : ∀ a, Own σ τ a → a ≠ D := fun a q z => by obtain ⟨o, e⟩ := R.own_there q; rw [z, rid_same] at e; cases e
  have nb : ∀ a, P.B a → a ≠ D := fun a q z => by obtain ⟨o, e⟩ := R.bth a q; rw [z, rid_same] at e; cases e
  have s := (hide_D (H := H) no nb).1
  refine ⟨R.len, R.inj, fun a q z => z.elim (R.dis a q) (no a q), fun a z => z.elim (fun q => let ⟨o, e⟩ := R.bth a q; ⟨o, rid_le a o e⟩) fun e => ⟨o, by rw [e]; exact hD⟩, fun i t e => ?_⟩
  have st : ∀ {d' : Sm.D} {b : Addr}, OwR L (hid (rid H D) (Hd P σ τ)) (rid H D) d' b → OwR L (hid H (Hd ⟨P.args, fun a => P.B a ∨ a = D⟩ σ τ)) H d' b := fun {d' b} q => by
    obtain ⟨o, ho⟩ := q.there
    exact q.step s (by rw [ho]; exact rid_le b o ho)
  have q := R.sl i t e
  cases t with
  | un => trivial
  | fz d' => obtain ⟨v, e2, r2⟩ := q; exact ⟨v, e2, r2.same s⟩
  | ow d' => obtain ⟨b, e2, r2⟩ := q; exact ⟨b, e2, st r2⟩
  | le d' => obtain ⟨b, e2, r2⟩ := q; exact ⟨b, e2, st r2⟩
  | io k d' => obtain ⟨b, e2, e3, r2⟩ := q; exact ⟨b, e2, e3, st r2⟩
theorem StR.showD {D : Addr} (R : StR L ⟨P.args, fun a => P.B a ∨ a = D⟩ H σ τ) (hb : ¬ P.B D) : StR L P (rid H D) σ τ := by
  have no : ∀ a, Own σ τ a → a ≠ D := fun a q z => R.dis a q (.inr z)
  have nb : ∀ a, P.B a → a ≠ D := fun a q z => hb (by rw [← z]; exact q)
  have s := (hide_D (H := H) no nb).2
  refine ⟨R.len, R.inj, fun a q z => R.dis a q (.inl z), fun a z => let ⟨o, e⟩ := R.bth a (.inl z); ⟨o, by rw [rid_ne (nb a z)]; exact e⟩, fun i t e => ?_⟩
  have st : ∀ {d' : Sm.D} {b : Addr}, OwnAt σ τ i b → OwR L (hid H (Hd ⟨P.args, fun a => P.B a ∨ a = D⟩ σ τ)) H d' b → OwR L (hid (rid H D) (Hd P σ τ)) (rid H D) d' b := fun {d' b} oa q => q.step s (rid_ne (no b ⟨i, oa⟩))
  have q := R.sl i t e
  cases t with
  | un => trivial
  | fz d' => obtain ⟨v, e2, r2⟩ := q; exact ⟨v, e2, r2.same s⟩
  | ow d' => obtain ⟨b, e2, r2⟩ := q; exact ⟨b, e2, st ⟨e2, _, e, rfl⟩ r2⟩
  | le d' => obtain ⟨b, e2, r2⟩ := q; exact ⟨b, e2, st ⟨e2, _, e, rfl⟩ r2⟩
  | io k d' => obtain ⟨b, e2, e3, r2⟩ := q; exact ⟨b, e2, e3, st ⟨e2, _, e, rfl⟩ r2⟩
theorem Tr.rid {A A' : Addr → Prop} {D : Addr} (t : Tr H A H' A') (hn : ∀ a, A' a → a ≠ D) : Tr (rid H D) A (rid H' D) A' :=
  ⟨fun a o e n => by
    have hD : a ≠ D := fun z => by rw [z, rid_same] at e; cases e
    rw [rid_ne hD] at e ⊢
    exact t.keep a o e n, fun a q => (t.new a q).elim .inl fun e => .inr (by rw [rid_ne (hn a q)]; exact e), fun a o e => by
    have hD : a ≠ D := fun z => by rw [z, rid_same] at e; cases e
    rw [rid_ne hD] at e ⊢
    exact t.there a o e⟩
theorem wipe_idem {σ : L2.St} : ∀ (us vs : List Nat), (∀ i ∈ us, i ∈ vs) → L2.wipe (L2.wipe σ us) vs = L2.wipe σ vs
  | [], _, _ => rfl
  | v :: us, vs, h => by
    show L2.wipe ((L2.wipe σ us).set v none) vs = L2.wipe σ vs
    rw [wipe_set (h v List.mem_cons_self)]
    exact wipe_idem us vs fun i hi => h i (List.mem_cons_of_mem _ hi)
theorem rid_upd2 {D : Addr} {o : HO} : rid (upd H D o) D = rid H D := by
  funext b
  by_cases e : b = D
  · rw [e, rid_same, rid_same]
  · rw [rid_ne e, rid_ne e, upd_ne e]
/-- a turn's end -/
theorem turn_end {D : Addr} {H2 H6 : Hp} {σ4 : L2.St} {τ2 τ6 : List Sl} (hb : ¬ P.B D) (u2 : allUn τ2 vs = true) (hl : σ4.length = σ.length) (R2 : StR L ⟨P.args, fun a => P.B a ∨ a = D⟩ H2 (L2.wipe σ vs) τ2) (t : Tr H2 (Own (L2.wipe σ vs) τ2) H6 (Own σ4 τ6)) (R6 : StR L ⟨P.args, fun a => P.B a ∨ a = D⟩ H6 σ4 τ6) (w : L2.wipe σ4 vs = L2.wipe (L2.wipe σ vs) vs) :
    StR L P (rid H6 D) (L2.wipe σ vs) (Sm.wipeS τ6 vs) ∧ Tr (rid H2 D) (Own σ τ2) (rid H6 D) (Own σ (Sm.wipeS τ6 vs)) ∧ allUn (Sm.wipeS τ6 vs) vs = true := by
  have w : L2.wipe σ4 vs = L2.wipe σ vs := w.trans (wipe_idem vs vs fun _ h => h)
  have u : allUn (Sm.wipeS τ6 vs) vs = true := wipeS_all fun i hi => by
    have h2 := allUn_get u2 hi
    have := (List.getElem?_eq_some_iff.mp h2).1
    have l2 := R2.len
    have l6 := R6.len
    rw [L2.wipe_length] at l2
    omega
  have S6 := R6.showD hb
  obtain ⟨tw, S7⟩ := S6.wipeS (vs := vs)
  have S8 := S7.wipe u
  rw [w] at S8
  have t2 : Tr (rid H2 D) (Own (L2.wipe σ vs) τ2) (rid H6 D) (Own σ4 τ6) := Tr.rid t fun a q z => R6.dis a q (.inr z)
  refine ⟨S8, (t2.trans tw).iff (own_wipe u2) (fun a => ?_), u⟩
  rw [← own_wipe u a, w, own_wipe u a]
def LcEnd (L : Lay) (P : Pa) (Q : VK) (H1 : Hp) (σ : L2.St) (τ1 : List Sl) (D : Addr) (accd : List Sm.D) (r : Res (List Sm.D)) : Prop :=
  match r with
  | .ok ys τe => ∀ H', Tr H1 (Own σ τ1) (rid H' D) (Own σ τe) → StR L P (rid H' D) σ τe → OwR L (hid (rid H' D) (Hd P σ τe)) H' (.lst (accd ++ ys)) D → Q (.ref D) H'
  | _ => False
theorem PE.exB {X : Cx} {e : Expr} {m : M D} {A : List V} (h : ∀ P : Pa, PE X e (tE L P E m)) : PE X e (fun σ H Q => ∃ B, tE L ⟨A, B⟩ E m σ H Q) := ⟨fun pins s σ H Q I ⟨B, q⟩ => (h ⟨A, B⟩).run pins s σ H Q I q⟩
theorem PTs.exB {X : Cx} {e : List Expr} {m : M Bool} {A : List V} (h : ∀ P : Pa, PTs X e (tT L P E m)) : PTs X e (fun σ H Q => ∃ B, tT L ⟨A, B⟩ E m σ H Q) := ⟨fun pins s σ H Q I ⟨B, q⟩ => (h ⟨A, B⟩).run pins s σ H Q I q⟩
theorem PG.exB {X : Cx} {e : Expr} {g : MG} {A : List V} (h : ∀ P : Pa, PG X e (tC L P vs g)) : PG X e (fun v σ H Q => ∃ B, tC L ⟨A, B⟩ vs g v σ H Q) := ⟨fun pins s σ H v u Q I r ⟨B, q⟩ => (h ⟨A, B⟩).run pins s σ H v u Q I r q⟩
theorem tLc_of {mi : M (List D)} {g : MG} {tt : M Bool} {m : M D} {H : Hp} {Q : VK} (h : tF L P E (mLc mi g tt m vs) σ H Q) :
    tLc (tI L P E mi) (fun v σ H Q => ∃ B, tC L ⟨P.args, B⟩ vs g v σ H Q) (fun σ H Q => ∃ B, tT L ⟨P.args, B⟩ Eno tt σ H Q) (fun σ H Q => ∃ B, tE L ⟨P.args, B⟩ Eno m σ H Q) vs σ H Q := by
  obtain ⟨τ, R, h⟩ := h
  have h : PostF L P H σ τ ((mi τ).bind fun ds => lcEnd g tt m vs ds) Q (E σ) := h
  refine ⟨τ, R, ?_⟩
  revert h
  cases mi τ with
  | exc c xs τ' => exact fun h => h
  | fail => exact fun h => h
  | ok ds τ1 =>
    intro h J H1 t1 R1 it D hD
    have h : PostF L P H σ τ (lcEnd g tt m vs ds τ1) Q (E σ) := h
    unfold lcEnd at h
    split at h
    case isFalse => exact h.elim
    rename_i hcond
    obtain ⟨hz, hu⟩ := hcond
    have hb : ¬ P.B D := fun z => by obtain ⟨o, e⟩ := R1.bth D z; rw [hD] at e; cases e
    have go0 : LcEnd L P Q H1 σ τ1 D [] (mLcGo g tt m vs ds τ1) := by
      revert h
      cases mLcGo g tt m vs ds τ1 with
      | ok ys τe => exact fun h H' t R' o => h D H' (t1.trans t) R' o
      | exc c xs τe => exact fun h => h.elim
      | fail => exact fun h => h.elim
    clear h
    refine ⟨fun i k H2 => i + k = ds.length ∧ ∃ τ2 acc accd, StR L P (rid H2 D) (L2.wipe σ vs) τ2 ∧ Tr H1 (Own σ τ1) (rid H2 D) (Own σ τ2) ∧ allUn τ2 vs = true ∧ H2 D = some (.lst acc) ∧ Rps L (hid (rid H2 D) (Hd P σ τ2)) accd acc ∧ acc.length ≤ i ∧ LcEnd L P Q H1 σ τ1 D accd (mLcGo g tt m vs (ds.drop i) τ2), ⟨ds.length, Nat.zero_add _, τ1, [], [], ?_, ?_, hu, upd_same, .nil, Nat.le_refl _, go0⟩, ?_⟩
    · rw [rid_upd hD]; exact R1.wipe hu
    · rw [rid_upd hD]; exact .refl
    rintro i k H2 ⟨hik, τ2, acc, accd, R2, t2, u2, hD2, rr, hl, go⟩
    have R2' := R2.hideD hD2
    have noW : ∀ a, Own (L2.wipe σ vs) τ2 a → a ≠ D := fun a q z => R2'.dis a q (.inr z)
    have noS : ∀ a, Own σ τ2 a → a ≠ D := fun a q => noW a ((own_wipe u2 a).mpr q)
    have nb : ∀ a, P.B a → a ≠ D := fun a q z => hb (by rw [← z]; exact q)
    have hdW : ∀ a, Hd ⟨P.args, fun a => P.B a ∨ a = D⟩ (L2.wipe σ vs) τ2 a ↔ Hd ⟨P.args, fun a => P.B a ∨ a = D⟩ σ τ2 a := fun a => ⟨fun z => z.elim (fun q => .inl ((own_wipe u2 a).mp q)) .inr, fun z => z.elim (fun q => .inl ((own_wipe u2 a).mpr q)) .inr⟩
    have gg : Same (hid H1 (Hd P σ τ1)) (hid H2 (Hd ⟨P.args, fun a => P.B a ∨ a = D⟩ (L2.wipe σ vs) τ2)) :=
      ((R1.fz t2).trans (hide_D noS nb).1).trans (hid_mono (.refl _) fun a z => (hdW a).mp z)
    obtain ⟨gof, stop⟩ := it i H2 _ gg fun p hp => R2'.hd_there hp
    cases e : ds[i]? with
    | none =>
      refine .inl ⟨stop e, ?_⟩
      rw [List.drop_eq_nil_of_le (List.getElem?_eq_none_iff.mp e)] at go
      refine go H2 t2 (R2.unwipe u2) ⟨acc, hD2, ?_⟩
      rw [List.append_nil]; exact rr
    | some d =>
      obtain ⟨g1, g2⟩ := gof d e
      have hi : i < ds.length := (List.getElem?_eq_some_iff.mp e).1
      have ed : ds.drop i = d :: ds.drop (i + 1) := by
        rw [List.drop_eq_getElem_cons hi]
        rw [List.getElem?_eq_getElem hi] at e
        cases e; rfl
      rw [ed] at go
      refine .inr ⟨g1, fun H3 => ∃ τ2 acc accd, StR L P (rid H3 D) (L2.wipe σ vs) τ2 ∧ Tr H1 (Own σ τ1) (rid H3 D) (Own σ τ2) ∧ allUn τ2 vs = true ∧ H3 D = some (.lst acc) ∧ Rps L (hid (rid H3 D) (Hd P σ τ2)) accd acc ∧ acc.length ≤ i + 1 ∧ LcEnd L P Q H1 σ τ1 D accd (mLcGo g tt m vs (ds.drop (i + 1)) τ2), fun H3 q => ⟨k - 1, by omega, by omega, q⟩, fun x H3 y => ?_⟩
      obtain ⟨sm, rx⟩ := g2 x H3 y
      unfold mLcGo at go
      cases eg : g d τ2 with
      | none => rw [eg] at go; exact go.elim
      | some τ4 =>
        rw [eg] at go
        refine ⟨fun a => P.B a ∨ a = D, τ2, d, τ4, R2'.same sm, rx, eg, fun σ4 H4 t4 R4 w4 => ⟨w4.trans (wipe_idem vs vs fun _ h => h), fun a => P.B a ∨ a = D, τ4, R4, ?_⟩⟩
        have t24 : Tr H2 (Own (L2.wipe σ vs) τ2) H4 (Own σ4 τ4) := (Tr.of sm).trans t4
        have D4 : H4 D = some (.lst acc) := t24.keep D _ hD2 fun z => noW D z rfl
        have hl4 : σ4.length = σ.length := by
          have q := congrArg List.length w4
          rw [L2.wipe_length, L2.wipe_length, L2.wipe_length] at q
          exact q
        have go : LcEnd L P Q H1 σ τ1 D accd ((tt τ4).nox.bind fun k => fun τ => if k = true then (m τ).nox.bind fun y => fun τ => (mLcGo g tt m vs (ds.drop (i + 1)) (Sm.wipeS τ vs)).bind fun ys => fun τ => .ok (y :: ys) τ else mLcGo g tt m vs (ds.drop (i + 1)) (Sm.wipeS τ vs)) := go
        revert go
        cases tt τ4 with
        | exc c xs τ' => exact fun go => go.elim
        | fail => exact fun go => go.elim
        | ok kk τ5 =>
          intro go b H5 t5 R5 rb
          cases rb
          have t25 := t24.trans t5
          have D5 : H5 D = some (.lst acc) := t25.keep D _ hD2 fun z => noW D z rfl
          cases kk with
          | false =>
            refine (if_neg Bool.false_ne_true).mpr ?_
            obtain ⟨S, t, u⟩ := turn_end hb u2 hl4 R2' t25 R5 w4
            exact ⟨_, acc, accd, S, t2.trans t, u, D5, Rps.same (R2.unwipe u2 |>.fz t) rr, Nat.le_succ_of_le hl, go⟩
          | true =>
            refine (if_pos rfl).mpr ⟨fun a => P.B a ∨ a = D, τ5, R5, ?_⟩
            have go : LcEnd L P Q H1 σ τ1 D accd ((m τ5).nox.bind fun y => fun τ => (mLcGo g tt m vs (ds.drop (i + 1)) (Sm.wipeS τ vs)).bind fun ys => fun τ => .ok (y :: ys) τ) := go
            revert go
            cases m τ5 with
            | exc c xs τ' => exact fun go => go.elim
            | fail => exact fun go => go.elim
            | ok yd τ6 =>
              intro go v H6 t6 R6 r6
              have t26 := t25.trans t6
              have D6 : H6 D = some (.lst acc) := t26.keep D _ hD2 fun z => noW D z rfl
              obtain ⟨S, t, u⟩ := turn_end hb u2 hl4 R2' t26 R6 w4
              refine ⟨acc, D6, Nat.lt_of_le_of_lt hl (Nat.lt_of_lt_of_le hi (Nat.le_trans hz (by decide))), Sm.wipeS τ6 vs, acc ++ [v], accd ++ [yd], ?_, ?_, u, upd_same, ?_, by rw [List.length_append]; exact Nat.succ_le_succ hl, ?_⟩
              · rw [rid_upd2]; exact S
              · rw [rid_upd2]; exact t2.trans t
              · rw [rid_upd2]
                refine (Rps.same (R2.unwipe u2 |>.fz t) rr).app (.cons ?_ .nil)
                have S6 := R6.showD hb
                obtain ⟨tw, S7⟩ := S6.wipeS (vs := vs)
                have no6 : ∀ a, Own σ4 τ6 a → a ≠ D := fun a q z => R6.dis a q (.inr z)
                refine ((r6.same (hide_D no6 nb).2).same (S6.fz tw)).same (hid_mono (.refl _) fun a z => ?_)
                rcases z with z | z
                · refine .inl ?_
                  have w : L2.wipe σ4 vs = L2.wipe σ vs := w4.trans (wipe_idem vs vs fun _ h => h)
                  rw [← own_wipe u a, w, own_wipe u a]
                  exact z
                · exact .inr z
              · have go : LcEnd L P Q H1 σ τ1 D accd ((mLcGo g tt m vs (ds.drop (i + 1)) (Sm.wipeS τ6 vs)).bind fun ys => fun τ => .ok (yd :: ys) τ) := go
                revert go
                cases mLcGo g tt m vs (ds.drop (i + 1)) (Sm.wipeS τ6 vs) with
                | exc c xs τ' => exact fun go => go.elim
                | fail => exact fun go => go.elim
                | ok ys τe =>
                  intro go H' a1 a2 a3
                  refine go H' a1 a2 ?_
                  rw [List.append_assoc] at a3
                  exact a3
theorem sF_lc {elt tg iter : Expr} {ifs : List Expr} {scope : Scope} {own : List (Str × Nat)} {mi : M (List D)} {g : MG} {tt : M Bool} {m : M D} (hc : X.calm = true) (hN : X.N.Nodup) (hi : SI L P E X tg iter mi) (ok : BlkOk X.N X.env.scope scope own)
    (hg : ∀ (P : Pa) (s : Shared) (H : Hp) (C : Addr) (cl : List (Str × Addr)) (fp : List Addr), SC L P (own.map (·.2)) (X.blk s H scope (compEnvC scope cl C X.env) fp) tg g)
    (ht : ∀ (P : Pa) (s : Shared) (H : Hp) (C : Addr) (cl : List (Str × Addr)) (fp : List Addr), STs L P Eno (X.blk s H scope (compEnvC scope cl C X.env) fp) ifs tt)
    (he : ∀ (P : Pa) (s : Shared) (H : Hp) (C : Addr) (cl : List (Str × Addr)) (fp : List Addr), SE L P Eno (X.blk s H scope (compEnvC scope cl C X.env) fp) elt m) (hs : ∀ x, foldedSetIterable iter X.env x = pure x := by intro _; rfl) :
    SF L P E X (.ListComp elt [⟨tg, iter, ifs, 0⟩] scope pos) (mLc mi g tt m (own.map (·.2))) :=
  PE.weak (pe_lc hc hN hi ok (fun s H C cl fp => PG.exB (A := P.args) fun P => hg P s H C cl fp) (fun s H C cl fp => PTs.exB (A := P.args) fun P => ht P s H C cl fp) (fun s H C cl fp => PE.exB (A := P.args) fun P => he P s H C cl fp) hs) fun σ H Q h => tLc_of h
/-- name = [..] on one line, the name a local: the names of the block are swapped out -/
theorem sS_setLcO {i : Nat} {y : Str} {py spos : Pos} {elt tg iter : Expr} {ifs : List Expr} {scope : Scope} {own : List (Str × Nat)} {mi : M (List D)} {g : MG} {tt : M Bool} {m : M D} {W : WX} (hc : X.calm = true) (hN : X.N.Nodup) (hy : X.N[i]? = some y) (hyl : X.env.scope.names.lookup y = some .local) (hi : SI L P (WE W) X tg iter mi) (ok : BlkOk X.N X.env.scope scope own)
    (hg : ∀ (P : Pa) (s : Shared) (H : Hp) (C : Addr) (cl : List (Str × Addr)) (fp : List Addr), SC L P (own.map (·.2)) (X.blk s H scope (compEnvC scope cl C X.env) fp) tg g)
    (ht : ∀ (P : Pa) (s : Shared) (H : Hp) (C : Addr) (cl : List (Str × Addr)) (fp : List Addr), STs L P Eno (X.blk s H scope (compEnvC scope cl C X.env) fp) ifs tt)
    (he : ∀ (P : Pa) (s : Shared) (H : Hp) (C : Addr) (cl : List (Str × Addr)) (fp : List Addr), SE L P Eno (X.blk s H scope (compEnvC scope cl C X.env) fp) elt m)
    (hsw : swapsWith (.ListComp elt [⟨tg, iter, ifs, 0⟩] scope pos) (some (.Name y py)) spos.line X.env = pure true) (hs : ∀ x, foldedSetIterable iter X.env x = pure x := by intro _; rfl) :
    SS L P W X (.Assign [.Name y py] (.ListComp elt [⟨tg, iter, ifs, 0⟩] scope pos) spos) (mSetO i (mLc mi g tt m (own.map (·.2)))) :=
  PS.weak (ps_setLc hc hN hy hyl hsw hi ok (fun s H C cl fp => PG.exB (A := P.args) fun P => hg P s H C cl fp) (fun s H C cl fp => PTs.exB (A := P.args) fun P => ht P s H C cl fp) (fun s H C cl fp => PE.exB (A := P.args) fun P => he P s H C cl fp) hs) fun D σ H ⟨τ, R, h⟩ => by
    refine tLc_of ⟨τ, R, ?_⟩
    have h : SPost L P W H σ τ ((mLc mi g tt m (own.map (·.2)) τ).st fun d τ => SR.opt (setOw i d τ)) D := h
    revert h
    cases mLc mi g tt m (own.map (·.2)) τ with
    | ok d τ1 =>
      intro h a H1 t1 R1 r1
      obtain ⟨τ', e, q⟩ := SPost.opt h
      obtain ⟨hi, rfl⟩ := setOw_some e
      obtain ⟨tr, R2⟩ := R1.setOw hi r1
      exact q _ H1 (t1.trans tr) R2
    | exc c xs τ' => exact fun h cls od H' x y z => h cls od σ H' x y z
    | fail => exact fun h => h
end
end Sm
set_option Elab.async false
set_option linter.all false
set_option maxRecDepth 100000
set_option maxHeartbeats 400000
/-! SmH: what is walked, built-in calls, slices, chains, truth, lists that change. -/
namespace Sm
open PySem PySem.Spec PyProof.Rows L2 RZ
section
variable {L : Lay} {P : Pa} {W : WX} {X : Cx} {E : L2.St → XK} {pos : Pos} {e tg : Expr} {es : List Expr} {m : M D} {ms : M (List D)}

/-! ### what is walked -/
def iSeq (K : PySem.W.Frag) (tl : TE) : TI := fun σ H R => tl σ H fun x H1 => ∃ a, x = .ref a ∧ (((∃ xs, SqL K H1 a xs) ∧ R (Itl K a) H1) ∨ ((∃ xs, SqT K H1 a xs) ∧ R (Itt K a) H1))
theorem pi_seq {l : Expr} {tl : TE} (hl : PE X l tl) : PI X tg l (iSeq X.K tl) := by
  refine ⟨fun pins s σ H R I h => ?_⟩
  refine thn (hl.run pins s σ H _ I h) fun v s1 ⟨x, H1, I1, r1, q1⟩ => ?_
  obtain ⟨a, e, q⟩ := q1
  subst e
  cases r1
  rcases q with ⟨⟨xs, hq⟩, q⟩ | ⟨⟨xs, hq⟩, q⟩
  · obtain ⟨its, rv, p, hz⟩ := I1.list hq
    refine wpAny_pyIter_list p.isList ?_
    refine ⟨s1.heap.objs.size, [s1.heap.objs.size], _, _, H1, rfl, I1.kept (t' := s1.toks) fun b o e => Heap.get?_push_of_some _ e, turn_list a _, ⟨_, Heap.get?_push_size _ rfl, rfl, rfl⟩, fun b hb => ?_, q⟩
    have e : b = s1.heap.objs.size := by simpa using hb
    subst e
    exact I1.fpOk (Nat.le_refl _) (I1.hok.fresh (Nat.le_refl _))
  · obtain ⟨its, rv, p, hz⟩ := I1.tuple hq
    refine wpAny_pyIter_tuple (show s1.heap.IsTuple a its.toArray from p) ?_
    refine ⟨s1.heap.objs.size, [s1.heap.objs.size], _, _, H1, rfl, I1.kept (t' := s1.toks) fun b o e => Heap.get?_push_of_some _ e, turn_tuple a _, ⟨_, Heap.get?_push_size _ rfl, rfl, rfl⟩, fun b hb => ?_, q⟩
    have e : b = s1.heap.objs.size := by simpa using hb
    subst e
    exact I1.fpOk (Nat.le_refl _) (I1.hok.fresh (Nat.le_refl _))
def asS : D → Option (List D)
  | .lst ds => some ds
  | .tup ds => some ds
  | _ => none
@[simp] theorem asS_lst {ds : List D} : asS (.lst ds) = some ds := rfl
@[simp] theorem asS_tup {ds : List D} : asS (.tup ds) = some ds := rfl
/-- for x in a list or a tuple -/
theorem sI_seq {l : Expr} (hK : X.K = L.K) (hl : SE L P E X l m) : SI L P E X tg l (mOn asS m) :=
  PI.weak (pi_seq hl) fun σ H R h => by
    obtain ⟨τ, R0, h⟩ := tI_on h
    refine ⟨τ, R0, h.imp fun v H1 ⟨d, ds, τ1, R1, r1, e, q⟩ => ?_⟩
    rw [hK]
    cases d with
    | tup xs =>
      cases e
      obtain ⟨a, vs, rfl, s, rr⟩ := Rp.tup_iff.mp r1
      exact ⟨a, rfl, .inr ⟨⟨vs, SqT.same hid_le s⟩, q _ H1 .refl R1 (itt_ok s rr)⟩⟩
    | lst xs =>
      cases e
      obtain ⟨a, vs, rfl, s, rr⟩ := Rp.lst_iff.mp r1
      exact ⟨a, rfl, .inl ⟨⟨vs, .inl (.inl (hid_le _ _ s))⟩, q _ H1 .refl R1 (itl_ok s rr)⟩⟩
    | _ => cases e
theorem tI_args {f : List D → Option (List D)} {R : It → Hp → Prop} {σ : L2.St} {H : Hp} (h : tI L P E (fun τ => (ms τ).bind fun xs => fun τ => Res.lift (f xs) τ) σ H R) :
    ∃ τ, StR L P H σ τ ∧ Post L P (RVs L) H σ τ (ms τ) (fun vs H1 => ∃ d ds τ1, StR L P H1 σ τ1 ∧ Rps L (hid H1 (Hd P σ τ1)) d vs ∧ f d = some ds ∧
      ∀ J H', Tr H1 (Own σ τ1) H' (Own σ τ1) → StR L P H' σ τ1 → ItR L J (fun H2 A2 => Same (hid H' (Hd P σ τ1)) (hid H2 A2)) ds → R J H') (E σ) := by
  obtain ⟨τ, R0, h⟩ := h
  refine ⟨τ, R0, ?_⟩
  revert h
  show (match (ms τ).bind fun d => fun τ => Res.lift (f d) τ with | .ok ds τ' => _ | .exc c xs τ' => _ | .fail => _) → _
  cases ms τ with
  | ok d τ1 =>
    intro h v H1 t1 R1 r1
    rw [Res.bind_ok] at h
    cases e : f d with
    | none => rw [e] at h; exact h.elim
    | some ds =>
      rw [e] at h
      exact ⟨d, ds, τ1, R1, r1, e, fun J H' t R' it => h J H' (t1.trans t) R' it⟩
  | exc c xs τ' => exact fun h => h
  | fail => exact fun h => h
def mOns (f : List D → Option (List D)) (ms : M (List D)) : M (List D) := fun τ => (ms τ).bind fun xs => fun τ => Res.lift (f xs) τ
theorem Rps.one {F : Hp} {d : D} {vs : List V} (h : Rps L F [d] vs) : ∃ v, vs = [v] ∧ Rp L F d v := by
  unfold Rps at h
  obtain ⟨v, r, rfl, h1, h2⟩ := h
  unfold Rps at h2
  exact ⟨v, by rw [h2], h1⟩
theorem Rps.two {F : Hp} {d d' : D} {vs : List V} (h : Rps L F [d, d'] vs) : ∃ v v', vs = [v, v'] ∧ Rp L F d v ∧ Rp L F d' v' := by
  unfold Rps at h
  obtain ⟨v, r, rfl, h1, h2⟩ := h
  obtain ⟨v', rfl, h3⟩ := Rps.one h2
  exact ⟨v, v', rfl, h1, h3⟩
theorem sI_range1 {a : Expr} {p : Pos} (hg : Gl X "range") (hm : X.mg "range" = none) (ha : SA L P E X [a] ms) (hs : starEach [a] X.env = [(false, eval a X.env)] := by rfl) : SI L P E X tg (.Call (.Name "range" p) [a] [] pos) (mOns rng1 ms) :=
  PI.weak (pi_range1 hg hm ha hs) fun σ H R h => by
    obtain ⟨τ, R0, h⟩ := tI_args h
    refine ⟨τ, R0, h.imp fun vs H1 ⟨d, ds, τ1, R1, r1, e, q⟩ => ?_⟩
    unfold rng1 at e
    split at e
    · rename_i n
      split at e
      · rename_i hn
        cases e
        obtain ⟨v, rfl, rv⟩ := r1.one
        rw [Rp.int_iff.mp rv]
        exact ⟨n, rfl, by omega, by omega, q _ H1 .refl R1 itr_ok⟩
      · cases e
    · cases e
theorem sI_range2 {a b : Expr} {p : Pos} (hg : Gl X "range") (hm : X.mg "range" = none) (ha : SA L P E X [a, b] ms) (hs : starEach [a, b] X.env = [(false, eval a X.env), (false, eval b X.env)] := by rfl) (hs2 : starEach [b] X.env = [(false, eval b X.env)] := by rfl) :
    SI L P E X tg (.Call (.Name "range" p) [a, b] [] pos) (mOns rng2 ms) :=
  PI.weak (pi_range2 hg hm ha hs hs2) fun σ H R h => by
    obtain ⟨τ, R0, h⟩ := tI_args h
    refine ⟨τ, R0, h.imp fun vs H1 ⟨d, ds, τ1, R1, r1, e, q⟩ => ?_⟩
    unfold rng2 at e
    split at e
    · rename_i lo hi
      split at e
      · rename_i hn
        cases e
        obtain ⟨v, v', rfl, rv, rv'⟩ := r1.two
        rw [Rp.int_iff.mp rv, Rp.int_iff.mp rv']
        exact ⟨lo, hi, rfl, ⟨by omega, by omega, by omega, by omega⟩, q _ H1 .refl R1 itr_ok⟩
      · cases e
    · cases e
/-- range(hi, lo, -1) -/
def downFrom (hi : Int) : Nat → List D
  | 0 => []
  | n + 1 => .int hi :: downFrom (hi - 1) n
theorem downFrom_get : ∀ (n : Nat) (hi : Int) (i : Nat), (downFrom hi n)[i]? = if i < n then some (.int (hi + (i : Nat) * (-1))) else none
  | 0, hi, i => by simp [downFrom]
  | n + 1, hi, 0 => by simp [downFrom]
  | n + 1, hi, i + 1 => by
    show (downFrom (hi - 1) n)[i]? = _
    rw [downFrom_get n (hi - 1) i]
    by_cases h : i < n
    · rw [if_pos h, if_pos (by omega)]
      congr 2
      omega
    · rw [if_neg h, if_neg (by omega)]
theorem itc_ok {hi : Int} {n : Nat} {G : Hp → (Addr → Prop) → Prop} : ItR L (Itc hi (-1) n) G (downFrom hi n) := by
  intro i H A g hA
  rw [downFrom_get]
  by_cases h : i < n
  · rw [if_pos h]
    refine ⟨fun d e => ⟨h, fun x H' y => ?_⟩, fun e => (by cases e)⟩
    obtain ⟨rfl, rfl⟩ := y
    cases e
    exact ⟨.refl _, Rp.int_iff.mpr rfl⟩
  · rw [if_neg h]
    exact ⟨fun d e => (by cases e), fun _ => (show n ≤ i by omega)⟩
def rng3 : List D → Option (List D)
  | [.int hi, .int lo, .int c] => if c = -1 ∧ lo.natAbs < 2 ^ 60 ∧ hi.natAbs < 2 ^ 60 then some (downFrom hi (hi - lo).toNat) else none
  | _ => none
theorem Rps.three {F : Hp} {d d' d'' : D} {vs : List V} (h : Rps L F [d, d', d''] vs) : ∃ v v' v'', vs = [v, v', v''] ∧ Rp L F d v ∧ Rp L F d' v' ∧ Rp L F d'' v'' := by
  unfold Rps at h
  obtain ⟨v, r, rfl, h1, h2⟩ := h
  obtain ⟨v', v'', rfl, h3, h4⟩ := Rps.two h2
  exact ⟨v, v', v'', rfl, h1, h3, h4⟩
theorem sI_range3 {a b c : Expr} {p : Pos} (hg : Gl X "range") (hm : X.mg "range" = none) (ha : SA L P E X [a, b, c] ms) (hs : starEach [a, b, c] X.env = (false, eval a X.env) :: starEach [b, c] X.env := by rfl) (hpl : (backTo pos (starEach [b, c] X.env)).any (·.1) = false := by rfl) :
    SI L P E X tg (.Call (.Name "range" p) [a, b, c] [] pos) (mOns rng3 ms) :=
  PI.weak (pi_range3 hg hm ha hs hpl) fun σ H R h => by
    obtain ⟨τ, R0, h⟩ := tI_args h
    refine ⟨τ, R0, h.imp fun vs H1 ⟨d, ds, τ1, R1, r1, e, q⟩ => ?_⟩
    unfold rng3 at e
    split at e
    · rename_i hi lo c
      split at e
      · rename_i hn
        obtain ⟨rfl, h1, h2⟩ := hn
        cases e
        obtain ⟨v, v', v'', rfl, rv, rv', rv''⟩ := r1.three
        rw [Rp.int_iff.mp rv, Rp.int_iff.mp rv', Rp.int_iff.mp rv'']
        exact ⟨hi, lo, -1, (hi - lo).toNat, rfl, RgC.neg (by omega) (by omega) (by omega) (by omega), q _ H1 .refl R1 itc_ok⟩
      · cases e
    · cases e
/-- zip -/
def zipD : List D → List D → List D
  | x :: xs, y :: ys => .tup [x, y] :: zipD xs ys
  | _, _ => []
theorem zipD_get : ∀ (xs ys : List D) (i : Nat), (∀ d, (zipD xs ys)[i]? = some d → ∃ x y, xs[i]? = some x ∧ ys[i]? = some y ∧ d = .tup [x, y]) ∧ ((zipD xs ys)[i]? = none → xs.length ≤ i ∨ ys.length ≤ i)
  | [], _, i => by simp [zipD]
  | _ :: _, [], i => by simp [zipD]
  | x :: xs, y :: ys, 0 => ⟨fun d e => ⟨x, y, rfl, rfl, (Option.some.inj e).symm⟩, fun e => (by simp [zipD] at e)⟩
  | x :: xs, y :: ys, i + 1 => by
    obtain ⟨h1, h2⟩ := zipD_get xs ys i
    refine ⟨fun d e => ?_, fun e => ?_⟩
    · obtain ⟨x', y', e1, e2, e3⟩ := h1 d e
      exact ⟨x', y', e1, e2, e3⟩
    · rcases h2 e with q | q
      · exact .inl (Nat.succ_le_succ q)
      · exact .inr (Nat.succ_le_succ q)
theorem new_tup2 {H : Hp} {A : Addr → Prop} {T : Addr} {x y : V} {d d' : D} (hA : ∀ q, A q → ∃ o, H q = some o) (hT : H T = none) (r1 : Rp L (hid H A) d x) (r2 : Rp L (hid H A) d' y) : Rp L (hid (upd H T (.tup [x, y])) A) (.tup [d, d']) (.ref T) :=
  new_tup hA hT (.cons r1 (.cons r2 .nil))
theorem itz_ok {a b : Addr} {vs us : List V} {xs ys : List D} {F : Hp} (s : F a = some (.lst vs)) (s' : F b = some (.lst us)) (r : Rps L F xs vs) (r' : Rps L F ys us) : ItR L (Itz L.K a b) (fun H2 A2 => Same F (hid H2 A2)) (zipD xs ys) := by
  intro i H A g hA
  have q : SqL L.K H a vs := .inl (.inl ((g.trans hid_le) _ _ s))
  have q' : SqL L.K H b us := .inl (.inl ((g.trans hid_le) _ _ s'))
  obtain ⟨z1, z2⟩ := zipD_get xs ys i
  refine ⟨fun d e => ?_, fun e => ?_⟩
  · obtain ⟨x, y, e1, e2, rfl⟩ := z1 d e
    obtain ⟨v, hv, rv⟩ := r.get e1
    obtain ⟨u, hu, ru⟩ := r'.get e2
    refine ⟨⟨vs, us, v, u, q, q', hv, hu⟩, fun t H' yy => ?_⟩
    obtain ⟨T, x1, y1, rfl, hT, rfl, f1, f2⟩ := yy
    have ev : v = x1 := Option.some.inj (hv.symm.trans (f1 vs q))
    have eu : u = y1 := Option.some.inj (hu.symm.trans (f2 us q'))
    subst ev eu
    exact ⟨same_upd hT, new_tup2 hA hT (rv.same g) (ru.same g)⟩
  · refine ⟨vs, us, q, q', ?_⟩
    rw [r.length, r'.length]
    exact z2 e
theorem itzt_ok {a b : Addr} {vs us : List V} {xs ys : List D} {F : Hp} (s : SqT L.K F a vs) (s' : SqT L.K F b us) (r : Rps L F xs vs) (r' : Rps L F ys us) : ItR L (ItzT L.K a b) (fun H2 A2 => Same F (hid H2 A2)) (zipD xs ys) := by
  intro i H A g hA
  have q : SqT L.K H a vs := SqT.same (g.trans hid_le) s
  have q' : SqT L.K H b us := SqT.same (g.trans hid_le) s'
  obtain ⟨z1, z2⟩ := zipD_get xs ys i
  refine ⟨fun d e => ?_, fun e => ?_⟩
  · obtain ⟨x, y, e1, e2, rfl⟩ := z1 d e
    obtain ⟨v, hv, rv⟩ := r.get e1
    obtain ⟨u, hu, ru⟩ := r'.get e2
    refine ⟨⟨vs, us, v, u, q, q', hv, hu⟩, fun t H' yy => ?_⟩
    obtain ⟨T, x1, y1, rfl, hT, rfl, f1, f2⟩ := yy
    have ev : v = x1 := Option.some.inj (hv.symm.trans (f1 vs q))
    have eu : u = y1 := Option.some.inj (hu.symm.trans (f2 us q'))
    subst ev eu
    exact ⟨same_upd hT, new_tup2 hA hT (rv.same g) (ru.same g)⟩
  · refine ⟨vs, us, q, q', ?_⟩
    rw [r.length, r'.length]
    exact z2 e
def zip2 : List D → Option (List D)
  | [.lst xs, .lst ys] => some (zipD xs ys)
  | [.tup xs, .tup ys] => some (zipD xs ys)
  | _ => none
theorem sI_zip {a b : Expr} {p tpos : Pos} {elts : List Expr} {kk : Nat} (hK : X.K = L.K) (hg : Gl X "zip") (hm : X.mg "zip" = none) (ha : SA L P E X [a, b] ms) (hs : starEach [a, b] X.env = (false, eval a X.env) :: starEach [b] X.env := by rfl) (hpl : (backTo pos (starEach [b] X.env)).any (·.1) = false := by rfl) :
    SI L P E X (.Tuple elts kk tpos) (.Call (.Name "zip" p) [a, b] [] pos) (mOns zip2 ms) :=
  PI.weak (pi_zipA hg hm ha hs hpl) fun σ H R h => by
    obtain ⟨τ, R0, h⟩ := tI_args h
    refine ⟨τ, R0, h.imp fun vs H1 ⟨d, ds, τ1, R1, r1, e, q⟩ => ?_⟩
    rw [hK]
    unfold zip2 at e
    split at e
    · rename_i xs ys
      cases e
      obtain ⟨v, v', rfl, rv, rv'⟩ := r1.two
      obtain ⟨a1, us, rfl, s1, q1⟩ := Rp.lst_iff.mp rv
      obtain ⟨a2, us2, rfl, s2, q2⟩ := Rp.lst_iff.mp rv'
      exact ⟨a1, a2, us, us2, rfl, .inl ⟨.inl (.inl (hid_le _ _ s1)), .inl (.inl (hid_le _ _ s2)), q _ H1 .refl R1 (itz_ok s1 s2 q1 q2)⟩⟩
    · rename_i xs ys
      cases e
      obtain ⟨v, v', rfl, rv, rv'⟩ := r1.two
      obtain ⟨a1, us, rfl, s1, q1⟩ := Rp.tup_iff.mp rv
      obtain ⟨a2, us2, rfl, s2, q2⟩ := Rp.tup_iff.mp rv'
      exact ⟨a1, a2, us, us2, rfl, .inr ⟨SqT.same hid_le s1, SqT.same hid_le s2, q _ H1 .refl R1 (itzt_ok s1 s2 q1 q2)⟩⟩
    · cases e
/-- enumerate -/
def enumD : Int → List D → List D
  | _, [] => []
  | k, x :: xs => .tup [.int k, x] :: enumD (k + 1) xs
theorem enumD_get : ∀ (xs : List D) (k : Int) (i : Nat), (enumD k xs)[i]? = (xs[i]?).map fun x => .tup [.int (k + (i : Nat)), x]
  | [], k, i => by simp [enumD]
  | x :: xs, k, 0 => by simp [enumD]
  | x :: xs, k, i + 1 => by
    show (enumD (k + 1) xs)[i]? = _
    rw [enumD_get xs (k + 1) i, List.getElem?_cons_succ]
    have e : k + 1 + (i : Nat) = k + ((i + 1 : Nat) : Int) := by omega
    rw [e]
theorem ite_ok {a : Addr} {vs : List V} {xs : List D} {F : Hp} (s : F a = some (.lst vs)) (r : Rps L F xs vs) : ItR L (Ite L.K a) (fun H2 A2 => Same F (hid H2 A2)) (enumD 0 xs) := by
  intro i H A g hA
  have q : SqL L.K H a vs := .inl (.inl ((g.trans hid_le) _ _ s))
  rw [enumD_get]
  cases e : xs[i]? with
  | none =>
    refine ⟨fun d e => (by cases e), fun _ => ⟨vs, q, ?_⟩⟩
    rw [r.length]
    exact List.getElem?_eq_none_iff.mp e
  | some x =>
    refine ⟨fun d ed => ?_, fun e => (by cases e)⟩
    cases ed
    obtain ⟨v, hv, rv⟩ := r.get e
    refine ⟨⟨vs, v, q, hv⟩, fun t H' yy => ?_⟩
    obtain ⟨T, x1, rfl, hT, rfl, f1⟩ := yy
    have ev : v = x1 := Option.some.inj (hv.symm.trans (f1 vs q))
    subst ev
    have e0 : (0 : Int) + (i : Nat) = (i : Nat) := Int.zero_add _
    rw [e0]
    exact ⟨same_upd hT, new_tup2 hA hT .mk_int (rv.same g)⟩
def enum1 : List D → Option (List D)
  | [.lst xs] => some (enumD 0 xs)
  | _ => none
theorem sI_enum {a : Expr} {p tpos : Pos} {elts : List Expr} {kk : Nat} (hK : X.K = L.K) (hg : Gl X "enumerate") (hm : X.mg "enumerate" = none) (ha : SA L P E X [a] ms) (hs : starEach [a] X.env = [(false, eval a X.env)] := by rfl) :
    SI L P E X (.Tuple elts kk tpos) (.Call (.Name "enumerate" p) [a] [] pos) (mOns enum1 ms) :=
  PI.weak (pi_enum hg hm ha hs) fun σ H R h => by
    obtain ⟨τ, R0, h⟩ := tI_args h
    refine ⟨τ, R0, h.imp fun vs H1 ⟨d, ds, τ1, R1, r1, e, q⟩ => ?_⟩
    rw [hK]
    unfold enum1 at e
    split at e
    · cases e
      obtain ⟨v, rfl, rv⟩ := r1.one
      obtain ⟨a1, us, rfl, s1, q1⟩ := Rp.lst_iff.mp rv
      exact ⟨a1, us, rfl, .inl (.inl (hid_le _ _ s1)), q _ H1 .refl R1 (ite_ok s1 q1)⟩
    · cases e

/-! ### built-in functions -/
def mFn (f : List D → Option D) (ms : M (List D)) : M D := fun τ => (ms τ).bind fun xs => fun τ => Res.lift (f xs) τ
theorem tCB_of {r : List V → Hp → VK → Prop} {f : List D → Option D} (hf : FnS L r f) (σ : L2.St) (H : Hp) (Q : VK) (h : tE L P E (mFn f ms) σ H Q) : tCB r (tA L P E ms) σ H Q := by
  obtain ⟨τ, R, h⟩ := h
  refine ⟨τ, R, (Post.split (R := RVs L) h).imp fun xs H1 ⟨ds, τ1, t1, R1, r1, h1⟩ => ?_⟩
  obtain ⟨d, e, q⟩ := h1.done R1
  exact hf ds d xs H1 (Hd P σ τ1) Q e (r1.bps hid_le) (fun p hp => R1.hd_there hp) q
theorem sE_callB {r : List V → Hp → VK → Prop} {f : List D → Option D} {id : String} {x : Str} {p : Pos} (hc : CallR X (.builtin id) r) (hf : FnS L r f) (hg : Gl X x) (hm : X.mg x = none) (hv : bootBuiltins x = some (.builtin id)) (ha : SA L P E X (e :: es) ms) (hn : x ≠ "__name__" := by decide) (hdb : (x == ("__debug__" : Str)) = false := by decide)
    (he : starEach (e :: es) X.env = (false, eval e X.env) :: starEach es X.env := by rfl) (hpl : (backTo pos (starEach es X.env)).any (·.1) = false := by rfl) : SE L P E X (.Call (.Name x p) (e :: es) [] pos) (mFn f ms) :=
  PE.weak (pe_callB hc hg hm hv ha hn hdb he hpl) fun σ H Q h => tCB_of hf σ H Q h
theorem sE_callTy {r : List V → Hp → VK → Prop} {f : List D → Option D} {T : String} {x : Str} {p : Pos} (hc : CallR X (.type T) r) (hf : FnS L r f) (hg : Gl X x) (hm : X.mg x = none) (hv : bootBuiltins x = some (.type T)) (ha : SA L P E X (e :: es) ms) (hn : x ≠ "__name__" := by decide) (hdb : (x == ("__debug__" : Str)) = false := by decide)
    (he : starEach (e :: es) X.env = (false, eval e X.env) :: starEach es X.env := by rfl) (hpl : (backTo pos (starEach es X.env)).any (·.1) = false := by rfl) : SE L P E X (.Call (.Name x p) (e :: es) [] pos) (mFn f ms) :=
  PE.weak (pe_callTy hc hg hm hv ha hn hdb he hpl) fun σ H Q h => tCB_of hf σ H Q h
/-- an owned variable's value, read at once -/
def peek (i : Nat) (τ : List Sl) : Option D := (τ[i]?).bind Sl.get
theorem peek_ok {H : Hp} {σ : L2.St} {τ : List Sl} (R : StR L P H σ τ) {i : Nat} {d : D} (h : peek i τ = some d) : ∃ v, σ[i]? = some (some v) ∧ Bp L (hid H (Hd P σ τ)) H d v := by
  obtain ⟨t, e, g⟩ := Option.bind_eq_some_iff.mp h
  exact (R.sl i t e).bp hid_le g
theorem StR.vis {H : Hp} {σ : L2.St} {τ : List Sl} (R : StR L P H σ τ) {i : Nat} {t : Sl} (h : τ[i]? = some t) (hn : t ≠ .un) : ∃ v, σ[i]? = some (some v) := by
  have q := R.sl i t h
  cases t with
  | un => exact absurd rfl hn
  | fz d => obtain ⟨v, e, _⟩ := q; exact ⟨v, e⟩
  | ow d => obtain ⟨v, e, _⟩ := q; exact ⟨_, e⟩
  | le d => obtain ⟨v, e, _⟩ := q; exact ⟨_, e⟩
  | io k d => obtain ⟨v, e, _⟩ := q; exact ⟨_, e⟩
def mFnP (f : List D → Option D) (i : Nat) : M D := fun τ => Res.lift ((peek i τ).bind fun d => f [d]) τ
theorem sE_callBP {r : List V → Hp → VK → Prop} {f : List D → Option D} {id : String} {x y : Str} {p p' : Pos} (i : Nat) (hc : CallR X (.builtin id) r) (hf : FnS L r f) (hg : Gl X x) (hm : X.mg x = none) (hv : bootBuiltins x = some (.builtin id)) (ha : PE X (.Name y p') (tVar i)) (hn : x ≠ "__name__" := by decide) (hdb : (x == ("__debug__" : Str)) = false := by decide)
    (he : starEach [.Name y p'] X.env = (false, eval (.Name y p') X.env) :: starEach [] X.env := by rfl) : SE L P E X (.Call (.Name x p) [.Name y p'] [] pos) (mFnP f i) :=
  PE.weak (pe_callB hc hg hm hv (pa_cons ha pa_nil he) hn hdb he) fun σ H Q ⟨τ, R, h⟩ => by
    obtain ⟨d, e, q⟩ := h.done R
    obtain ⟨d0, e0, e1⟩ := Option.bind_eq_some_iff.mp e
    obtain ⟨v, hv, rb⟩ := peek_ok R e0
    exact ⟨v, hv, hf [d0] d [v] H (Hd P σ τ) Q e1 ⟨v, [], rfl, rb, rfl⟩ (fun p hp => R.hd_there hp) q⟩
theorem sE_callTyP {r : List V → Hp → VK → Prop} {f : List D → Option D} {T : String} {x y : Str} {p p' : Pos} (i : Nat) (hc : CallR X (.type T) r) (hf : FnS L r f) (hg : Gl X x) (hm : X.mg x = none) (hv : bootBuiltins x = some (.type T)) (ha : PE X (.Name y p') (tVar i)) (hn : x ≠ "__name__" := by decide) (hdb : (x == ("__debug__" : Str)) = false := by decide)
    (he : starEach [.Name y p'] X.env = (false, eval (.Name y p') X.env) :: starEach [] X.env := by rfl) : SE L P E X (.Call (.Name x p) [.Name y p'] [] pos) (mFnP f i) :=
  PE.weak (pe_callTy hc hg hm hv (pa_cons ha pa_nil he) hn hdb he) fun σ H Q ⟨τ, R, h⟩ => by
    obtain ⟨d, e, q⟩ := h.done R
    obtain ⟨d0, e0, e1⟩ := Option.bind_eq_some_iff.mp e
    obtain ⟨v, hv, rb⟩ := peek_ok R e0
    exact ⟨v, hv, hf [d0] d [v] H (Hd P σ τ) Q e1 ⟨v, [], rfl, rb, rfl⟩ (fun p hp => R.hd_there hp) q⟩
end
end Sm
set_option Elab.async false
set_option linter.all false
set_option maxRecDepth 100000
set_option maxHeartbeats 400000
/-! SmI: the built-in functions one by one, isinstance, slices, chains, truth, lists that change. -/
namespace Sm
open PySem PySem.Spec PyProof.Rows L2
section
variable {L : Lay} {P : Pa} {W : WX} {X : Cx} {E : L2.St → XK} {pos : Pos} {e tg : Expr} {es : List Expr} {m : M D} {ms : M (List D)}

theorem Bps.one {F H : Hp} {d : D} {vs : List V} (h : Bps L F H [d] vs) : ∃ v, vs = [v] ∧ Bp L F H d v := by
  obtain ⟨v, r, rfl, h1, h2⟩ := h
  have h2 : r = [] := h2
  exact ⟨v, by rw [h2], h1⟩
theorem Bps.two {F H : Hp} {d d' : D} {vs : List V} (h : Bps L F H [d, d'] vs) : ∃ v v', vs = [v, v'] ∧ Bp L F H d v ∧ Bp L F H d' v' := by
  obtain ⟨v, r, rfl, h1, h2⟩ := h
  obtain ⟨v', rfl, h3⟩ := Bps.one h2
  exact ⟨v, v', rfl, h1, h3⟩
def dLen : List D → Option D
  | [.lst xs] => some (.int xs.length)
  | [.tup xs] => some (.int xs.length)
  | [.scr xs] => some (.int xs.length)
  | [.str z] => if z.length ≤ 16000000 then some (.int z.length) else none
  | _ => none
theorem fs_len : FnS L (fun xs H Q => ∃ x n, xs = [x] ∧ LenV L.K x H n ∧ Q (.int n) H) dLen := by
  intro ds d xs H A Q e r hA q
  unfold dLen at e
  split at e
  · cases e
    obtain ⟨v, rfl, rv⟩ := r.one
    obtain ⟨a, vs, rfl, h, rr⟩ := rv.lst
    refine ⟨_, _, rfl, .inl ⟨vs, .inl (.inl h), rfl⟩, ?_⟩
    rw [rr.length]
    exact q _ H (.refl _) .mk_int
  · cases e
    obtain ⟨v, rfl, rv⟩ := r.one
    obtain ⟨a, vs, rfl, h, rr⟩ := rv.tup
    refine ⟨_, _, rfl, .inr ⟨vs, SqT.same hid_le h, rfl⟩, ?_⟩
    rw [rr.length]
    exact q _ H (.refl _) .mk_int
  · cases e
    obtain ⟨v, rfl, rv⟩ := r.one
    obtain ⟨a, vs, rfl, h, rr⟩ := rv.scr
    refine ⟨_, _, rfl, .inl ⟨vs, hid_le.seq h, rfl⟩, ?_⟩
    rw [rr.length]
    exact q _ H (.refl _) .mk_int
  · split at e
    · rename_i hz
      cases e
      obtain ⟨v, rfl, rv⟩ := r.one
      rw [rv.str]
      exact ⟨_, _, rfl, ⟨small16 hz, rfl⟩, q _ H (.refl _) .mk_int⟩
    · cases e
  · cases e
def dAbs : List D → Option D
  | [.int i] => some (.int (if i < 0 then -i else i))
  | _ => none
theorem fs_abs : FnS L (fun xs H Q => ∃ i, xs = [.int i] ∧ Q (.int (if i < 0 then -i else i)) H) dAbs := by
  intro ds d xs H A Q e r hA q
  unfold dAbs at e
  split at e
  · cases e
    obtain ⟨v, rfl, rv⟩ := r.one
    rw [rv.int]
    exact ⟨_, rfl, q _ H (.refl _) .mk_int⟩
  · cases e
def dInt : List D → Option D
  | [.int i] => some (.int i)
  | [.bl k] => some (.int (if k = true then 1 else 0))
  | _ => none
theorem fs_int : FnS L (fun xs H Q => (∃ i, xs = [V.int i] ∧ Q (.int i) H) ∨ ∃ k, xs = [V.bl k] ∧ Q (.int (if k then 1 else 0)) H) dInt := by
  intro ds d xs H A Q e r hA q
  unfold dInt at e
  split at e
  · cases e
    obtain ⟨v, rfl, rv⟩ := r.one
    rw [rv.int]
    exact .inl ⟨_, rfl, q _ H (.refl _) .mk_int⟩
  · cases e
    obtain ⟨v, rfl, rv⟩ := r.one
    rw [rv.bl]
    exact .inr ⟨_, rfl, q _ H (.refl _) .mk_int⟩
  · cases e
def dMax2 : List D → Option D
  | [.int i, .int j] => some (.int (if j > i then j else i))
  | _ => none
def dMin2 : List D → Option D
  | [.int i, .int j] => some (.int (if j < i then j else i))
  | _ => none
theorem fs_max2 : FnS L (fun xs H Q => ∃ i j, xs = [V.int i, V.int j] ∧ Q (.int (if j > i then j else i)) H) dMax2 := by
  intro ds d xs H A Q e r hA q
  unfold dMax2 at e
  split at e
  · cases e
    obtain ⟨v, v', rfl, rv, rv'⟩ := r.two
    rw [rv.int, rv'.int]
    exact ⟨_, _, rfl, q _ H (.refl _) .mk_int⟩
  · cases e
theorem fs_min2 : FnS L (fun xs H Q => ∃ i j, xs = [V.int i, V.int j] ∧ Q (.int (if j < i then j else i)) H) dMin2 := by
  intro ds d xs H A Q e r hA q
  unfold dMin2 at e
  split at e
  · cases e
    obtain ⟨v, v', rfl, rv, rv'⟩ := r.two
    rw [rv.int, rv'.int]
    exact ⟨_, _, rfl, q _ H (.refl _) .mk_int⟩
  · cases e
/-- a list of numbers -/
def intsD : List D → Option (List Int)
  | [] => some []
  | .int i :: ds => (intsD ds).map (i :: ·)
  | _ :: _ => none
theorem intsD_vals : ∀ {ds : List D} {ns : List Int} {vs : List V} {F : Hp}, intsD ds = some ns → Rps L F ds vs → vs = ns.map V.int
  | [], ns, vs, F, e, r => by cases e; unfold Rps at r; exact r
  | .int i :: ds, ns, vs, F, e, r => by
    obtain ⟨ns', e1, rfl⟩ := Option.map_eq_some_iff.mp e
    unfold Rps at r
    obtain ⟨v, vr, rfl, r1, r2⟩ := r
    rw [intsD_vals e1 r2, Rp.int_iff.mp r1]
    rfl
  | .non :: _, _, _, _, e, _ => by cases e
  | .bl _ :: _, _, _, _, e, _ => by cases e
  | .str _ :: _, _, _, _, e, _ => by cases e
  | .tup _ :: _, _, _, _, e, _ => by cases e
  | .lst _ :: _, _, _, _, e, _ => by cases e
  | .dct _ _ :: _, _, _, _, e, _ => by cases e
  | .set _ :: _, _, _, _, e, _ => by cases e
  | .obj _ _ :: _, _, _, _, e, _ => by cases e
  | .scr _ :: _, _, _, _, e, _ => by cases e
@[simp] theorem intsD_map : ∀ ns : List Int, intsD (ns.map D.int) = some ns
  | [] => rfl
  | n :: r => by
    show (intsD (r.map D.int)).map (n :: ·) = _
    rw [intsD_map r]
    rfl
def bools : List D → Option (List Bool)
  | [] => some []
  | .bl i :: ds => (bools ds).map (i :: ·)
  | _ :: _ => none
theorem bools_vals : ∀ {ds : List D} {ns : List Bool} {vs : List V} {F : Hp}, bools ds = some ns → Rps L F ds vs → vs = ns.map V.bl
  | [], ns, vs, F, e, r => by cases e; unfold Rps at r; exact r
  | .bl i :: ds, ns, vs, F, e, r => by
    obtain ⟨ns', e1, rfl⟩ := Option.map_eq_some_iff.mp e
    unfold Rps at r
    obtain ⟨v, vr, rfl, r1, r2⟩ := r
    rw [bools_vals e1 r2, Rp.bl_iff.mp r1]
    rfl
  | .non :: _, _, _, _, e, _ => by cases e
  | .int _ :: _, _, _, _, e, _ => by cases e
  | .str _ :: _, _, _, _, e, _ => by cases e
  | .tup _ :: _, _, _, _, e, _ => by cases e
  | .lst _ :: _, _, _, _, e, _ => by cases e
  | .dct _ _ :: _, _, _, _, e, _ => by cases e
  | .set _ :: _, _, _, _, e, _ => by cases e
  | .obj _ _ :: _, _, _, _, e, _ => by cases e
  | .scr _ :: _, _, _, _, e, _ => by cases e
@[simp] theorem bools_map : ∀ ns : List Bool, bools (ns.map D.bl) = some ns
  | [] => rfl
  | n :: r => by
    show (bools (r.map D.bl)).map (n :: ·) = _
    rw [bools_map r]
    rfl
def onInts (f : List Int → Option D) : List D → Option D
  | [.lst xs] => (intsD xs).bind f
  | _ => none
def onBools (f : List Bool → D) : List D → Option D
  | [.lst xs] => (bools xs).map f
  | _ => none
theorem onInts_some {f : List Int → Option D} {ds : List D} {d : D} {xs : List V} {H : Hp} {A : Addr → Prop} (e : onInts f ds = some d) (r : Bps L (hid H A) H ds xs) : ∃ a ns, xs = [.ref a] ∧ H a = some (.lst (ns.map V.int)) ∧ f ns = some d := by
  unfold onInts at e
  split at e
  · obtain ⟨ns, e1, e2⟩ := Option.bind_eq_some_iff.mp e
    obtain ⟨v, rfl, rv⟩ := r.one
    obtain ⟨a, vs, rfl, h, rr⟩ := rv.lst
    rw [intsD_vals e1 rr] at h
    exact ⟨a, ns, rfl, h, e2⟩
  · cases e
theorem onBools_some {f : List Bool → D} {ds : List D} {d : D} {xs : List V} {H : Hp} {A : Addr → Prop} (e : onBools f ds = some d) (r : Bps L (hid H A) H ds xs) : ∃ a ns, xs = [.ref a] ∧ H a = some (.lst (ns.map V.bl)) ∧ f ns = d := by
  unfold onBools at e
  split at e
  · obtain ⟨ns, e1, e2⟩ := Option.map_eq_some_iff.mp e
    obtain ⟨v, rfl, rv⟩ := r.one
    obtain ⟨a, vs, rfl, h, rr⟩ := rv.lst
    rw [bools_vals e1 rr] at h
    exact ⟨a, ns, rfl, h, e2⟩
  · cases e
def dSum : List D → Option D := onInts fun ns => some (.int ns.sum)
theorem fs_sum : FnS L (rSum L.K) dSum := by
  intro ds d xs H A Q e r hA q
  obtain ⟨a, ns, rfl, h, e2⟩ := onInts_some e r
  cases e2
  exact ⟨a, ns, rfl, .inl (.inl h), q _ H (.refl _) .mk_int⟩
def maxI : List Int → Option Int
  | [] => none
  | [x] => some x
  | x :: xs => (maxI xs).map fun m => if m > x then m else x
def minI : List Int → Option Int
  | [] => none
  | [x] => some x
  | x :: xs => (minI xs).map fun m => if m < x then m else x
theorem maxI_spec : ∀ {ns : List Int} {k : Int}, maxI ns = some k → k ∈ ns ∧ ∀ y ∈ ns, y ≤ k
  | [], k, e => by cases e
  | [x], k, e => by cases e; simp
  | x :: y :: xs, k, e => by
    obtain ⟨m, e1, e2⟩ := Option.map_eq_some_iff.mp (show (maxI (y :: xs)).map (fun m => if m > x then m else x) = some k from e)
    obtain ⟨h1, h2⟩ := maxI_spec e1
    have e2 : (if m > x then m else x) = k := e2
    by_cases h : m > x
    · rw [if_pos h] at e2
      subst e2
      refine ⟨List.mem_cons_of_mem _ h1, fun z hz => ?_⟩
      rcases List.mem_cons.mp hz with rfl | hz
      · omega
      · exact h2 z hz
    · rw [if_neg h] at e2
      subst e2
      refine ⟨List.mem_cons_self, fun z hz => ?_⟩
      rcases List.mem_cons.mp hz with rfl | hz
      · omega
      · have := h2 z hz; omega
theorem minI_spec : ∀ {ns : List Int} {k : Int}, minI ns = some k → k ∈ ns ∧ ∀ y ∈ ns, k ≤ y
  | [], k, e => by cases e
  | [x], k, e => by cases e; simp
  | x :: y :: xs, k, e => by
    obtain ⟨m, e1, e2⟩ := Option.map_eq_some_iff.mp (show (minI (y :: xs)).map (fun m => if m < x then m else x) = some k from e)
    obtain ⟨h1, h2⟩ := minI_spec e1
    have e2 : (if m < x then m else x) = k := e2
    by_cases h : m < x
    · rw [if_pos h] at e2
      subst e2
      refine ⟨List.mem_cons_of_mem _ h1, fun z hz => ?_⟩
      rcases List.mem_cons.mp hz with rfl | hz
      · omega
      · exact h2 z hz
    · rw [if_neg h] at e2
      subst e2
      refine ⟨List.mem_cons_self, fun z hz => ?_⟩
      rcases List.mem_cons.mp hz with rfl | hz
      · omega
      · have := h2 z hz; omega
def dMaxL : List D → Option D := onInts fun ns => (maxI ns).map .int
def dMinL : List D → Option D := onInts fun ns => (minI ns).map .int
theorem fs_maxL : FnS L (rMax L.K) dMaxL := by
  intro ds d xs H A Q e r hA q
  obtain ⟨a, ns, rfl, h, e2⟩ := onInts_some e r
  obtain ⟨k, e3, rfl⟩ := Option.map_eq_some_iff.mp e2
  obtain ⟨h1, h2⟩ := maxI_spec e3
  refine ⟨a, ns, rfl, .inl (.inl h), List.length_pos_of_mem h1, fun m hm hy => ?_⟩
  have : m = k := by
    have a1 := h2 m hm
    have a2 := hy k h1
    omega
  subst this
  exact q _ H (.refl _) .mk_int
theorem fs_minL : FnS L (rMin L.K) dMinL := by
  intro ds d xs H A Q e r hA q
  obtain ⟨a, ns, rfl, h, e2⟩ := onInts_some e r
  obtain ⟨k, e3, rfl⟩ := Option.map_eq_some_iff.mp e2
  obtain ⟨h1, h2⟩ := minI_spec e3
  refine ⟨a, ns, rfl, .inl (.inl h), List.length_pos_of_mem h1, fun m hm hy => ?_⟩
  have : m = k := by
    have a1 := h2 m hm
    have a2 := hy k h1
    omega
  subst this
  exact q _ H (.refl _) .mk_int
def dAll : List D → Option D := onBools fun bs => .bl (bs.all id)
def dAny : List D → Option D := onBools fun bs => .bl (bs.any id)
theorem fs_all : FnS L (rAll L.K) dAll := by
  intro ds d xs H A Q e r hA q
  obtain ⟨a, ns, rfl, h, e2⟩ := onBools_some e r
  cases e2
  exact ⟨a, ns, rfl, .inl (.inl h), q _ H (.refl _) .mk_bl⟩
theorem fs_any : FnS L (rAny L.K) dAny := by
  intro ds d xs H A Q e r hA q
  obtain ⟨a, ns, rfl, h, e2⟩ := onBools_some e r
  cases e2
  exact ⟨a, ns, rfl, .inl (.inl h), q _ H (.refl _) .mk_bl⟩
def dTuple : List D → Option D
  | [.lst xs] => some (.tup xs)
  | [.tup xs] => some (.tup xs)
  | _ => none
def dList : List D → Option D
  | [.lst xs] => some (.lst xs)
  | [.tup xs] => some (.lst xs)
  | _ => none
theorem fs_tuple : FnS L (fun xs H Q => ∃ p ys, xs = [.ref p] ∧ ((SqL L.K H p ys ∧ ∀ l, H l = none → Q (.ref l) (upd H l (.tup ys))) ∨ (SqT L.K H p ys ∧ Q (.ref p) H))) dTuple := by
  intro ds d xs H A Q e r hA q
  unfold dTuple at e
  split at e
  · cases e
    obtain ⟨v, rfl, rv⟩ := r.one
    obtain ⟨a, vs, rfl, h, rr⟩ := rv.lst
    exact ⟨a, vs, rfl, .inl ⟨.inl (.inl h), fun l hl => q _ _ (same_upd hl) (new_tup hA hl rr)⟩⟩
  · cases e
    obtain ⟨v, rfl, rv⟩ := r.one
    obtain ⟨a, vs, rfl, h, rr⟩ := rv.tup
    exact ⟨a, vs, rfl, .inr ⟨SqT.same hid_le h, q _ H (.refl _) (Rp.tup_iff.mpr ⟨a, vs, rfl, h, rr⟩)⟩⟩
  · cases e
theorem fs_list : FnS L (fun xs H Q => ∃ p ys, xs = [.ref p] ∧ (SqL L.K H p ys ∨ SqT L.K H p ys) ∧ ∀ l, H l = none → Q (.ref l) (upd H l (.lst ys))) dList := by
  intro ds d xs H A Q e r hA q
  unfold dList at e
  split at e
  · cases e
    obtain ⟨v, rfl, rv⟩ := r.one
    obtain ⟨a, vs, rfl, h, rr⟩ := rv.lst
    exact ⟨a, vs, rfl, .inl (.inl (.inl h)), fun l hl => q _ _ (same_upd hl) (new_lst hA hl rr)⟩
  · cases e
    obtain ⟨v, rfl, rv⟩ := r.one
    obtain ⟨a, vs, rfl, h, rr⟩ := rv.tup
    exact ⟨a, vs, rfl, .inr (SqT.same hid_le h), fun l hl => q _ _ (same_upd hl) (new_lst hA hl rr)⟩
  · cases e
def dSorted : List D → Option D := onInts fun ns => some (.lst ((PySem.W.sortI ns).map .int))
theorem fs_sorted : FnS L (rSortedI L.K) dSorted := by
  intro ds d xs H A Q e r hA q
  obtain ⟨a, ns, rfl, h, e2⟩ := onInts_some e r
  cases e2
  refine ⟨a, ns, rfl, .inl (.inl h), fun ns' p hp hs hn => ?_⟩
  rw [PySem.W.eq_sortI hp hs]
  exact q _ _ (same_upd hn) (new_lst hA hn (Rp.ofInts _))

/-! ### isinstance -/
def tyD : D → Option String
  | .non => some "NoneType"
  | .bl _ => some "bool"
  | .int _ => some "int"
  | .str _ => some "str"
  | .lst _ => some "list"
  | .tup _ => some "tuple"
  | _ => none
theorem tyD_ok {F H : Hp} (s : Same F H) {d : D} {v : V} {t : String} (r : Bp L F H d v) (e : tyD d = some t) : TyX L.K H v (.type t) := by
  cases d with
  | non => cases e; rw [r.non]; exact .base .non
  | bl b => cases e; rw [r.bl]; exact .base (.bl b)
  | int b => cases e; rw [r.int]; exact .base (.int b)
  | str b => cases e; rw [r.str]; exact .base (.str b)
  | lst ds => cases e; obtain ⟨a, vs, rfl, h, _⟩ := r.lst; exact .base (.lst h)
  | tup ds =>
    cases e
    obtain ⟨a, vs, rfl, h, _⟩ := r.tup
    rcases h with (h | ⟨o, h⟩) | ⟨o, its, n, h, hc, _⟩
    · exact .base (.tup (s _ _ h))
    · exact .fTuple (s _ _ h)
    · exact .kTuple h hc
  | _ => cases e
/-- the kinds that the laws ask for -/
def isK (t : String) (d : D) : Option Bool :=
  match tyD d with
  | some u => kitB u t
  | none => none
def dIsi (t : String) : List D → Option D
  | [d] => (isK t d).map .bl
  | _ => none
def dIsi2 (t t' : String) : List D → Option D
  | [d] => (isK t d).bind fun a => (isK t' d).map fun b => .bl (a || b)
  | _ => none
theorem isK_some {t : String} {d : D} {b : Bool} (h : isK t d = some b) : ∃ u, tyD d = some u ∧ kitB u t = some b := by
  unfold isK at h
  split at h
  · rename_i u e; exact ⟨u, e, h⟩
  · cases h
theorem sE_isi {t : String} {x : Str} {p p2 : Pos} (hK : X.K = L.K) (hg : Gl X "isinstance") (hm : X.mg "isinstance" = none) (ht : PE X (.Name x p2) (L2.tC (V.ty t))) (ha : SE L P E X e m) (hv : bootBuiltins "isinstance" = some (.builtin "isinstance") := by decide +kernel)
    (he : starEach [e, .Name x p2] X.env = (false, eval e X.env) :: starEach [.Name x p2] X.env := by rfl) (he2 : starEach [.Name x p2] X.env = (false, eval (.Name x p2) X.env) :: starEach [] X.env := by rfl) (hpl : (backTo pos (starEach [.Name x p2] X.env)).any (·.1) = false := by rfl) :
    SE L P E X (.Call (.Name "isinstance" p) [e, .Name x p2] [] pos) (mFn (dIsi t) (mCons m mNil)) :=
  PE.weak (pe_callB call_isi hg hm hv (pa_cons ha (pa_cons ht pa_nil he2) he) (by decide) (by decide) he hpl) fun σ H Q ⟨τ, R, h⟩ => by
    have h : Post L P (RV L) H σ τ ((m τ).bind fun d => fun τ => Res.lift (dIsi t [d]) τ) Q (E σ) := by
      revert h
      show Post L P (RV L) H σ τ (((m τ).bind fun d => fun τ => (Res.ok [] τ).bind fun xs => fun τ => .ok (d :: xs) τ).bind fun xs => fun τ => Res.lift (dIsi t xs) τ) Q (E σ) → _
      cases m τ with
      | ok d τ1 => exact fun h => h
      | exc c xs τ1 => exact fun h => h
      | fail => exact fun h => h
    refine ⟨τ, R, (Post.split (R := RV L) h).imp fun v H1 ⟨d, τ1, t1, R1, r1, h1⟩ => ?_⟩
    obtain ⟨d', e1, q⟩ := h1.done R1
    obtain ⟨b, e2, rfl⟩ := Option.map_eq_some_iff.mp e1
    obtain ⟨u, e3, e4⟩ := isK_some e2
    refine ⟨v, .ty t, .type u, .type t, b, rfl, .ty t, ?_, kit_ty e4, q _ H1 (.refl _) .mk_bl⟩
    rw [hK]
    exact tyD_ok hid_le (r1.bp hid_le) e3
theorem sE_isi2 {t t' : String} {x x' : Str} {p p2 p3 pt : Pos} {kt : Nat} (hK : X.K = L.K) (hg : Gl X "isinstance") (hm : X.mg "isinstance" = none) (ht : PE X (.Name x p2) (L2.tC (V.ty t))) (ht' : PE X (.Name x' p3) (L2.tC (V.ty t'))) (ha : SE L P E X e m) (hv : bootBuiltins "isinstance" = some (.builtin "isinstance") := by decide +kernel)
    (he : starEach [e, .Tuple [.Name x p2, .Name x' p3] kt pt] X.env = (false, eval e X.env) :: starEach [.Tuple [.Name x p2, .Name x' p3] kt pt] X.env := by rfl) (he2 : starEach [.Tuple [.Name x p2, .Name x' p3] kt pt] X.env = (false, eval (.Tuple [.Name x p2, .Name x' p3] kt pt) X.env) :: starEach [] X.env := by rfl)
    (he3 : starEach [.Name x p2, .Name x' p3] X.env = (false, eval (.Name x p2) X.env) :: starEach [.Name x' p3] X.env := by rfl) (he4 : starEach [.Name x' p3] X.env = (false, eval (.Name x' p3) X.env) :: starEach [] X.env := by rfl)
    (hpl : (backTo pos (starEach [.Tuple [.Name x p2, .Name x' p3] kt pt] X.env)).any (·.1) = false := by rfl) :
    SE L P E X (.Call (.Name "isinstance" p) [e, .Tuple [.Name x p2, .Name x' p3] kt pt] [] pos) (mFn (dIsi2 t t') (mCons m mNil)) :=
  PE.weak (pe_callB call_isiT hg hm hv (pa_cons ha (pa_cons (pe_tup (pa_cons ht (pa_cons ht' pa_nil he4) he3)) pa_nil he2) he) (by decide) (by decide) he hpl) fun σ H Q ⟨τ, R, h⟩ => by
    have h : Post L P (RV L) H σ τ ((m τ).bind fun d => fun τ => Res.lift (dIsi2 t t' [d]) τ) Q (E σ) := by
      revert h
      show Post L P (RV L) H σ τ (((m τ).bind fun d => fun τ => (Res.ok [] τ).bind fun xs => fun τ => .ok (d :: xs) τ).bind fun xs => fun τ => Res.lift (dIsi2 t t' xs) τ) Q (E σ) → _
      cases m τ with
      | ok d τ1 => exact fun h => h
      | exc c xs τ1 => exact fun h => h
      | fail => exact fun h => h
    refine ⟨τ, R, (Post.split (R := RV L) h).imp fun v H1 ⟨d, τ1, t1, R1, r1, h1⟩ => ?_⟩
    obtain ⟨d', e1, q⟩ := h1.done R1
    obtain ⟨b, e2, e5⟩ := Option.bind_eq_some_iff.mp e1
    obtain ⟨b', e6, rfl⟩ := Option.map_eq_some_iff.mp e5
    obtain ⟨u, e3, e4⟩ := isK_some e2
    obtain ⟨u', e7, e8⟩ := isK_some e6
    rw [e3] at e7
    cases e7
    refine ⟨by show 2 ≤ sizeLine; decide, fun tp htp => ⟨v, tp, [.ty t, .ty t'], .type u, [.type t, .type t'], b || b', rfl, upd_same, .cons (.ty t) (.cons (.ty t') .nil), ?_, ?_, q _ _ (same_upd htp) .mk_bl⟩⟩
    · rw [hK]
      exact tyD_ok (hid_le.trans (same_upd htp)) ((r1.same (hid_mono (A := Hd P σ τ1) (.refl _) fun _ z => z)).bp (hid_le.trans (same_upd htp))) e3
    · refine kitAny_cons (kit_ty e4) (fun hb => ?_) (fun hb => by rw [hb]; rfl)
      subst hb
      refine kitAny_cons (kit_ty e8) (fun hb => ?_) (fun hb => by rw [hb]; rfl)
      subst hb
      exact kitAny_nil
end
end Sm
set_option Elab.async false
set_option linter.all false
set_option maxRecDepth 100000
set_option maxHeartbeats 400000
/-! SmJ: subscripts, slices, chains of comparisons, or by truth, fresh lists of built-ins. -/
namespace Sm
open PySem PySem.Spec PyProof.Rows L2
section
variable {L : Lay} {P : Pa} {W : WX} {X : Cx} {E : L2.St → XK} {pos : Pos} {e a b c : Expr} {es : List Expr} {m ma mb mc : M D} {ms : M (List D)}

/-! ### subscripts -/
theorem sE_ix (hK : X.K = L.K) (ha : SE L P E X a ma) (hb : SE L P E X b mb) (hs : PlainIx b := by intro _ _; rfl) : SE L P E X (.Subscript a b pos) (mOp dIx ma mb) :=
  PE.weak (pe_ix ix_seq ha hb hs) fun σ H Q h => by rw [hK]; exact tOp_of os_ix σ H Q h
/-- a value that is read behind another one's making -/
def mPk (i : Nat) (f : D → D → Option D) (mb : M D) : M D := fun τ =>
  match peek i τ with
  | none => .fail
  | some _ => (mb τ).bind fun y => fun τ => Res.lift ((peek i τ).bind fun x => f x y) τ
theorem tPk_of {r : R2} {f : D → D → Option D} {i : Nat} (ho : OpS L r f) (σ : L2.St) (H : Hp) (Q : VK) (h : tE L P E (mPk i f mb) σ H Q) : tOp r (tVar i) (tE L P E mb) σ H Q := by
  obtain ⟨τ, R, h⟩ := h
  unfold mPk at h
  split at h
  · exact h.elim
  · rename_i d0 e0
    obtain ⟨v, hv, _⟩ := peek_ok R e0
    refine ⟨v, hv, τ, R, (Post.split (R := RV L) h).imp fun y H2 ⟨d2, τ2, t2, R2, r2, h2⟩ => ?_⟩
    obtain ⟨d, e1, q⟩ := h2.done R2
    obtain ⟨d1, e2, e3⟩ := Option.bind_eq_some_iff.mp e1
    obtain ⟨v', hv', rb⟩ := peek_ok R2 e2
    rw [hv] at hv'
    cases hv'
    exact ho d1 d2 d v y H2 (Hd P σ τ2) Q e3 rb (r2.bp hid_le) (fun p hp => R2.hd_there hp) q
theorem sE_ixP {x : Str} {p : Pos} (i : Nat) (hK : X.K = L.K) (hb : SE L P E X b mb) (hN : X.N[i]? = some x := by rfl) (hv : Vis X.env.scope x := by first | exact Or.inl rfl | exact Or.inr (Or.inl rfl) | exact Or.inr (Or.inr rfl)) (hd : (x == ("__debug__" : Str)) = false := by decide)
    (hcd : (x == ("__classdict__" : Str)) = false := by decide) (hs : PlainIx b := by intro _ _; rfl) : SE L P E X (.Subscript (.Name x p) b pos) (mPk i dIx mb) :=
  PE.weak (pe_ix ix_seq (pe_var hN hv hd hcd) hb hs) fun σ H Q h => by rw [hK]; exact tPk_of os_ix σ H Q h
/-- an operation whose first value is a variable's -/
theorem sE_cmpP {op : CmpOp} {r : R2} {f : D → D → Option D} {x : Str} {p : Pos} (i : Nat) (hr : OpR X (compareOp op) r) (ho : OpS L r f) (hb : SE L P E X b mb) (hm : behindInMarks op b = false) (hN : X.N[i]? = some x := by rfl) (hv : Vis X.env.scope x := by first | exact Or.inl rfl | exact Or.inr (Or.inl rfl) | exact Or.inr (Or.inr rfl)) (hd : (x == ("__debug__" : Str)) = false := by decide)
    (hcd : (x == ("__classdict__" : Str)) = false := by decide) : SE L P E X (.Compare (.Name x p) [op] [b] pos) (mPk i f mb) :=
  PE.weak (pe_cmpR hr (pe_var hN hv hd hcd) hb hm) fun σ H Q h => tPk_of ho σ H Q h
theorem sT_cmpP {op : CmpOp} {r : R2} {f : D → D → Option D} {x : Str} {p : Pos} (i : Nat) (hr : OpR X (compareOp op) r) (ho : OpS L r f) (hb : SE L P E X b mb) (hm : behindInMarks op b = false) (hN : X.N[i]? = some x := by rfl) (hv : Vis X.env.scope x := by first | exact Or.inl rfl | exact Or.inr (Or.inl rfl) | exact Or.inr (Or.inr rfl)) (hd : (x == ("__debug__" : Str)) = false := by decide)
    (hcd : (x == ("__classdict__" : Str)) = false := by decide) : ST L P E X (.Compare (.Name x p) [op] [b] pos) (mB (mPk i f mb)) :=
  PT.weak (pt_cmpR hr (pe_var hN hv hd hcd) hb hm) fun σ H Q h => by
    obtain ⟨τ, R, h⟩ := h
    have q : tB (tE L P E (mPk i f mb)) σ H Q := tB_of σ H Q ⟨τ, R, h⟩
    exact tPk_of ho σ H _ q
theorem sE_opP {op : Operator} {r : R2} {f : D → D → Option D} {x : Str} {p : Pos} (i : Nat) (hr : OpR X (binaryOp op) r) (ho : OpS L r f) (hb : SE L P E X b mb) (hN : X.N[i]? = some x := by rfl) (hv : Vis X.env.scope x := by first | exact Or.inl rfl | exact Or.inr (Or.inl rfl) | exact Or.inr (Or.inr rfl)) (hd : (x == ("__debug__" : Str)) = false := by decide)
    (hcd : (x == ("__classdict__" : Str)) = false := by decide) : SE L P E X (.BinOp (.Name x p) op b pos) (mPk i f mb) :=
  PE.weak (pe_op hr (pe_var hN hv hd hcd) hb) fun σ H Q h => tPk_of ho σ H Q h

/-! ### chains -/
def mCh (f f' : D → D → Option D) (ma mb mc : M D) : M D := fun τ => (ma τ).bind fun x => fun τ => (mb τ).bind fun y => fun τ =>
  (Res.lift ((f x y).bind asB) τ).bind fun k => fun τ => if k = true then (mc τ).bind fun z => fun τ => Res.lift (f' y z) τ else .ok (.bl false) τ
theorem tCh_of {r r' : R2} {f f' : D → D → Option D} (ho : OpS L r f) (ho' : OpS L r' f') (σ : L2.St) (H : Hp) (Q : VK) (h : tE L P E (mCh f f' ma mb mc) σ H Q) : tChain r r' (tE L P E ma) (tE L P E mb) (tE L P E mc) σ H Q := by
  obtain ⟨τ, R, h⟩ := h
  refine ⟨τ, R, (Post.split (R := RV L) h).imp fun x H1 ⟨d1, τ1, t1, R1, r1, h1⟩ => ?_⟩
  refine ⟨τ1, R1, (Post.split (R := RV L) h1).imp fun y H2 ⟨d2, τ2, t2, R2, r2, h2⟩ => ?_⟩
  obtain ⟨k, e, q⟩ := (Post.split (R := RB) h2).lift
  obtain ⟨d, e1, e2⟩ := Option.bind_eq_some_iff.mp e
  refine ho d1 d2 d x y H2 (Hd P σ τ2) _ e1 ((r1.same (R1.fz t2)).bp hid_le) (r2.bp hid_le) (fun p hp => R2.hd_there hp) fun z H3 s3 r3 => ?_
  cases d with
  | bl b =>
    have eb : k = b := (Option.some.inj e2).symm
    subst eb
    refine ⟨k, Rp.bl_iff.mp r3, ?_⟩
    obtain ⟨b', τ3, t3, R3, rb, h3⟩ := q k H3 (.of s3) (R2.same s3) rfl
    cases rb
    cases k with
    | false =>
      rw [if_neg Bool.false_ne_true] at h3 ⊢
      exact h3 _ H3 .refl R3 .mk_bl
    | true =>
      rw [if_pos rfl] at h3 ⊢
      refine ⟨τ3, R3, (Post.split (R := RV L) h3).imp fun w H4 ⟨d4, τ4, t4, R4, r4, h4⟩ => ?_⟩
      obtain ⟨d', e5, q5⟩ := h4.done R4
      exact ho' d2 d4 d' y w H4 (Hd P σ τ4) Q e5 ((r2.same (R2.fz (Tr.trans t3 t4))).bp hid_le) (r4.bp hid_le) (fun p hp => R4.hd_there hp) q5
  | _ => cases e2
theorem sE_chain {op op' : CmpOp} {r r' : R2} {f f' : D → D → Option D} (hr : OpR X (compareOp op) r) (hr' : OpR X (compareOp op') r') (ho : OpS L r f) (ho' : OpS L r' f') (ha : SE L P E X a ma) (hb : SE L P E X b mb) (hc : SE L P E X c mc)
    (hm : lastMarks [op, op'] [b, c] = false := by with_unfolding_all rfl) : SE L P E X (.Compare a [op, op'] [b, c] pos) (mCh f f' ma mb mc) :=
  PE.weak (pe_chain hr hr' ha hb hc hm) fun σ H Q h => tCh_of ho ho' σ H Q h
theorem sT_chain {op op' : CmpOp} {r r' : R2} {f f' : D → D → Option D} (hr : OpR X (compareOp op) r) (hr' : OpR X (compareOp op') r') (ho : OpS L r f) (ho' : OpS L r' f') (ha : SE L P E X a ma) (hb : SE L P E X b mb) (hc : SE L P E X c mc)
    (hm : lastMarks [op, op'] [b, c] = false := by with_unfolding_all rfl) : ST L P E X (.Compare a [op, op'] [b, c] pos) (mB (mCh f f' ma mb mc)) :=
  PT.weak (pt_chain hr hr' ha hb hc hm) fun σ H Q h => by
    have q : tB (tE L P E (mCh f f' ma mb mc)) σ H Q := tB_of σ H Q h
    exact tCh_of ho ho' σ H _ q

/-! ### slices -/
abbrev SO (L : Lay) (P : Pa) (E : L2.St → XK) (X : Cx) (e : Option Expr) (m : M (Option Int)) : Prop := PO X e (fun σ H Q => ∃ τ, StR L P H σ τ ∧ Post L P (fun _ a b => b = a) H σ τ (m τ) Q (E σ))
theorem PO.weak {e : Option Expr} {t u : TO} (h : PO X e t) (f : ∀ σ H Q, u σ H Q → t σ H Q) : PO X e u := ⟨fun pins s σ H Q I q => h.run pins s σ H Q I (f σ H Q q)⟩
def oNone : M (Option Int) := fun τ => .ok none τ
def asI : D → Option Int
  | .int i => some i
  | _ => none
@[simp] theorem asI_int {i : Int} : asI (.int i) = some i := rfl
def oSome (m : M D) : M (Option Int) := fun τ => (m τ).bind fun x => fun τ => Res.lift ((asI x).map some) τ
theorem sO_none : SO L P E X none oNone := PO.weak po_none fun σ H Q ⟨τ, R, h⟩ => h none H .refl R rfl
theorem sO_some (h : SE L P E X e m) : SO L P E X (some e) (oSome m) :=
  PO.weak (po_some h) fun σ H Q ⟨τ, R, h⟩ => by
    refine ⟨τ, R, (Post.split (R := RV L) h).imp fun x H1 ⟨d1, τ1, t1, R1, r1, h1⟩ => ?_⟩
    obtain ⟨o, e, q⟩ := h1.lift
    obtain ⟨i, e1, rfl⟩ := Option.map_eq_some_iff.mp e
    cases d1 with
    | int j =>
      cases e1
      exact ⟨i, Rp.int_iff.mp r1, q _ H1 .refl R1 rfl⟩
    | _ => cases e1
def cutD (xs : List D) (lo hi : Option Int) : List D := (xs.drop (HT.sIx xs.length 0 lo)).take (HT.sIx xs.length xs.length hi - HT.sIx xs.length 0 lo)
theorem Rps.cut {F : Hp} {xs : List D} {vs : List V} (r : Rps L F xs vs) (lo hi : Option Int) : Rps L F (cutD xs lo hi) (cutV vs lo hi) := by
  unfold cutD cutV
  rw [r.length]
  exact (r.drop _).take _
def dSl (lo hi : Option Int) : D → Option D
  | .lst xs => some (.lst (cutD xs lo hi))
  | .scr xs => some (.lst (cutD xs lo hi))
  | .tup xs => some (.tup (cutD xs lo hi))
  | .str z => if z.length ≤ 16000000 then some (.str (cutS z lo hi)) else none
  | _ => none
def rSl (K : PySem.W.Frag) : V → Option Int → Option Int → Hp → VK → Prop := fun x lo hi H Q => rSlL K x lo hi H Q ∨ rSlA K x lo hi H Q ∨ rSlS x lo hi H Q
theorem sl_seq : L2.SlR X (rSl X.K) := L2.SlR.or sl_list (L2.SlR.or sl_tupA sl_str)
theorem os_sl {lo hi : Option Int} {a d : D} {x : V} {H : Hp} {A : Addr → Prop} {Q : VK} (e : dSl lo hi a = some d) (ra : Bp L (hid H A) H a x) (hA : ∀ p, A p → ∃ o, H p = some o) (q : ∀ z H', Same H H' → Rp L (hid H' A) d z → Q z H') : rSl L.K x lo hi H Q := by
  cases a with
  | lst xs =>
    cases e
    obtain ⟨p, vs, rfl, h, rr⟩ := ra.lst
    exact .inl ⟨p, vs, rfl, .inl (.inl h), fun l hl => q _ _ (same_upd hl) (new_lst hA hl (rr.cut lo hi))⟩
  | scr xs =>
    cases e
    obtain ⟨p, vs, rfl, h, rr⟩ := ra.scr
    exact .inl ⟨p, vs, rfl, hid_le.seq h, fun l hl => q _ _ (same_upd hl) (new_lst hA hl (rr.cut lo hi))⟩
  | tup xs =>
    cases e
    obtain ⟨p, vs, rfl, h, rr⟩ := ra.tup
    refine .inr (.inl ⟨p, vs, rfl, SqT.same hid_le h, fun hw => ?_, fun _ l hl => q _ _ (same_upd hl) (new_tup hA hl (rr.cut lo hi))⟩)
    refine q _ H (.refl _) (Rp.tup_iff.mpr ⟨p, vs, rfl, h, ?_⟩)
    have hw' : cutD xs lo hi = xs := by
      unfold cutD
      rw [← rr.length, hw.1, hw.2, List.drop_zero, Nat.sub_zero, rr.length, List.take_length]
    rw [hw']
    exact rr
  | str z =>
    have e : (if z.length ≤ 16000000 then some (D.str (cutS z lo hi)) else none) = some d := e
    split at e
    · rename_i hz
      cases e
      exact .inr (.inr ⟨z, ra.str, small16 hz, q _ H (.refl _) .mk_str⟩)
    · cases e
  | _ => cases e
def mSl (m : M D) (lo hi : M (Option Int)) : M D := fun τ => (m τ).bind fun x => fun τ => (lo τ).bind fun l => fun τ => (hi τ).bind fun h => fun τ => Res.lift (dSl l h x) τ
theorem sE_sl {lo hi : Option Expr} {ml mh : M (Option Int)} {p2 : Pos} (hK : X.K = L.K) (he : SE L P E X e m) (hl : SO L P E X lo ml) (hh : SO L P E X hi mh) : SE L P E X (.Subscript e (.Slice lo hi none p2) pos) (mSl m ml mh) :=
  PE.weak (pe_slice sl_seq he hl hh) fun σ H Q ⟨τ, R, h⟩ => by
    refine ⟨τ, R, (Post.split (R := RV L) h).imp fun x H1 ⟨d1, τ1, t1, R1, r1, h1⟩ => ?_⟩
    refine ⟨τ1, R1, (Post.split (R := fun _ a b => b = a) h1).imp fun l H2 ⟨l', τ2, t2, R2, e2, h2⟩ => ?_⟩
    cases e2
    refine ⟨τ2, R2, (Post.split (R := fun _ a b => b = a) h2).imp fun u H3 ⟨u', τ3, t3, R3, e3, h3⟩ => ?_⟩
    cases e3
    obtain ⟨d, e4, q⟩ := h3.done R3
    rw [hK]
    exact os_sl e4 ((r1.same (R1.fz (t2.trans t3))).bp hid_le) (fun p hp => R3.hd_there hp) q
def mSlP (i : Nat) (lo hi : M (Option Int)) : M D := fun τ =>
  match peek i τ with
  | none => .fail
  | some _ => (lo τ).bind fun l => fun τ => (hi τ).bind fun h => fun τ => Res.lift ((peek i τ).bind (dSl l h)) τ
theorem sE_slP {lo hi : Option Expr} {ml mh : M (Option Int)} {p2 p : Pos} {x : Str} (i : Nat) (hK : X.K = L.K) (hl : SO L P E X lo ml) (hh : SO L P E X hi mh) (hN : X.N[i]? = some x := by rfl) (hv : Vis X.env.scope x := by first | exact Or.inl rfl | exact Or.inr (Or.inl rfl) | exact Or.inr (Or.inr rfl)) (hd : (x == ("__debug__" : Str)) = false := by decide)
    (hcd : (x == ("__classdict__" : Str)) = false := by decide) : SE L P E X (.Subscript (.Name x p) (.Slice lo hi none p2) pos) (mSlP i ml mh) :=
  PE.weak (pe_slice sl_seq (pe_var hN hv hd hcd) hl hh) fun σ H Q ⟨τ, R, h⟩ => by
    unfold mSlP at h
    split at h
    · exact h.elim
    · rename_i d0 e0
      obtain ⟨v, hv, _⟩ := peek_ok R e0
      refine ⟨v, hv, τ, R, (Post.split (R := fun _ a b => b = a) h).imp fun l H2 ⟨l', τ2, t2, R2, e2, h2⟩ => ?_⟩
      cases e2
      refine ⟨τ2, R2, (Post.split (R := fun _ a b => b = a) h2).imp fun u H3 ⟨u', τ3, t3, R3, e3, h3⟩ => ?_⟩
      cases e3
      obtain ⟨d, e4, q⟩ := h3.done R3
      obtain ⟨d1, e5, e6⟩ := Option.bind_eq_some_iff.mp e4
      obtain ⟨v', hv', rb⟩ := peek_ok R3 e5
      rw [hv] at hv'
      cases hv'
      rw [hK]
      exact os_sl e6 rb (fun p hp => R3.hd_there hp) q

/-! ### fresh lists of built-in functions -/
def FnF (L : Lay) (r : List V → Hp → VK → Prop) (f : List D → Option (List D)) : Prop :=
  ∀ (ds ns : List D) (xs : List V) (H : Hp) (A : Addr → Prop) (Q : VK), f ds = some ns → Bps L (hid H A) H ds xs → (∀ p, A p → ∃ o, H p = some o) →
    (∀ p vs, H p = none → Rps L (hid H A) ns vs → Q (.ref p) (upd H p (.lst vs))) → r xs H Q
def mFnF (f : List D → Option (List D)) (ms : M (List D)) : M D := fun τ => (ms τ).bind fun xs => fun τ => Res.lift ((f xs).map D.lst) τ
theorem Post.toF {γ : Type} {R : Hp → γ → List V → Prop} {H : Hp} {σ : L2.St} {τ : List Sl} {r : Res γ} {f : γ → M D} {Q : VK} {e : XK} (h : PostF L P H σ τ (r.bind f) Q e) :
    Post L P R H σ τ r (fun v H1 => ∃ a τ1, Tr H (Own σ τ) H1 (Own σ τ1) ∧ StR L P H1 σ τ1 ∧ R (hid H1 (Hd P σ τ1)) a v ∧ PostF L P H1 σ τ1 (f a τ1) Q e) e := by
  cases r with
  | ok a τ1 =>
    intro v H1 t1 R1 r1
    refine ⟨a, τ1, t1, R1, r1, ?_⟩
    have h : PostF L P H σ τ (f a τ1) Q e := h
    revert h
    cases f a τ1 with
    | ok d τ2 => exact fun h a H' x y z => h a H' (t1.trans x) y z
    | exc c xs τ2 => exact fun h a b H' x y z => h a b H' (t1.trans x) y z
    | fail => exact fun h => h
  | exc c xs τ2 => exact h
  | fail => exact h
theorem PostF.new {H : Hp} {σ : L2.St} {τ : List Sl} {ns : List D} {Q : VK} {e : XK} (R : StR L P H σ τ) (h : PostF L P H σ τ (.ok (.lst ns) τ) Q e) {p : Addr} {vs : List V} (hp : H p = none) (r : Rps L (hid H (Hd P σ τ)) ns vs) : Q (.ref p) (upd H p (.lst vs)) := by
  refine h p _ ?_ ?_ ?_
  · rw [rid_upd hp]; exact .refl
  · rw [rid_upd hp]; exact R
  · rw [rid_upd hp]; exact ⟨vs, upd_same, r⟩
theorem tCB_ofF {r : List V → Hp → VK → Prop} {f : List D → Option (List D)} (hf : FnF L r f) (σ : L2.St) (H : Hp) (Q : VK) (h : tF L P E (mFnF f ms) σ H Q) : tCB r (tA L P E ms) σ H Q := by
  obtain ⟨τ, R, h⟩ := h
  refine ⟨τ, R, (Post.toF (R := RVs L) h).imp fun xs H1 ⟨ds, τ1, t1, R1, r1, h1⟩ => ?_⟩
  cases e : f ds with
  | none => rw [e] at h1; exact h1.elim
  | some ns =>
    rw [e] at h1
    exact hf ds ns xs H1 (Hd P σ τ1) Q e (r1.bps hid_le) (fun p hp => R1.hd_there hp) fun p vs hp rr => PostF.new R1 h1 hp rr
theorem sF_callB {r : List V → Hp → VK → Prop} {f : List D → Option (List D)} {id : String} {x : Str} {p : Pos} (hc : CallR X (.builtin id) r) (hf : FnF L r f) (hg : Gl X x) (hm : X.mg x = none) (hv : bootBuiltins x = some (.builtin id)) (ha : SA L P E X (e :: es) ms) (hn : x ≠ "__name__" := by decide) (hdb : (x == ("__debug__" : Str)) = false := by decide)
    (he : starEach (e :: es) X.env = (false, eval e X.env) :: starEach es X.env := by rfl) (hpl : (backTo pos (starEach es X.env)).any (·.1) = false := by rfl) : SF L P E X (.Call (.Name x p) (e :: es) [] pos) (mFnF f ms) :=
  PE.weak (pe_callB hc hg hm hv ha hn hdb he hpl) fun σ H Q h => tCB_ofF hf σ H Q h
theorem sF_callTy {r : List V → Hp → VK → Prop} {f : List D → Option (List D)} {T : String} {x : Str} {p : Pos} (hc : CallR X (.type T) r) (hf : FnF L r f) (hg : Gl X x) (hm : X.mg x = none) (hv : bootBuiltins x = some (.type T)) (ha : SA L P E X (e :: es) ms) (hn : x ≠ "__name__" := by decide) (hdb : (x == ("__debug__" : Str)) = false := by decide)
    (he : starEach (e :: es) X.env = (false, eval e X.env) :: starEach es X.env := by rfl) (hpl : (backTo pos (starEach es X.env)).any (·.1) = false := by rfl) : SF L P E X (.Call (.Name x p) (e :: es) [] pos) (mFnF f ms) :=
  PE.weak (pe_callTy hc hg hm hv ha hn hdb he hpl) fun σ H Q h => tCB_ofF hf σ H Q h
def nList : List D → Option (List D)
  | [.lst xs] => some xs
  | [.tup xs] => some xs
  | [.scr xs] => some xs
  | _ => none
theorem ff_list : FnF L (fun xs H Q => ∃ p ys, xs = [.ref p] ∧ (SqL L.K H p ys ∨ SqT L.K H p ys) ∧ ∀ l, H l = none → Q (.ref l) (upd H l (.lst ys))) nList := by
  intro ds d xs H A Q e r hA q
  unfold nList at e
  split at e
  · cases e
    obtain ⟨v, rfl, rv⟩ := r.one
    obtain ⟨a, vs, rfl, h, rr⟩ := rv.lst
    exact ⟨a, vs, rfl, .inl (.inl (.inl h)), fun l hl => q _ _ hl rr⟩
  · cases e
    obtain ⟨v, rfl, rv⟩ := r.one
    obtain ⟨a, vs, rfl, h, rr⟩ := rv.tup
    exact ⟨a, vs, rfl, .inr (SqT.same hid_le h), fun l hl => q _ _ hl rr⟩
  · cases e
    obtain ⟨v, rfl, rv⟩ := r.one
    obtain ⟨a, vs, rfl, h, rr⟩ := rv.scr
    exact ⟨a, vs, rfl, .inl (hid_le.seq h), fun l hl => q _ _ hl rr⟩
  · cases e

/-! ### x or y, for lists -/
def truD : D → Option Bool
  | .non => some false
  | .bl b => some b
  | .int i => some (i != 0)
  | .lst xs => some (!xs.isEmpty)
  | .tup xs => some (!xs.isEmpty)
  | _ => none
theorem truV_ok {F H : Hp} (s : Same F H) {d : D} {v : V} {k : Bool} (r : Bp L F H d v) (e : truD d = some k) : TruV L.K v H k := by
  have em : ∀ {xs : List D} {vs : List V}, Rps L F xs vs → (!vs.isEmpty) = !xs.isEmpty := fun {xs vs} r => by
    cases xs with
    | nil => unfold Rps at r; rw [r]; rfl
    | cons x xs => unfold Rps at r; obtain ⟨v, t, rfl, _⟩ := r; rfl
  cases d with
  | non => cases e; rw [r.non]; exact rfl
  | bl b => cases e; rw [r.bl]; exact rfl
  | int b => cases e; rw [r.int]; exact rfl
  | lst ds => cases e; obtain ⟨a, vs, rfl, h, rr⟩ := r.lst; exact .inl ⟨vs, .inl (.inl h), (em rr).symm⟩
  | tup ds => cases e; obtain ⟨a, vs, rfl, h, rr⟩ := r.tup; exact .inr (.inl ⟨vs, SqT.same s h, (em rr).symm⟩)
  | _ => cases e
def mOrV (a b : M D) : M D := fun τ => (a τ).bind fun x => fun τ => (Res.lift (truD x) τ).bind fun k => fun τ => if k = true then .ok x τ else b τ
theorem sE_or (hK : X.K = L.K) (ha : SE L P E X a ma) (hb : SE L P E X b mb) : SE L P E X (.BoolOp .Or [a, b] pos) (mOrV ma mb) :=
  PE.weak (pe_orT ha (pe_one hb)) fun σ H Q ⟨τ, R, h⟩ => by
    refine ⟨τ, R, (Post.split (R := RV L) h).imp fun x H1 ⟨d1, τ1, t1, R1, r1, h1⟩ => ?_⟩
    obtain ⟨k, e, q⟩ := (Post.split (R := RB) h1).lift
    refine ⟨k, by rw [hK]; exact truV_ok hid_le (r1.bp hid_le) e, ?_⟩
    obtain ⟨b', τ3, t3, R3, rb, h3⟩ := q k H1 .refl R1 rfl
    cases rb
    cases k with
    | true => rw [if_pos rfl] at h3 ⊢; exact h3 x H1 .refl R3 (r1.same (R1.fz t3))
    | false => rw [if_neg Bool.false_ne_true] at h3 ⊢; exact ⟨τ3, R3, h3⟩
theorem sF_or (hK : X.K = L.K) (ha : SF L P E X a ma) (hb : SF L P E X b mb) : SF L P E X (.BoolOp .Or [a, b] pos) (mOrV ma mb) :=
  PE.weak (pe_orT ha (pe_one hb)) fun σ H Q ⟨τ, R, h⟩ => by
    refine ⟨τ, R, ?_⟩
    have h : PostF L P H σ τ ((ma τ).bind fun x => fun τ => (Res.lift (truD x) τ).bind fun k => fun τ => if k = true then .ok x τ else mb τ) Q (E σ) := h
    revert h
    cases ma τ with
    | ok d τ1 =>
      intro h a H1 t1 R1 r1
      rw [Res.bind_ok] at h
      cases e : truD d with
      | none => rw [e] at h; exact h.elim
      | some k =>
        rw [e, Res.lift_some, Res.bind_ok] at h
        refine ⟨k, by rw [hK]; exact truV_ok (F := hid H1 (Hd P σ τ1)) hid_le ((fresh_rp R1 r1).bp hid_le) e, ?_⟩
        cases k with
        | true => rw [if_pos rfl] at h ⊢; exact h a H1 t1 R1 r1
        | false =>
          rw [if_neg Bool.false_ne_true] at h ⊢
          refine ⟨τ1, R1.same rid_le, ?_⟩
          revert h
          have t2 : Tr H (Own σ τ) H1 (Own σ τ1) := t1.trans (.of rid_le)
          cases mb τ1 with
          | ok d τ2 => exact fun h a H' x y z => h a H' (t2.trans x) y z
          | exc c xs τ2 => exact fun h a b H' x y z => h a b H' (t2.trans x) y z
          | fail => exact fun h => h
    | exc c xs τ' => exact fun h => h
    | fail => exact fun h => h
end
end Sm
set_option Elab.async false
set_option linter.all false
set_option maxRecDepth 100000
set_option maxHeartbeats 400000
/-! SmK: lists that change: append, x[i] = e. -/
namespace Sm
open PySem PySem.Spec PyProof.Rows L2
section
variable {L : Lay} {P : Pa} {W : WX} {X : Cx} {E : L2.St → XK} {pos : Pos} {e a b c : Expr} {es : List Expr} {m ma mb mc : M D} {ms : M (List D)}
def Sl.chg (f : List D → Option (List D)) : Sl → Option Sl
  | .ow (.lst ds) => (f ds).map fun ns => .ow (.lst ns)
  | .le (.lst ds) => (f ds).map fun ns => .le (.lst ns)
  | .io k (.lst ds) => (f ds).map fun ns => .io k (.lst ns)
  | _ => none
def chgS (i : Nat) (f : List D → Option (List D)) (τ : List Sl) : Option (List Sl) := (τ[i]?).bind fun t => (t.chg f).map fun t' => τ.set i t'
theorem StR.chg {H : Hp} {σ : L2.St} {τ τ' : List Sl} {i : Nat} {f : List D → Option (List D)} (R : StR L P H σ τ) (h : chgS i f τ = some τ') :
    ∃ a vs ds ns, σ[i]? = some (some (.ref a)) ∧ H a = some (.lst vs) ∧ Rps L (hid H (Hd P σ τ)) ds vs ∧ f ds = some ns ∧
      ∀ us, Rps L (hid H (Hd P σ τ)) ns us → Tr H (Own σ τ) (upd H a (.lst us)) (Own σ τ') ∧ StR L P (upd H a (.lst us)) σ τ' := by
  obtain ⟨t, et, h⟩ := Option.bind_eq_some_iff.mp h
  obtain ⟨t', e', rfl⟩ := Option.map_eq_some_iff.mp h
  have q := R.sl i t et
  have keep : ∀ (a : Addr) (us : List V) (b : Addr) (o : HO), H b = some o → b ≠ a → upd H a (.lst us) b = some o := fun a us b o h n => by rw [upd_ne n]; exact h
  cases t with
  | ow d =>
    cases d with
    | lst ds =>
      obtain ⟨ns, e, rfl⟩ := Option.map_eq_some_iff.mp e'
      obtain ⟨a, e1, vs, hv, rr⟩ := q
      exact ⟨a, vs, ds, ns, e1, hv, rr, e, fun us ru => R.upd1 ⟨e1, _, et, rfl⟩ (keep a us) ⟨_, upd_same⟩ (.inr ⟨rfl, fun tr => ⟨a, e1, us, upd_same, Rps.same (R.fz tr) ru⟩⟩)⟩
    | _ => cases e'
  | le d =>
    cases d with
    | lst ds =>
      obtain ⟨ns, e, rfl⟩ := Option.map_eq_some_iff.mp e'
      obtain ⟨a, e1, vs, hv, rr⟩ := q
      exact ⟨a, vs, ds, ns, e1, hv, rr, e, fun us ru => R.upd1 ⟨e1, _, et, rfl⟩ (keep a us) ⟨_, upd_same⟩ (.inr ⟨rfl, fun tr => ⟨a, e1, us, upd_same, Rps.same (R.fz tr) ru⟩⟩)⟩
    | _ => cases e'
  | io k d =>
    cases d with
    | lst ds =>
      obtain ⟨ns, e, rfl⟩ := Option.map_eq_some_iff.mp e'
      obtain ⟨a, e1, e2, vs, hv, rr⟩ := q
      exact ⟨a, vs, ds, ns, e1, hv, rr, e, fun us ru => R.upd1 ⟨e1, _, et, rfl⟩ (keep a us) ⟨_, upd_same⟩ (.inr ⟨rfl, fun tr => ⟨a, e1, e2, us, upd_same, Rps.same (R.fz tr) ru⟩⟩)⟩
    | _ => cases e'
  | un => cases e'
  | fz d => cases e'

/-! ### append -/
def Res.opt (o : Option (List Sl)) : Res D :=
  match o with
  | some τ => .ok .non τ
  | none => .fail
@[simp] theorem Res.opt_some {τ : List Sl} : Res.opt (some τ) = .ok .non τ := rfl
@[simp] theorem Res.opt_none : Res.opt none = .fail := rfl
def isLst : Option D → Bool
  | some (.lst _) => true
  | _ => false
def fApp (d : D) (xs : List D) : Option (List D) := if xs.length < 16000000 then some (xs ++ [d]) else none
def mApp (i : Nat) (m : M D) : M D := fun τ => if isLst (peek i τ) = true then (m τ).bind fun d => fun τ => Res.opt (chgS i (fApp d) τ) else .fail
theorem isLst_some {o : Option D} (h : isLst o = true) : ∃ ds, o = some (.lst ds) := by
  unfold isLst at h
  split at h
  · exact ⟨_, rfl⟩
  · cases h
theorem sE_app {x : Str} {p apos : Pos} (i : Nat) (ha : SE L P E X e m) (hN : X.N[i]? = some x := by rfl) (hv : Vis X.env.scope x := by first | exact Or.inl rfl | exact Or.inr (Or.inl rfl) | exact Or.inr (Or.inr rfl)) (hd : (x == ("__debug__" : Str)) = false := by decide)
    (hcd : (x == ("__classdict__" : Str)) = false := by decide)
    (hbase : attributeBase (.Name x p) "append" X.env (eval (.Name x p) X.env) = eval (.Name x p) X.env := by rfl)
    (hfew : ((backTo pos (starEach [e] X.env)).all (fun x => !x.1) && (backToKw pos (keywordEach [] X.env)).all (fun x => x.1.isSome)
      && decide ([e].length + ([] : List Keyword).length + (if ([] : List Keyword).isEmpty then 0 else 1) < 30)) = true := by rfl)
    (hline : (apos.endLine == pos.line) = true := by rfl) (hs : starEach [e] X.env = (false, eval e X.env) :: starEach [] X.env := by rfl) :
    SE L P E X (.Call (.Attribute (.Name x p) "append" apos) [e] [] pos) (mApp i m) :=
  PE.weak (pe_bm F.plainAttrs_list F.slot_list_append F.type_list_append mt_append (pe_var hN hv hd hcd) (pa_cons ha pa_nil hs) hbase hfew hline hs) fun σ H Q ⟨τ, R, h⟩ => by
    unfold mApp at h
    by_cases hl : isLst (peek i τ) = true
    · rw [if_pos hl] at h
      obtain ⟨ds, hp⟩ := isLst_some hl
      obtain ⟨v, hv, rb⟩ := peek_ok R hp
      obtain ⟨a, vs, rfl, ha, _⟩ := rb.lst
      refine ⟨.ref a, hv, .inl ⟨rfl, vs, .inl (.inl ha)⟩, τ, R, (Post.split (R := RV L) h).imp fun y H1 ⟨d, τ1, t1, R1, r1, h1⟩ => ?_⟩
      cases e1 : chgS i (fApp d) τ1 with
      | none => rw [e1] at h1; exact h1.elim
      | some τ2 =>
        rw [e1] at h1
        obtain ⟨a', vs', ds', ns, e2, hv', rr, ef, q⟩ := R1.chg e1
        rw [hv] at e2
        cases e2
        unfold fApp at ef
        split at ef
        · rename_i hz
          cases ef
          refine ⟨a, vs', y, rfl, rfl, hv', ?_, ?_⟩
          · rw [rr.length]
            exact Nat.lt_of_lt_of_le hz (by decide)
          · obtain ⟨t2, R2⟩ := q (vs' ++ [y]) (rr.app (.cons r1 .nil))
            exact h1 .non _ t2 R2 (Rp.non_iff.mpr rfl)
        · cases ef
    · rw [if_neg hl] at h
      exact h.elim

/-! ### x[i] = e -/
def fSet (k : Int) (d : D) (xs : List D) : Option (List D) := (ixN xs.length k).map fun j => xs.set j d
def Res.ixO (r : Res D) (f : Int → List Sl → Option (List Sl)) : Option (List Sl) :=
  match r with
  | .ok (.int k) τ => f k τ
  | _ => none
@[simp] theorem Res.ixO_int {k : Int} {τ : List Sl} {f : Int → List Sl → Option (List Sl)} : (Res.ok (.int k) τ).ixO f = f k τ := rfl
def gIx (i : Nat) (mi : M D) : MG := fun d τ => if isLst (peek i τ) = true then (mi τ).ixO fun k τ => chgS i (fSet k d) τ else none
/-- a place of a list that changes -/
theorem sG_ix {x : Str} {p : Pos} (i : Nat) (hb : SE L P (WE W) X b mb) (hN : X.N[i]? = some x := by rfl) (hv : Vis X.env.scope x := by first | exact Or.inl rfl | exact Or.inr (Or.inl rfl) | exact Or.inr (Or.inr rfl)) (hd : (x == ("__debug__" : Str)) = false := by decide)
    (hcd : (x == ("__classdict__" : Str)) = false := by decide)
    (ha : ∀ v, assign (.Subscript (.Name x p) b pos) X.env v = (do
      let ov ← holding [v] (eval (.Name x p) X.env)
      let iv ← holding [v, ov] (eval b X.env)
      standAt pos
      holding [v, ov, iv] (setItem ov iv v)
      release [v, ov, iv] []) := by intro _; rfl) : SG L P X (.Subscript (.Name x p) b pos) (gIx i mb) :=
  PG.weak (pg_sub (pe_var hN hv hd hcd) hb set_list ha) fun v σ H Q ⟨τ, d, τ', R, r, e, q⟩ => by
    have e : (if isLst (peek i τ) = true then (mb τ).ixO fun k τ => chgS i (fSet k d) τ else none) = some τ' := e
    by_cases hl : isLst (peek i τ) = true
    · rw [if_pos hl] at e
      obtain ⟨ds, hp⟩ := isLst_some hl
      obtain ⟨w, hw, rb⟩ := peek_ok R hp
      refine ⟨w, hw, τ, R, ?_⟩
      revert e
      cases mb τ with
      | ok dk τ1 =>
        intro e y H1 t1 R1 r1
        cases dk with
        | int k =>
          have e : chgS i (fSet k d) τ1 = some τ' := e
          obtain ⟨a', vs', ds', ns, e2, hv', rr, ef, q2⟩ := R1.chg e
          rw [hw] at e2
          cases e2
          obtain ⟨j, hj, rfl⟩ := Option.map_eq_some_iff.mp ef
          rw [← rr.length] at hj
          obtain ⟨t2, R2⟩ := q2 (vs'.set j v) (Rps.set (r.same (R.fz t1)) j rr)
          exact ⟨a', vs', k, j, rfl, Rp.int_iff.mp r1, hv', hj, q _ _ (t1.trans t2) R2⟩
        | _ => cases e
      | exc c xs τ1 => intro e; cases e
      | fail => intro e; cases e
    · rw [if_neg hl] at e
      cases e
end
end Sm
set_option Elab.async false
set_option linter.all false
set_option maxRecDepth 100000
set_option maxHeartbeats 400000
/-! SmL: sets of ints. -/
namespace Sm
open PySem PySem.Spec PyProof.Rows L2
/-! ### set(xs), xs a list of ints -/
section
variable {P : Program} {w : World} {A : Around} {E : Value → Shared → Prop} {s : Shared}
set_option maxHeartbeats 3200000 in
theorem set_of_ints {l : Addr} {items : Array Value} (ns : List Int) {Q : Value → Shared → Prop} (hh : A.handled = none) (hl : s.heap.IsList l items) (hit : IntsAre items.toList ns) (hb : ns.length + 1 < scanBound)
    (h : ∀ (h' : Heap) (tk c : Nat), SetR w h' s.heap.objs.size (fun j => decide (j ∈ ns)) c → (∀ b o, s.heap.get? b = some o → h'.get? b = some o) → Q (.ref s.heap.objs.size) { s with heap := h', toks := tk }) :
    wpAny (model P w) A (call (.type "set") [.ref l]) Q E s := by
  have size : items.size = ns.length := by rw [← Array.length_toList]; exact IntsAre.length hit
  obtain ⟨c, tl, hmro⟩ := F.called_set.mro
  have hmade := F.called_set.made
  have hsub := F.called_set.sub
  have h1 := F.called_set.notType
  have h2 := F.called_set.canCreate
  have hct := F.typeCall_set_1 (.ref l)
  refine wpAny_call (codeAny_of_tree ?_)
  show wpAny _ _ (callAny (.type "set") _) _ _ _
  refine wpAny_pure ⟨Code.quiet_builtin _ (by decide +kernel), codeAny_builtin F.entry_type_call ?_⟩
  rw [Around.under_plain (weight_type_call_type "set" [.ref l] []) rfl]
  repeat (any_goals (first | assumption | wp_step))

  refine codeAny_mono (code_set_led1 (.ref l) (E := E) (Q₁ := fun v s₁ => v = .ref s.heap.objs.size ∧ s₁ = { s with heap := s.heap.push { cls := .type "set", dict := none, data := .set #[] 0 (.fresh 0 0 (!w.params.followText "set-order")) } }) ⟨rfl, rfl⟩) fun r s₁ hr => ?_
  match r, hr with
  | .error e, hr => exact hr
  | .ok (.ret obj), hr =>
    obtain ⟨rfl, rfl⟩ := hr
    have hS : (s.heap.push { cls := .type "set", dict := none, data := .set #[] 0 (.fresh 0 0 (!w.params.followText "set-order")) }).get? s.heap.objs.size = some { cls := .type "set", dict := none, data := .set #[] 0 (.fresh 0 0 (!w.params.followText "set-order")) } := Heap.get?_push_size _ rfl
    have hT : Shared.TypeIs { s with heap := s.heap.push { cls := .type "set", dict := none, data := .set #[] 0 (.fresh 0 0 (!w.params.followText "set-order")) } } (.ref s.heap.objs.size) "set" := ⟨_, hS, rfl⟩
    have hli := F.called_set.init.lookup
    have hbi := F.called_set.init.bind (.ref s.heap.objs.size)
    repeat (any_goals (first | assumption | wp_step))

    refine codeAny_mono (codeAny_call_builtin (R := wants (fun r s₂ => r = .none ∧ ∃ h' tk c, s₂ = { s with heap := h', toks := tk } ∧ SetR w h' s.heap.objs.size (fun j => decide (j ∈ ns)) c ∧
        (∀ b o, s.heap.get? b = some o → h'.get? b = some o)) E) F.called_set.init.plain F.entry_set_init (check_set_init_1 hT ?_)) fun r₂ s₂ hr₂ => ?_
    · have old : ∀ b o, s.heap.get? b = some o → (s.heap.push { cls := .type "set", dict := none, data := .set #[] 0 (.fresh 0 0 (!w.params.followText "set-order")) }).get? b = some o := fun b o e => Heap.get?_push_of_some _ e
      obtain ⟨ol, hol, hcl, nl, hdl⟩ := hl
      have hlS : l < s.heap.objs.size := Heap.lt_size hol
      obtain ⟨ocls, odict, odata, oslots⟩ := ol
      simp only at hcl hdl
      subst hcl; subst hdl
      have hol' := old _ _ hol
      have hsls := F.sub_list_set
      have hslf := F.sub_list_frozenset
      have hne : (Value.type "list" == Value.type "dict") = false := by decide
      have hl1 : (s.heap.push { cls := .type "set", dict := none, data := .set #[] 0 (.fresh 0 0 (!w.params.followText "set-order")) }).IsList l items := ⟨_, hol', rfl, nl, rfl⟩
      unfold Builtin.«set.__init__» noKeywords Builtin.Frozenset.updateFrom
      generalize hPI : pyIter = PI
      wp_walk
      subst hPI

      refine wpAny_pyIter_list hl1 ?_
      refine wpAny_bind (wpAny_runValue ?_)
      have hh3 : A.in1.in1.in1.handled = none := by simp [hh]
      have hneI : l ≠ (s.heap.push { cls := .type "set", dict := none, data := .set #[] 0 (.fresh 0 0 (!w.params.followText "set-order")) }).objs.size := by
        rw [Heap.size_push]; exact Nat.ne_of_lt (Nat.lt_succ_of_lt hlS)
      have hSf : s.heap.objs.size ∉ [(s.heap.push { cls := .type "set", dict := none, data := .set #[] 0 (.fresh 0 0 (!w.params.followText "set-order")) }).objs.size, l] := by
        rw [Heap.size_push]
        simp only [List.mem_cons, List.mem_singleton, List.not_mem_nil, or_false, not_or]
        exact ⟨Nat.ne_of_lt (Nat.lt_succ_self _), Nat.ne_of_gt hlS⟩
      have hval : ∀ (i : Nat) (v : Value), items[i]? = some v → ∃ k t, ns[i]? = some k ∧ v = .int k t := fun i v hv => by
        have hi : i < ns.length := by rw [← size]; exact (Array.getElem?_eq_some_iff.mp hv).1
        obtain ⟨t, e⟩ := PyProof.Rows.IntsAre.int_at hit i v (by rw [Array.getElem?_toList]; exact hv)
        refine ⟨ns[i], t, List.getElem?_eq_getElem hi, ?_⟩
        rw [e, List.getD_eq_getElem?_getD, List.getElem?_eq_getElem hi] <;> rfl
      have fresh : ((s.heap.push { cls := .type "set", dict := none, data := .set #[] 0 (.fresh 0 0 (!w.params.followText "set-order")) }).push { cls := .type "list_iterator", data := .fields #[.ref l, .int 0 0] }).get? s.heap.objs.size
          = some { cls := .type "set", dict := none, data := .set #[] 0 (.fresh 0 0 (!w.params.followText "set-order")) } := Heap.get?_push_of_some _ hS
      refine set_update_ints ((Walks.list hh3 _ l hneI items).toS) s.heap.objs.size hSf ns size hb hval (items.size - 0) 0 _ (by omega) (Nat.zero_le _)
        ⟨⟨_, Heap.get?_push_size _ rfl, rfl, rfl⟩, (hl1.push _)⟩ ⟨0, Nat.le_refl 0, setR_new_at fresh⟩ fun s' c' hm hc' hS' => ?_
      obtain ⟨h', g2, d', tk', os'⟩ := s'
      have eg : g2 = s.gens := hm.gens
      have ed : d' = s.drawn := hm.drawn
      have eo : os' = s.os := hm.os
      subst eg; subst ed; subst eo
      show wpAny _ _ _ _ _ _
      refine wpAny_pure ?_
      show wpAny _ _ (ret Value.none) _ _ _
      refine wpAny_pure ⟨rfl, h', tk', c', rfl, hS', fun b o e => ?_⟩
      have hb0 : b < s.heap.objs.size := Heap.lt_size e
      refine hm.heap b o ?_ (Heap.get?_push_of_some _ (old b o e))
      rw [Heap.size_push]
      simp only [List.mem_cons, List.mem_singleton, List.not_mem_nil, or_false, not_or]
      exact ⟨Nat.ne_of_lt hb0, Nat.ne_of_lt (Nat.lt_succ_of_lt hb0)⟩
    · match r₂, hr₂ with
      | .error e, hr₂ => exact hr₂
      | .ok (.ret r), hr₂ =>
        obtain ⟨rfl, h', tk, c', rfl, hS', hk'⟩ := hr₂
        repeat (any_goals (first | assumption | wp_step))
        exact h _ _ _ hS' hk'
end
end Sm
set_option Elab.async false
set_option linter.all false
set_option maxRecDepth 100000
set_option maxHeartbeats 400000
/-! SmM: sets of ints as data: set(list), sorted(set). -/
namespace Sm
open PySem PySem.Spec PyProof.Rows L2
/-- a number put into a rising list -/
def insU (k : Int) : List Int → List Int
  | [] => [k]
  | x :: xs => if k < x then k :: x :: xs else if k = x then x :: xs else x :: insU k xs
def sortU : List Int → List Int
  | [] => []
  | x :: xs => insU x (sortU xs)
theorem insU_mem {k j : Int} : ∀ {xs : List Int}, j ∈ insU k xs ↔ j = k ∨ j ∈ xs
  | [] => by simp [insU]
  | x :: xs => by
    unfold insU
    split
    · simp
    · split
      · rename_i h; subst h; simp
      · simp only [List.mem_cons, insU_mem (xs := xs)]
        constructor
        · rintro (h | h | h)
          · exact .inr (.inl h)
          · exact .inl h
          · exact .inr (.inr h)
        · rintro (h | h | h)
          · exact .inr (.inl h)
          · exact .inl h
          · exact .inr (.inr h)
theorem insU_pw {k : Int} : ∀ {xs : List Int}, xs.Pairwise (· < ·) → (insU k xs).Pairwise (· < ·)
  | [], _ => by simp [insU]
  | x :: xs, h => by
    obtain ⟨h1, h2⟩ := List.pairwise_cons.mp h
    unfold insU
    split
    · rename_i hk
      refine List.pairwise_cons.mpr ⟨fun y hy => ?_, h⟩
      rcases List.mem_cons.mp hy with e | hy
      · omega
      · have := h1 y hy; omega
    · split
      · exact h
      · rename_i n1 n2
        refine List.pairwise_cons.mpr ⟨fun y hy => ?_, insU_pw h2⟩
        rcases insU_mem.mp hy with e | hy
        · omega
        · exact h1 y hy
theorem sortU_mem {j : Int} : ∀ {xs : List Int}, j ∈ sortU xs ↔ j ∈ xs
  | [] => by simp [sortU]
  | x :: xs => by rw [sortU, insU_mem, sortU_mem (xs := xs), List.mem_cons]
theorem sortU_pw : ∀ xs : List Int, (sortU xs).Pairwise (· < ·)
  | [] => by simp [sortU]
  | x :: xs => insU_pw (sortU_pw xs)
theorem rising_eq : ∀ {xs ys : List Int}, xs.Pairwise (· < ·) → ys.Pairwise (· < ·) → (∀ k, k ∈ xs ↔ k ∈ ys) → xs = ys
  | [], [], _, _, _ => rfl
  | [], y :: ys, _, _, h => by have := (h y).mpr List.mem_cons_self; simp at this
  | x :: xs, [], _, _, h => by have := (h x).mp List.mem_cons_self; simp at this
  | x :: xs, y :: ys, hx, hy, h => by
    obtain ⟨x1, x2⟩ := List.pairwise_cons.mp hx
    obtain ⟨y1, y2⟩ := List.pairwise_cons.mp hy
    have e : x = y := by
      rcases List.mem_cons.mp ((h x).mp List.mem_cons_self) with e | e
      · exact e
      · rcases List.mem_cons.mp ((h y).mpr List.mem_cons_self) with e2 | e2
        · exact e2.symm
        · have := y1 x e; have := x1 y e2; omega
    subst e
    have t : xs = ys := rising_eq x2 y2 fun k => by
      constructor
      · intro hk
        rcases List.mem_cons.mp ((h k).mp (List.mem_cons_of_mem _ hk)) with e | e
        · have := x1 k hk; omega
        · exact e
      · intro hk
        rcases List.mem_cons.mp ((h k).mpr (List.mem_cons_of_mem _ hk)) with e | e
        · have := y1 k hk; omega
        · exact e
    rw [t]
section
variable {L : Lay} {P : Pa} {W : WX} {X : Cx} {E : L2.St → XK} {pos : Pos} {e a b c : Expr} {es : List Expr} {m ma mb mc : M D} {ms : M (List D)}
def rSetOfI (K : PySem.W.Frag) (w : World) : List V → Hp → VK → Prop := fun xs H Q => ∃ (l : Addr) (ns : List Int), xs = [V.ref l] ∧ SqL K H l (ns.map V.int) ∧ ns.length < 2000 ∧
  ∀ a, H a = none → Q (.ref a) (upd H a (SetO w a (fun k => decide (k ∈ sortU ns)) (sortU ns).length))
theorem setR_num {w : World} {h : Heap} {a : Addr} {ns : List Int} {n : Nat} (R : SetR w h a (fun j => decide (j ∈ ns)) n) : n = (sortU ns).length := by
  obtain ⟨o, es, ep, t, _, _, _, _, nd, hm, _, _, hn, _⟩ := R
  have hp : (es.toList.map keyOf).Perm (sortU ns) := (List.perm_ext_iff_of_nodup nd ((sortU_pw ns).imp fun h => Int.ne_of_lt h)).mpr fun k => by
    rw [← hm k, sortU_mem]
    exact decide_eq_true_iff
  have := hp.length_eq
  rw [List.length_map, Array.length_toList] at this
  omega
theorem cr_setOfI (hc : X.calm = true) : CallR X (.type "set") (rSetOfI X.K X.w) := by
  intro pins s σ H xs us Q I r h
  obtain ⟨l, ns, rfl, hl, hf, q⟩ := h
  rw [Vals.ref1 r]
  obtain ⟨its, rv, pl, hz⟩ := I.list hl
  have hn : H s.heap.objs.size = none := I.hok.fresh (Nat.le_refl _)
  refine set_of_ints (P := X.prog) (w := X.w) ns (I.ok.hd hc) pl.isList (by simpa using intsAre_of rv) (by unfold scanBound; omega) fun h' tk c R k => ?_
  have hnum := setR_num R
  subst hnum
  have ef : (fun j => decide (j ∈ ns)) = fun j => decide (j ∈ sortU ns) := by
    funext j
    exact decide_eq_decide.mpr sortU_mem.symm
  rw [ef] at R
  exact ⟨.ref s.heap.objs.size, upd H s.heap.objs.size (SetO X.w s.heap.objs.size (fun k => decide (k ∈ sortU ns)) (sortU ns).length), I.laid (t' := tk) k (Nat.le_refl _) (setO_new R), rfl, q _ hn⟩
def dSet : List D → Option D := onInts fun ns => if ns.length < 2000 then some (.set ((sortU ns).map .int)) else none
theorem fs_set : FnS L (rSetOfI L.K L.w) dSet := by
  intro ds d xs H A Q e r hA q
  obtain ⟨a, ns, rfl, h, e2⟩ := onInts_some e r
  split at e2
  · rename_i hz
    cases e2
    refine ⟨a, ns, rfl, .inl (.inl h), hz, fun p hp => q _ _ (same_upd hp) (Rp.set_iff.mpr (.inl ⟨p, sortU ns, rfl, rfl, sortU_pw ns, new_hid hA hp⟩))⟩
  · cases e2
theorem fs_of_ff {r : List V → Hp → VK → Prop} {f : List D → Option (List D)} (h : FnF L r f) : FnS L r fun xs => (f xs).map .lst := by
  intro ds d xs H A Q e rr hA q
  obtain ⟨ns, e1, rfl⟩ := Option.map_eq_some_iff.mp e
  exact h ds ns xs H A Q e1 rr hA fun p vs hp r2 => q _ _ (same_upd hp) (new_lst hA hp r2)
end
end Sm
set_option Elab.async false
set_option linter.all false
set_option maxRecDepth 100000
set_option maxHeartbeats 400000
/-! SmZ: sorted, max and min over data of any depth. -/
namespace Sm
open PySem PySem.Spec PyProof.Rows L2
section
variable {X : Cx}
abbrev zle : V × PyData → V × PyData → Bool := PySem.W.dataLe false (fun z : V × PyData => z.2)
theorem each_of {R : Value → V × PyData → Prop} : ∀ {zs : List (V × PyData)} {us : List Value}, Vals (zs.map (·.1)) us → (∀ z ∈ zs, ∀ u, RelV z.1 u → R u z) → PySem.W.EachIs R us zs
  | [], us, r, _ => by cases r; exact .nil
  | z :: zs, us, r, h => by
    cases r with
    | cons r1 r2 => exact .cons (h z List.mem_cons_self _ r1) (each_of r2 fun y hy => h y (List.mem_cons_of_mem _ hy))
theorem vals_each : ∀ {zs : List (V × PyData)} {us : List Value}, PySem.W.EachIs (fun u (z : V × PyData) => RelV z.1 u) us zs → Vals (zs.map (·.1)) us
  | [], us, r => by cases r; exact .nil
  | z :: zs, us, r => by
    cases r with
    | cons r1 r2 => exact .cons r1 (vals_each r2)
def rSortedD (K : PySem.W.Frag) : List V → Hp → VK → Prop := fun vs H Q => ∃ (a : Addr) (zs : List (V × PyData)), vs = [V.ref a] ∧ SqL K H a (zs.map (·.1)) ∧ (∀ z ∈ zs, Dp K H z.1 z.2) ∧ PySem.W.AllAlike (zs.map (·.2)) ∧ PySem.W.Sortable (zs.map (·.2)) ∧
  zs.length ≤ 16000000 ∧ (∀ z ∈ zs, z.2.depth ≤ 8) ∧ ∀ p, H p = none → Q (.ref p) (upd H p (.lst ((zs.mergeSort zle).map (·.1))))
theorem cr_sortedD (hu : X.A.units + 64 < cLine) : CallR X (.builtin "sorted") (rSortedD X.K) := by
  intro pins s σ H vs us Q I r h
  obtain ⟨a, zs, rfl, hs, hd, hal, hk, hz, hdep, q⟩ := h
  obtain ⟨its, rv, hl, _⟩ := I.list hs
  rw [Vals.ref1 r]
  have e : PySem.W.EachIs (fun (u : Value) (z : V × PyData) => RelV z.1 u) its zs := each_of rv fun z _ u r => r
  have er : PySem.W.EachIs (fun (u : Value) (z : V × PyData) => ∃ as, Reads s.heap u z.2 as) its zs := each_of rv fun z hz u r => Dp.reads I _ _ _ (hd z hz) r
  refine PySem.W.sorted_data (enc := fun z : V × PyData => z.2) hl.isList e er hal hk (Nat.le_trans hz (by decide)) (fun z hm => ?_) fun out h1 h2 => ?_
  · have := hdep z hm
    show X.A.units + 2 + _ < _
    omega
  · obtain ⟨ep, he'⟩ := PyProof.Rows.sortedAll_at s.heap its out.toArray
    have hlen : ((zs.mergeSort zle).map (·.1)).length ≤ sizeLine := by rw [List.length_map, (List.mergeSort_perm zs zle).length_eq]; exact Nat.le_trans hz (by decide)
    exact ⟨.ref _, upd H (s.heap.objs.size + 1) (.lst ((zs.mergeSort zle).map (·.1))), I.laid (t' := s.toks) (fun _ _ => PyProof.Rows.sortedAll_old) (Nat.le_succ _) ⟨hlen, out, ep, vals_each h2, he'⟩, rfl, q _ (I.hok.fresh (Nat.le_succ _))⟩

/-! the order on data -/
def pyD (d : D) : PyData := d.py.getD .none
def dlt (a b : D) : Bool := PySem.W.dataLt (pyD a) (pyD b)
def dle (a b : D) : Bool := !dlt b a
theorem zle_eq (a b : V × PyData) : zle a b = !PySem.W.dataLt b.2 a.2 := rfl
theorem dlt_trans {a b c : D} (h1 : dlt a b = true) (h2 : dlt b c = true) : dlt a c = true := PyProof.Rows.lex_trans _ _ _ h1 h2
theorem dlt_irrefl (a : D) : dlt a a = false := PyProof.Rows.lex_irrefl _
theorem dle_trans (a b c : D) (h1 : dle a b = true) (h2 : dle b c = true) : dle a c = true := by
  unfold dle at *
  cases h : dlt c a with
  | false => rfl
  | true =>
    rcases PyProof.Rows.lex_negTrans _ (PySem.W.keyToks (pyD b)) _ h with q | q
    · have : dlt c b = true := q
      rw [this] at h2; cases h2
    · have : dlt b a = true := q
      rw [this] at h1; cases h1
theorem dle_total (a b : D) : (dle a b || dle b a) = true := by
  unfold dle
  cases h : dlt b a with
  | false => rfl
  | true =>
    cases h2 : dlt a b with
    | false => rfl
    | true =>
      have := dlt_trans h h2
      rw [dlt_irrefl] at this; cases this
/-- stable insertion -/
def insB {α : Type} (le : α → α → Bool) (x : α) : List α → List α
  | [] => [x]
  | y :: ys => if le x y = true then x :: y :: ys else y :: insB le x ys
def isort {α : Type} (le : α → α → Bool) : List α → List α
  | [] => []
  | x :: xs => insB le x (isort le xs)
theorem insB_app {α : Type} {le : α → α → Bool} {x : α} : ∀ {l1 l2 : List α}, (∀ b ∈ l1, (!le x b) = true) → (∀ b ∈ l2, le x b = true) → insB le x (l1 ++ l2) = l1 ++ x :: l2
  | [], [], _, _ => rfl
  | [], y :: l2, _, h => by
    show (if le x y = true then _ else _) = _
    rw [if_pos (h y List.mem_cons_self)]; rfl
  | y :: l1, l2, h, h2 => by
    have hy := h y List.mem_cons_self
    show (if le x y = true then _ else _) = _
    rw [if_neg (by cases q : le x y with | true => rw [q] at hy; cases hy | false => decide)]
    show y :: insB le x (l1 ++ l2) = _
    rw [insB_app (fun b hb => h b (List.mem_cons_of_mem _ hb)) h2]; rfl
theorem isort_merge {α : Type} {le : α → α → Bool} (tr : ∀ a b c : α, le a b = true → le b c = true → le a c = true) (tt : ∀ a b : α, (le a b || le b a) = true) : ∀ l : List α, l.mergeSort le = isort le l
  | [] => by rw [List.mergeSort_nil]; rfl
  | x :: xs => by
    obtain ⟨l1, l2, e1, e2, h1⟩ := List.mergeSort_cons (le := le) tr tt x xs
    have pw := List.pairwise_mergeSort (le := le) tr tt (x :: xs)
    rw [e1] at pw
    have h2 : ∀ b ∈ l2, le x b = true := fun b hb => (List.pairwise_cons.mp (List.pairwise_append.mp pw).2.1).1 b hb
    rw [e1]
    show _ = insB le x (isort le xs)
    rw [← isort_merge tr tt xs, e2]
    exact (insB_app (fun b hb => h1 b hb) h2).symm
/-! sorted, on data -/
def likeB (ps : List PyData) : Bool := ps.all fun p => ps.all fun q => PySem.W.alike p q
def isTup1 : PyData → Bool
  | .tuple (_ :: _) => true
  | _ => false
def noTup : PyData → Bool
  | .tuple _ => false
  | .none => false
  | _ => true
def okSort (ps : List PyData) : Bool := likeB ps && (ps.all isTup1 || ps.all noTup) && ps.all (fun p => decide (p.depth ≤ 8)) && decide (ps.length ≤ 16000000)
theorem likeB_all {ps : List PyData} (h : likeB ps = true) : PySem.W.AllAlike ps := fun d hd d' hd' => List.all_eq_true.mp (List.all_eq_true.mp h d hd) d' hd'
theorem okSort_able {ps : List PyData} (h : (ps.all isTup1 || ps.all noTup) = true) : PySem.W.Sortable ps := by
  rcases Bool.or_eq_true_iff.mp h with h | h
  · refine .inl fun d hd => ?_
    have q := List.all_eq_true.mp h d hd
    unfold isTup1 at q
    split at q
    · exact ⟨_, _, rfl⟩
    · cases q
  · refine .inr fun d hd => ?_
    have q := List.all_eq_true.mp h d hd
    constructor
    · rintro rfl; cases q
    · rintro xs rfl; cases q
def nSortedD : List D → Option (List D)
  | [.lst ds] => (D.pys ds).bind fun ps => if okSort ps = true then some (isort dle ds) else none
  | _ => none
/-- data, values and their plain data side by side -/
theorem triples {L : Lay} {F : Hp} : ∀ {ds : List D} {vs : List V} {ps : List PyData}, Rps L F ds vs → D.pys ds = some ps → ∃ ts : List (D × (V × PyData)), ts.map (·.1) = ds ∧ ts.map (fun t => t.2.1) = vs ∧ ts.map (fun t => t.2.2) = ps ∧ ∀ t ∈ ts, Rp L F t.1 t.2.1 ∧ t.1.py = some t.2.2
  | [], vs, ps, r, e => by unfold Rps at r; unfold D.pys at e; cases e; subst r; exact ⟨[], rfl, rfl, rfl, fun t h => (by cases h)⟩
  | d :: ds, vs, ps, r, e => by
    unfold Rps at r
    unfold D.pys at e
    obtain ⟨p, e1, e2⟩ := Option.bind_eq_some_iff.mp e
    obtain ⟨qs, e3, rfl⟩ := Option.map_eq_some_iff.mp e2
    obtain ⟨v, vr, rfl, r1, r2⟩ := r
    obtain ⟨ts, h1, h2, h3, h4⟩ := triples r2 e3
    refine ⟨(d, v, p) :: ts, by rw [List.map_cons, h1], by rw [List.map_cons, h2], by rw [List.map_cons, h3], fun t ht => ?_⟩
    rcases List.mem_cons.mp ht with rfl | ht
    · exact ⟨r1, e1⟩
    · exact h4 t ht
theorem Rps.of_map {L : Lay} {F : Hp} {β : Type} {f : β → D} {g : β → V} : ∀ {ts : List β}, (∀ t ∈ ts, Rp L F (f t) (g t)) → Rps L F (ts.map f) (ts.map g)
  | [], _ => .nil
  | t :: ts, h => .cons (h t List.mem_cons_self) (Rps.of_map fun x hx => h x (List.mem_cons_of_mem _ hx))
theorem ff_sortedD {L : Lay} : FnF L (rSortedD L.K) nSortedD := by
  intro ds d xs H A Q e r hA q
  unfold nSortedD at e
  split at e
  · rename_i ys
    obtain ⟨ps, e1, e2⟩ := Option.bind_eq_some_iff.mp e
    split at e2
    · rename_i ok
      cases e2
      unfold okSort at ok
      rw [Bool.and_eq_true_iff, Bool.and_eq_true_iff, Bool.and_eq_true_iff] at ok
      obtain ⟨⟨⟨o1, o2⟩, o3⟩, o4⟩ := ok
      obtain ⟨v, rfl, rv⟩ := r.one
      obtain ⟨a, vs, rfl, h, rr⟩ := rv.lst
      obtain ⟨ts, t1, t2, t3, t4⟩ := triples rr e1
      have ez : (ts.map (·.2)).map (·.2) = ps := by rw [List.map_map]; exact t3
      refine ⟨a, ts.map (·.2), rfl, .inl (.inl ?_), fun z hz => ?_, by rw [ez]; exact likeB_all o1, by rw [ez]; exact okSort_able o2, ?_, fun z hz => ?_, fun p hp => ?_⟩
      · rw [List.map_map]; show H a = some (.lst (ts.map fun t => t.2.1)); rw [t2]; exact h
      · obtain ⟨t, ht, rfl⟩ := List.mem_map.mp hz
        exact Dp.up hid_le (dp_of (t4 t ht).1 (t4 t ht).2)
      · rw [List.length_map, ← List.length_map (f := fun t : D × (V × PyData) => t.2.2), t3]; exact of_decide_eq_true o4
      · have hm : z.2 ∈ ps := by rw [← ez]; exact List.mem_map.mpr ⟨z, hz, rfl⟩
        exact of_decide_eq_true (List.all_eq_true.mp o3 _ hm)
      · have k1 : (ts.map (·.2)).mergeSort zle = (ts.mergeSort fun a b => zle a.2 b.2).map (·.2) := (List.map_mergeSort (f := fun t : D × (V × PyData) => t.2) (l := ts) (r := fun a b => zle a.2 b.2) (s := zle) (fun _ _ _ _ => rfl)).symm
        have k2 : isort dle ys = (ts.mergeSort fun a b => zle a.2 b.2).map (·.1) := by
          rw [← isort_merge dle_trans dle_total, ← t1]
          refine (List.map_mergeSort (f := fun t : D × (V × PyData) => t.1) (l := ts) (r := fun a b => zle a.2 b.2) (s := dle) fun a ha b hb => ?_).symm
          show (!PySem.W.dataLt b.2.2 a.2.2) = !PySem.W.dataLt (pyD b.1) (pyD a.1)
          unfold pyD
          rw [(t4 a ha).2, (t4 b hb).2]; rfl
        rw [k1, List.map_map]
        rw [k2] at q
        refine q p _ hp (Rps.of_map fun t ht => (t4 t ?_).1)
        exact (List.mergeSort_perm ts _).mem_iff.mp ht
    · cases e2
  · cases e

theorem dpAll_of {K : PySem.W.Frag} {H : Hp} : ∀ {zs : List (V × PyData)}, (∀ y ∈ zs, Dp K H y.1 y.2) → DpAll K H (zs.map (·.1)) (zs.map (·.2))
  | [], _ => .nil
  | z :: zs, h => .cons (h z List.mem_cons_self) (dpAll_of fun y hy => h y (List.mem_cons_of_mem _ hy))
theorem fold_mem {f : PyData → PyData → Bool} : ∀ (xs : List PyData) (x : PyData), xs.foldl (fun a y => if f a y = true then y else a) x ∈ x :: xs
  | [], x => List.mem_cons_self
  | y :: ys, x => by
    rw [List.foldl_cons]
    rcases List.mem_cons.mp (fold_mem (f := f) ys (if f x y = true then y else x)) with h | h
    · rw [h]
      split
      · exact List.mem_cons_of_mem _ List.mem_cons_self
      · exact List.mem_cons_self
    · exact List.mem_cons_of_mem _ (List.mem_cons_of_mem _ h)
theorem maxD_mem (x : PyData) (xs : List PyData) : PySem.W.maxD x xs ∈ x :: xs := fold_mem (f := fun a y => PySem.W.dataLt a y) xs x
theorem minD_mem (x : PyData) (xs : List PyData) : PySem.W.minD x xs ∈ x :: xs := fold_mem (f := fun a y => PySem.W.dataLt y a) xs x
theorem _root_.PySem.Paired.get' {xs : List V} {us : List Value} (h : Vals xs us) {i : Nat} {u : Value} (e : us[i]? = some u) : ∃ x, xs[i]? = some x ∧ RelV x u := by
  induction h generalizing i with
  | nil => simp at e
  | cons r _ ih =>
    cases i with
    | zero => simp at e; subst e; exact ⟨_, rfl, r⟩
    | succ i => simp at e; obtain ⟨x, h1, h2⟩ := ih e; exact ⟨x, by simpa using h1, h2⟩

/-! max and min -/
def rMaxD (K : PySem.W.Frag) : List V → Hp → VK → Prop := fun vs H Q => ∃ (a : Addr) (z : V × PyData) (zs : List (V × PyData)), vs = [V.ref a] ∧ (SqL K H a ((z :: zs).map (·.1)) ∨ SqT K H a ((z :: zs).map (·.1))) ∧ (∀ y ∈ z :: zs, Dp K H y.1 y.2) ∧
  PySem.W.AlikeAll ((z :: zs).map (·.2)) ∧ PyData.depthAll ((z :: zs).map (·.2)) ≤ 40 ∧ ∀ y ∈ z :: zs, y.2 = PySem.W.maxD z.2 (zs.map (·.2)) → Q y.1 H
theorem cr_maxD (hc : X.calm = true) (hu : X.A.units + 64 < cLine) : CallR X (.builtin "max") (rMaxD X.K) := by
  intro pins s σ H vs us Q I r h
  obtain ⟨a, z, zs, rfl, hs, hd, hal, hdep, q⟩ := h
  rw [Vals.ref1 r]
  have fin : ∀ (its : List Value), Vals ((z :: zs).map (·.1)) its → ∀ (i : Nat) v h' tk bs, its.toArray[i]? = some v → Reads h' v (PySem.W.maxD z.2 (zs.map (·.2))) bs → (∀ b o, s.heap.get? b = some o → h'.get? b = some o) →
      ∃ (x : V) (H' : Hp), Inv X pins σ H' { s with heap := h', toks := tk } ∧ RelV x v ∧ Q x H' := fun its rv i v h' tk bs hv hr hk => by
    have hv' : its[i]? = some v := by simpa using hv
    obtain ⟨x, hx, rx⟩ := rv.get' hv'
    rw [List.getElem?_map] at hx
    obtain ⟨y, hy, rfl⟩ := Option.map_eq_some_iff.mp hx
    have ym : y ∈ z :: zs := List.mem_of_getElem? hy
    obtain ⟨as, ry⟩ := Dp.reads I _ _ _ (hd y ym) rx
    have ry' : Reads h' v y.2 as := PySem.W.reads_keeps hk ry
    have al : PySem.W.alike y.2 (PySem.W.maxD z.2 (zs.map (·.2))) = true := hal.1 _ (List.mem_map.mpr ⟨y, ym, rfl⟩) _ (maxD_mem _ _)
    have e := PySem.W.alike_unique _ _ _ _ _ al ry' hr
    exact ⟨y.1, H, I.kept hk, rx, q y ym e⟩
  rcases hs with hs | hs
  · obtain ⟨its, rv, hl, _⟩ := I.list hs
    obtain ⟨as, hr⟩ := Dp.readsAll I _ _ _ (dpAll_of hd) rv
    exact PySem.W.max_list_data (I.ok.hd hc) hl.isList (by simpa using hr) hal (Nat.lt_of_le_of_lt (Nat.add_le_add_left hdep (X.A.units + 1)) (by omega)) (fin its rv)
  · obtain ⟨its, rv, hl, _⟩ := I.tuple hs
    obtain ⟨as, hr⟩ := Dp.readsAll I _ _ _ (dpAll_of hd) rv
    exact PySem.W.max_tuple_data (I.ok.hd hc) hl (by simpa using hr) hal (Nat.lt_of_le_of_lt (Nat.add_le_add_left hdep (X.A.units + 1)) (by omega)) (fin its rv)

/-! max and min -/
def rMinD (K : PySem.W.Frag) : List V → Hp → VK → Prop := fun vs H Q => ∃ (a : Addr) (z : V × PyData) (zs : List (V × PyData)), vs = [V.ref a] ∧ (SqL K H a ((z :: zs).map (·.1)) ∨ SqT K H a ((z :: zs).map (·.1))) ∧ (∀ y ∈ z :: zs, Dp K H y.1 y.2) ∧
  PySem.W.AlikeAll ((z :: zs).map (·.2)) ∧ PyData.depthAll ((z :: zs).map (·.2)) ≤ 40 ∧ ∀ y ∈ z :: zs, y.2 = PySem.W.minD z.2 (zs.map (·.2)) → Q y.1 H
theorem cr_minD (hc : X.calm = true) (hu : X.A.units + 64 < cLine) : CallR X (.builtin "min") (rMinD X.K) := by
  intro pins s σ H vs us Q I r h
  obtain ⟨a, z, zs, rfl, hs, hd, hal, hdep, q⟩ := h
  rw [Vals.ref1 r]
  have fin : ∀ (its : List Value), Vals ((z :: zs).map (·.1)) its → ∀ (i : Nat) v h' tk bs, its.toArray[i]? = some v → Reads h' v (PySem.W.minD z.2 (zs.map (·.2))) bs → (∀ b o, s.heap.get? b = some o → h'.get? b = some o) →
      ∃ (x : V) (H' : Hp), Inv X pins σ H' { s with heap := h', toks := tk } ∧ RelV x v ∧ Q x H' := fun its rv i v h' tk bs hv hr hk => by
    have hv' : its[i]? = some v := by simpa using hv
    obtain ⟨x, hx, rx⟩ := rv.get' hv'
    rw [List.getElem?_map] at hx
    obtain ⟨y, hy, rfl⟩ := Option.map_eq_some_iff.mp hx
    have ym : y ∈ z :: zs := List.mem_of_getElem? hy
    obtain ⟨as, ry⟩ := Dp.reads I _ _ _ (hd y ym) rx
    have ry' : Reads h' v y.2 as := PySem.W.reads_keeps hk ry
    have al : PySem.W.alike y.2 (PySem.W.minD z.2 (zs.map (·.2))) = true := hal.1 _ (List.mem_map.mpr ⟨y, ym, rfl⟩) _ (minD_mem _ _)
    have e := PySem.W.alike_unique _ _ _ _ _ al ry' hr
    exact ⟨y.1, H, I.kept hk, rx, q y ym e⟩
  rcases hs with hs | hs
  · obtain ⟨its, rv, hl, _⟩ := I.list hs
    obtain ⟨as, hr⟩ := Dp.readsAll I _ _ _ (dpAll_of hd) rv
    exact PySem.W.min_list_data (I.ok.hd hc) hl.isList (by simpa using hr) hal (Nat.lt_of_le_of_lt (Nat.add_le_add_left hdep (X.A.units + 1)) (by omega)) (fin its rv)
  · obtain ⟨its, rv, hl, _⟩ := I.tuple hs
    obtain ⟨as, hr⟩ := Dp.readsAll I _ _ _ (dpAll_of hd) rv
    exact PySem.W.min_tuple_data (I.ok.hd hc) hl (by simpa using hr) hal (Nat.lt_of_le_of_lt (Nat.add_le_add_left hdep (X.A.units + 1)) (by omega)) (fin its rv)

mutual
def ofPy : PyData → D
  | .none => .non
  | .bool b => .bl b
  | .int i => .int i
  | .str x => .str x
  | .tuple xs => .tup (ofPys xs)
  | .list xs => .lst (ofPys xs)
  | .dict _ => .non
def ofPys : List PyData → List D
  | [] => []
  | x :: xs => ofPy x :: ofPys xs
end
mutual
theorem ofPy_py : ∀ {d : D} {p : PyData}, d.py = some p → ofPy p = d
  | .non, _, e => by unfold D.py at e; cases e; rfl
  | .bl _, _, e => by unfold D.py at e; cases e; rfl
  | .int _, _, e => by unfold D.py at e; cases e; rfl
  | .str _, _, e => by unfold D.py at e; cases e; rfl
  | .tup ds, _, e => by
    unfold D.py at e
    obtain ⟨ps, e1, rfl⟩ := Option.map_eq_some_iff.mp e
    show D.tup (ofPys ps) = _
    rw [ofPys_py e1]
  | .lst ds, _, e => by
    unfold D.py at e
    obtain ⟨ps, e1, rfl⟩ := Option.map_eq_some_iff.mp e
    show D.lst (ofPys ps) = _
    rw [ofPys_py e1]
  | .dct _ _, _, e => by unfold D.py at e; cases e
  | .set _, _, e => by unfold D.py at e; cases e
  | .obj _ _, _, e => by unfold D.py at e; cases e
  | .scr _, _, e => by unfold D.py at e; cases e
theorem ofPys_py : ∀ {ds : List D} {ps : List PyData}, D.pys ds = some ps → ofPys ps = ds
  | [], _, e => by unfold D.pys at e; cases e; rfl
  | d :: ds, _, e => by
    unfold D.pys at e
    obtain ⟨p, e1, e2⟩ := Option.bind_eq_some_iff.mp e
    obtain ⟨qs, e3, rfl⟩ := Option.map_eq_some_iff.mp e2
    show ofPy p :: ofPys qs = _
    rw [ofPy_py e1, ofPys_py e3]
end
def okMax (ps : List PyData) : Bool := likeB ps && ps.all (fun p => match p with | .none => false | _ => true) && decide (PyData.depthAll ps ≤ 40)
def maxDD (ds : List D) : Option D := match D.pys ds with
  | some (p :: ps) => if okMax (p :: ps) = true then some (ofPy (PySem.W.maxD p ps)) else none
  | _ => none
def minDD (ds : List D) : Option D := match D.pys ds with
  | some (p :: ps) => if okMax (p :: ps) = true then some (ofPy (PySem.W.minD p ps)) else none
  | _ => none

def dMaxD : List D → Option D
  | [.lst ds] => maxDD ds
  | [.tup ds] => maxDD ds
  | _ => none
theorem fs_maxD {L : Lay} : FnS L (rMaxD L.K) dMaxD := by
  intro ds d xs H A Q e r hA q
  have main : ∀ {F : Hp} {ys : List D} {vs : List V}, Rps L F ys vs → Same F H → Same F (hid H A) → maxDD ys = some d → ∃ (z : V × PyData) (zs : List (V × PyData)), vs = (z :: zs).map (·.1) ∧ (∀ y ∈ z :: zs, Dp L.K H y.1 y.2) ∧
      PySem.W.AlikeAll ((z :: zs).map (·.2)) ∧ PyData.depthAll ((z :: zs).map (·.2)) ≤ 40 ∧ ∀ y ∈ z :: zs, y.2 = PySem.W.maxD z.2 (zs.map (·.2)) → Q y.1 H := fun {F ys vs} rr sF sA e => by
    unfold maxDD at e
    cases hp : D.pys ys with
    | none => rw [hp] at e; cases e
    | some ps =>
      rw [hp] at e
      cases ps with
      | nil => cases e
      | cons p ps =>
        replace e : (if okMax (p :: ps) = true then some (ofPy (PySem.W.maxD p ps)) else none) = some d := e
        split at e
        · rename_i ok
          cases e
          unfold okMax at ok
          rw [Bool.and_eq_true_iff, Bool.and_eq_true_iff] at ok
          obtain ⟨⟨o1, o2⟩, o3⟩ := ok
          obtain ⟨ts, t1, t2, t3, t4⟩ := triples rr hp
          cases ts with
          | nil => cases t3
          | cons t ts =>
            have e3 : t.2.2 = p ∧ ts.map (fun t => t.2.2) = ps := by
              injection t3 with a b
              exact ⟨a, b⟩
            have ez : ((t.2 :: ts.map (·.2)).map (·.2)) = p :: ps := by rw [List.map_cons, List.map_map]; rw [← e3.1, ← e3.2]; rfl
            refine ⟨t.2, ts.map (·.2), by rw [List.map_cons, List.map_map]; exact t2.symm, fun y hy => ?_, by rw [ez]; exact ⟨likeB_all o1, fun x hx z => by have := List.all_eq_true.mp o2 x hx; rw [z] at this; cases this⟩, by rw [ez]; exact of_decide_eq_true o3, fun y hy ey => ?_⟩
            · obtain ⟨u, hu, rfl⟩ : ∃ u ∈ t :: ts, u.2 = y := by
                rcases List.mem_cons.mp hy with rfl | hy
                · exact ⟨t, List.mem_cons_self, rfl⟩
                · obtain ⟨u, hu, rfl⟩ := List.mem_map.mp hy
                  exact ⟨u, List.mem_cons_of_mem _ hu, rfl⟩
              exact Dp.up sF (dp_of (t4 u hu).1 (t4 u hu).2)
            · obtain ⟨u, hu, rfl⟩ : ∃ u ∈ t :: ts, u.2 = y := by
                rcases List.mem_cons.mp hy with rfl | hy
                · exact ⟨t, List.mem_cons_self, rfl⟩
                · obtain ⟨u, hu, rfl⟩ := List.mem_map.mp hy
                  exact ⟨u, List.mem_cons_of_mem _ hu, rfl⟩
              have eu : (ts.map (·.2)).map (·.2) = ps := by rw [List.map_map]; exact e3.2
              rw [eu, e3.1] at ey
              refine q _ H (.refl _) ?_
              rw [← ey, ofPy_py (t4 u hu).2]
              exact Rp.same sA (t4 u hu).1
        · cases e
  unfold dMaxD at e
  split at e
  · obtain ⟨v, rfl, rv⟩ := r.one
    obtain ⟨a, vs, rfl, h, rr⟩ := rv.lst
    obtain ⟨z, zs, rfl, h1, h2, h3, h4⟩ := main rr hid_le (.refl _) e
    exact ⟨a, z, zs, rfl, .inl (.inl (.inl h)), h1, h2, h3, h4⟩
  · obtain ⟨v, rfl, rv⟩ := r.one
    obtain ⟨a, vs, rfl, h, rr⟩ := rv.tup
    obtain ⟨z, zs, rfl, h1, h2, h3, h4⟩ := main rr hid_le (.refl _) e
    exact ⟨a, z, zs, rfl, .inr (SqT.same hid_le h), h1, h2, h3, h4⟩
  · cases e

def dMinD : List D → Option D
  | [.lst ds] => minDD ds
  | [.tup ds] => minDD ds
  | _ => none
theorem fs_minD {L : Lay} : FnS L (rMinD L.K) dMinD := by
  intro ds d xs H A Q e r hA q
  have main : ∀ {F : Hp} {ys : List D} {vs : List V}, Rps L F ys vs → Same F H → Same F (hid H A) → minDD ys = some d → ∃ (z : V × PyData) (zs : List (V × PyData)), vs = (z :: zs).map (·.1) ∧ (∀ y ∈ z :: zs, Dp L.K H y.1 y.2) ∧
      PySem.W.AlikeAll ((z :: zs).map (·.2)) ∧ PyData.depthAll ((z :: zs).map (·.2)) ≤ 40 ∧ ∀ y ∈ z :: zs, y.2 = PySem.W.minD z.2 (zs.map (·.2)) → Q y.1 H := fun {F ys vs} rr sF sA e => by
    unfold minDD at e
    cases hp : D.pys ys with
    | none => rw [hp] at e; cases e
    | some ps =>
      rw [hp] at e
      cases ps with
      | nil => cases e
      | cons p ps =>
        replace e : (if okMax (p :: ps) = true then some (ofPy (PySem.W.minD p ps)) else none) = some d := e
        split at e
        · rename_i ok
          cases e
          unfold okMax at ok
          rw [Bool.and_eq_true_iff, Bool.and_eq_true_iff] at ok
          obtain ⟨⟨o1, o2⟩, o3⟩ := ok
          obtain ⟨ts, t1, t2, t3, t4⟩ := triples rr hp
          cases ts with
          | nil => cases t3
          | cons t ts =>
            have e3 : t.2.2 = p ∧ ts.map (fun t => t.2.2) = ps := by
              injection t3 with a b
              exact ⟨a, b⟩
            have ez : ((t.2 :: ts.map (·.2)).map (·.2)) = p :: ps := by rw [List.map_cons, List.map_map]; rw [← e3.1, ← e3.2]; rfl
            refine ⟨t.2, ts.map (·.2), by rw [List.map_cons, List.map_map]; exact t2.symm, fun y hy => ?_, by rw [ez]; exact ⟨likeB_all o1, fun x hx z => by have := List.all_eq_true.mp o2 x hx; rw [z] at this; cases this⟩, by rw [ez]; exact of_decide_eq_true o3, fun y hy ey => ?_⟩
            · obtain ⟨u, hu, rfl⟩ : ∃ u ∈ t :: ts, u.2 = y := by
                rcases List.mem_cons.mp hy with rfl | hy
                · exact ⟨t, List.mem_cons_self, rfl⟩
                · obtain ⟨u, hu, rfl⟩ := List.mem_map.mp hy
                  exact ⟨u, List.mem_cons_of_mem _ hu, rfl⟩
              exact Dp.up sF (dp_of (t4 u hu).1 (t4 u hu).2)
            · obtain ⟨u, hu, rfl⟩ : ∃ u ∈ t :: ts, u.2 = y := by
                rcases List.mem_cons.mp hy with rfl | hy
                · exact ⟨t, List.mem_cons_self, rfl⟩
                · obtain ⟨u, hu, rfl⟩ := List.mem_map.mp hy
                  exact ⟨u, List.mem_cons_of_mem _ hu, rfl⟩
              have eu : (ts.map (·.2)).map (·.2) = ps := by rw [List.map_map]; exact e3.2
              rw [eu, e3.1] at ey
              refine q _ H (.refl _) ?_
              rw [← ey, ofPy_py (t4 u hu).2]
              exact Rp.same sA (t4 u hu).1
        · cases e
  unfold dMinD at e
  split at e
  · obtain ⟨v, rfl, rv⟩ := r.one
    obtain ⟨a, vs, rfl, h, rr⟩ := rv.lst
    obtain ⟨z, zs, rfl, h1, h2, h3, h4⟩ := main rr hid_le (.refl _) e
    exact ⟨a, z, zs, rfl, .inl (.inl (.inl h)), h1, h2, h3, h4⟩
  · obtain ⟨v, rfl, rv⟩ := r.one
    obtain ⟨a, vs, rfl, h, rr⟩ := rv.tup
    obtain ⟨z, zs, rfl, h1, h2, h3, h4⟩ := main rr hid_le (.refl _) e
    exact ⟨a, z, zs, rfl, .inr (SqT.same hid_le h), h1, h2, h3, h4⟩
  · cases e

/-! ### sets of tuples of ints -/
abbrev tInts (k : List Int) : D := .tup (k.map .int)
def tupsD : List D → Option (List (List Int))
  | [] => some []
  | .tup xs :: ds => (intsD xs).bind fun k => (tupsD ds).map (k :: ·)
  | _ :: _ => none
theorem tupsD_map : ∀ ks : List (List Int), tupsD (ks.map tInts) = some ks
  | [] => rfl
  | k :: ks => by
    show (intsD (k.map .int)).bind (fun k => (tupsD (ks.map tInts)).map (k :: ·)) = _
    rw [intsD_map, tupsD_map ks]; rfl
theorem tups_vals {L : Lay} {F : Hp} : ∀ {ds : List D} {ks : List (List Int)} {vs : List V}, tupsD ds = some ks → Rps L F ds vs → ∃ ps : List (Addr × List Int), vs = ps.map (fun p => V.ref p.1) ∧ ps.map (·.2) = ks ∧ ∀ p ∈ ps, SqT L.K F p.1 (p.2.map V.int)
  | [], ks, vs, e, r => by cases e; unfold Rps at r; subst r; exact ⟨[], rfl, rfl, fun p h => (by cases h)⟩
  | .tup xs :: ds, ks, vs, e, r => by
    obtain ⟨k, e1, e2⟩ := Option.bind_eq_some_iff.mp (show (intsD xs).bind _ = some ks from e)
    obtain ⟨ks', e3, rfl⟩ := Option.map_eq_some_iff.mp e2
    unfold Rps at r
    obtain ⟨v, r', rfl, h, t⟩ := r
    obtain ⟨ps, rfl, h2, h3⟩ := tups_vals e3 t
    obtain ⟨a, ws, rfl, hs, hw⟩ := Rp.tup_iff.mp h
    rw [intsD_vals e1 hw] at hs
    refine ⟨(a, k) :: ps, rfl, by rw [List.map_cons, h2], fun p hp => ?_⟩
    rcases List.mem_cons.mp hp with rfl | hp
    · exact hs
    · exact h3 p hp
  | .non :: _, _, _, e, _ => by cases e
  | .bl _ :: _, _, _, e, _ => by cases e
  | .int _ :: _, _, _, e, _ => by cases e
  | .str _ :: _, _, _, e, _ => by cases e
  | .lst _ :: _, _, _, e, _ => by cases e
  | .dct _ _ :: _, _, _, e, _ => by cases e
  | .set _ :: _, _, _, e, _ => by cases e
  | .obj _ _ :: _, _, _, e, _ => by cases e
  | .scr _ :: _, _, _, e, _ => by cases e
def insT (k : List Int) : List (List Int) → List (List Int)
  | [] => [k]
  | x :: xs => if k < x then k :: x :: xs else if k = x then x :: xs else x :: insT k xs
def sortTU : List (List Int) → List (List Int)
  | [] => []
  | x :: xs => insT x (sortTU xs)
theorem insT_mem {k j : List Int} : ∀ {xs : List (List Int)}, j ∈ insT k xs ↔ j = k ∨ j ∈ xs
  | [] => by simp [insT]
  | x :: xs => by
    unfold insT
    split
    · simp
    · split
      · rename_i e; subst e; simp
      · rw [List.mem_cons, insT_mem, List.mem_cons]
        constructor
        · rintro (h | h | h)
          · exact .inr (.inl h)
          · exact .inl h
          · exact .inr (.inr h)
        · rintro (h | h | h)
          · exact .inr (.inl h)
          · exact .inl h
          · exact .inr (.inr h)
theorem insT_pw {k : List Int} : ∀ {xs : List (List Int)}, xs.Pairwise (· < ·) → (insT k xs).Pairwise (· < ·)
  | [], _ => by simp [insT]
  | x :: xs, h => by
    obtain ⟨h1, h2⟩ := List.pairwise_cons.mp h
    unfold insT
    split
    · rename_i q
      refine List.pairwise_cons.mpr ⟨fun y hy => ?_, h⟩
      rcases List.mem_cons.mp hy with rfl | hy
      · exact q
      · exact List.lt_trans q (h1 y hy)
    · split
      · exact h
      · rename_i q1 q2
        refine List.pairwise_cons.mpr ⟨fun y hy => ?_, insT_pw h2⟩
        rcases insT_mem.mp hy with rfl | hy
        · rcases List.le_iff_lt_or_eq.mp (List.not_lt.mp q1) with q | q
          · exact q
          · exact absurd q.symm q2
        · exact h1 y hy
theorem sortTU_mem {j : List Int} : ∀ {xs : List (List Int)}, j ∈ sortTU xs ↔ j ∈ xs
  | [] => by simp [sortTU]
  | x :: xs => by rw [sortTU, insT_mem, sortTU_mem (xs := xs), List.mem_cons]
theorem sortTU_pw : ∀ xs : List (List Int), (sortTU xs).Pairwise (· < ·)
  | [] => .nil
  | x :: xs => insT_pw (sortTU_pw xs)
theorem insT_len (k : List Int) : ∀ xs : List (List Int), (insT k xs).length ≤ xs.length + 1
  | [] => by simp [insT]
  | x :: xs => by
    have ih := insT_len k xs
    unfold insT
    split
    · simp
    · split
      · simp
      · rw [List.length_cons, List.length_cons]; omega
theorem sortTU_len : ∀ xs : List (List Int), (sortTU xs).length ≤ xs.length
  | [] => by simp [sortTU]
  | x :: xs => by
    have ih := sortTU_len xs
    have := insT_len x (sortTU xs)
    rw [sortTU, List.length_cons]; omega
theorem risingT_eq : ∀ {xs ys : List (List Int)}, xs.Pairwise (· < ·) → ys.Pairwise (· < ·) → (∀ k, k ∈ xs ↔ k ∈ ys) → xs = ys
  | [], [], _, _, _ => rfl
  | [], y :: ys, _, _, h => by have := (h y).mpr List.mem_cons_self; simp at this
  | x :: xs, [], _, _, h => by have := (h x).mp List.mem_cons_self; simp at this
  | x :: xs, y :: ys, hx, hy, h => by
    obtain ⟨x1, x2⟩ := List.pairwise_cons.mp hx
    obtain ⟨y1, y2⟩ := List.pairwise_cons.mp hy
    have e : x = y := by
      rcases List.mem_cons.mp ((h x).mp List.mem_cons_self) with e | e
      · exact e
      · rcases List.mem_cons.mp ((h y).mpr List.mem_cons_self) with e2 | e2
        · exact e2.symm
        · exact absurd (List.lt_trans (y1 x e) (x1 y e2)) (List.lt_irrefl _)
    subst e
    have t : xs = ys := risingT_eq x2 y2 fun k => by
      constructor
      · intro hk
        rcases List.mem_cons.mp ((h k).mp (List.mem_cons_of_mem _ hk)) with e | e
        · subst e; exact absurd (x1 k hk) (List.lt_irrefl _)
        · exact e
      · intro hk
        rcases List.mem_cons.mp ((h k).mpr (List.mem_cons_of_mem _ hk)) with e | e
        · subst e; exact absurd (y1 k hk) (List.lt_irrefl _)
        · exact e
    rw [t]
theorem code_le_lt {B : Int} : ∀ {a b : List Int}, a.length = b.length → TS.Bd B a → TS.Bd B b → TS.code B a ≤ TS.code B b → a ≠ b → a < b
  | [], [], _, _, _, _, h => absurd rfl h
  | d :: r, e :: q, hl, ha, hb, hc, hne => by
    have hl' : r.length = q.length := by simpa using hl
    rcases Int.lt_trichotomy d e with h | h | h
    · exact List.Lex.rel h
    · subst h
      refine List.Lex.cons (code_le_lt hl' ha.tail hb.tail ?_ fun z => hne (by rw [z]))
      apply Classical.byContradiction
      intro z
      have z' := (TS.code_same (B := B) (d := d) hl'.symm).mpr (Int.not_le.mp z)
      omega
    · have := TS.code_lt (B := B) hl'.symm hb.tail ha.tail h
      omega
  | [], _ :: _, hl, _, _, _, _ => by cases hl
  | _ :: _, [], hl, _, _, _, _ => by cases hl
def rSet2 (K : PySem.W.Frag) (P : Program) (w : World) : List V → Hp → VK → Prop := fun xs H Q => rSetOfI K w xs H Q ∨ rSetOfT K P w xs H Q
theorem cr_set2 (hc : X.calm = true) (hu : X.A.units + 64 < cLine) : CallR X (.type "set") (rSet2 X.K X.prog X.w) := by
  intro pins s σ H xs us Q I r h
  rcases h with h | h
  · exact cr_setOfI hc pins s σ H xs us Q I r h
  · exact cr_setOfT hc hu pins s σ H xs us Q I r h
def dSet2 : List D → Option D
  | [.lst xs] => match intsD xs with
    | some ns => if ns.length < 2000 then some (.set ((sortU ns).map .int)) else none
    | none => (tupsD xs).bind fun ks => if ks.length < 64 then some (.set ((sortTU ks).map tInts)) else none
  | _ => none
theorem fs_set2 {L : Lay} : FnS L (rSet2 L.K L.pr L.w) dSet2 := by
  intro ds d xs H A Q e r hA q
  unfold dSet2 at e
  split at e
  · rename_i ys
    split at e
    · rename_i ns hn
      refine .inl (fs_set (L := L) [.lst ys] d xs H A Q ?_ r hA q)
      show (intsD ys).bind _ = _
      rw [hn]; exact e
    · obtain ⟨ks, e1, e2⟩ := Option.bind_eq_some_iff.mp e
      split at e2
      · rename_i hz
        cases e2
        obtain ⟨v, rfl, rv⟩ := r.one
        obtain ⟨a, vs, rfl, h, rr⟩ := rv.lst
        obtain ⟨ps, rfl, e3, h3⟩ := tups_vals e1 rr
        refine .inr ⟨a, ps, rfl, .inl (.inl h), fun p hp => SqT.same hid_le (h3 p hp), by rw [← e3, List.length_map] at hz; exact hz, fun b L' hb l1 l2 => q _ _ (same_upd hb) ?_⟩
        have sub : Same (hid H A) (hid (upd H b (SetTO L.pr L.w b L')) A) := hid_mono (same_upd hb) fun _ z => z
        refine Rp.set_iff.mpr (.inr ⟨b, sortTU ks, L', rfl, rfl, sortTU_pw ks, new_hid hA hb, fun p hp => SqT.same sub (h3 p (l1 p hp)), fun k => ?_⟩)
        rw [sortTU_mem, ← e3]
        constructor
        · intro hk
          obtain ⟨p, hp, rfl⟩ := List.mem_map.mp hk
          exact l2 p hp
        · intro hk
          obtain ⟨p, hp, rfl⟩ := List.mem_map.mp hk
          exact List.mem_map.mpr ⟨p, l1 p hp, rfl⟩
      · cases e2
  · cases e
/-! sorted: lists of ints, lists of data, sets -/
def rSorted3 (K : PySem.W.Frag) (P : Program) (w : World) : List V → Hp → VK → Prop := fun xs H Q => rSortedI K xs H Q ∨ rSortedSet w xs H Q ∨ rSortedT K P w xs H Q ∨ rSortedD K xs H Q
theorem cr_sorted3 (hc : X.calm = true) (hu : X.A.units + 64 < cLine) : CallR X (.builtin "sorted") (rSorted3 X.K X.prog X.w) := by
  intro pins s σ H xs us Q I r h
  rcases h with h | h | h | h
  · exact cr_sortedI pins s σ H xs us Q I r h
  · exact cr_sortedSet hc pins s σ H xs us Q I r h
  · exact cr_sortedT hc pins s σ H xs us Q I r h
  · exact cr_sortedD hu pins s σ H xs us Q I r h
/-- a set whose items can be sorted: ints, or tuples of one length of numbers from 0 -/
def okSet (ds : List D) : Bool := match tupsD ds with
  | some (k :: ks) => decide (1 ≤ k.length) && (k :: ks).all fun j => decide (j.length = k.length) && j.all fun m => decide (0 ≤ m)
  | _ => true
def nSorted3 : List D → Option (List D)
  | [.lst xs] => match intsD xs with
    | some ns => some ((PySem.W.sortI ns).map .int)
    | none => nSortedD [.lst xs]
  | [.set xs] => if xs.length < 64 ∧ okSet xs = true then some xs else none
  | _ => none
theorem bound_ex : ∀ ks : List (List Int), (∀ k ∈ ks, ∀ m ∈ k, 0 ≤ m) → ∃ B : Int, ∀ k ∈ ks, TS.Bd B k
  | [], _ => ⟨0, fun k h => (by cases h)⟩
  | k :: ks, h => by
    obtain ⟨B, hB⟩ := bound_ex ks fun j hj => h j (List.mem_cons_of_mem _ hj)
    have one : ∀ l : List Int, ∃ C : Int, ∀ m ∈ l, m < C := fun l => by
      induction l with
      | nil => exact ⟨0, fun m h => (by cases h)⟩
      | cons x xs ih =>
        obtain ⟨C, hC⟩ := ih
        refine ⟨if x < C then C else x + 1, fun m hm => ?_⟩
        rcases List.mem_cons.mp hm with rfl | hm
        · split <;> omega
        · have := hC m hm
          split <;> omega
    obtain ⟨C, hC⟩ := one k
    refine ⟨if B < C then C else B, fun j hj m hm => ⟨h j hj m hm, ?_⟩⟩
    rcases List.mem_cons.mp hj with rfl | hj
    · have := hC m hm
      split <;> omega
    · have := (hB j hj m hm).2
      split <;> omega
theorem ff_sorted3 {L : Lay} : FnF L (rSorted3 L.K L.pr L.w) nSorted3 := by
  intro ds d xs H A Q e r hA q
  unfold nSorted3 at e
  split at e
  · rename_i ys
    split at e
    · rename_i ns e1
      cases e
      obtain ⟨v, rfl, rv⟩ := r.one
      obtain ⟨a, vs, rfl, h, rr⟩ := rv.lst
      rw [intsD_vals e1 rr] at h
      refine .inl ⟨a, ns, rfl, .inl (.inl h), fun ns' p hp hs hn => ?_⟩
      rw [PySem.W.eq_sortI hp hs]
      exact q _ _ hn (Rp.ofInts _)
    · exact .inr (.inr (.inr (ff_sortedD (L := L) _ _ _ _ _ _ e r hA q)))
  · rename_i ys
    split at e
    · rename_i hz
      cases e
      obtain ⟨hz, ok⟩ := hz
      obtain ⟨v, rfl, rv⟩ := r.one
      rcases Rp.set_iff.mp (show Rp L (hid H A) _ v from rv) with ⟨a, ns, rfl, rfl, pw, h⟩ | ⟨a, ks, L', rfl, rfl, pw, h, h2, h3⟩
      · rw [List.length_map] at hz
        refine .inr (.inl ⟨a, _, _, rfl, hid_le _ _ h, hz, fun ns' p pw' hm _ hn => ?_⟩)
        have e2 : ns' = ns := rising_eq pw' pw fun k => by rw [hm k]; exact decide_eq_true_iff
        subst e2
        exact q _ _ hn (Rp.ofInts _)
      · obtain ⟨n, B, hn1, hnB⟩ : ∃ (n : Nat) (B : Int), 1 ≤ n ∧ ∀ k ∈ ks, k.length = n ∧ TS.Bd B k := by
          unfold okSet at ok
          rw [tupsD_map] at ok
          cases ks with
          | nil => exact ⟨1, 0, Nat.le_refl _, fun k h => (by cases h)⟩
          | cons k ks =>
            replace ok : (decide (1 ≤ k.length) && (k :: ks).all fun j => decide (j.length = k.length) && j.all fun m => decide (0 ≤ m)) = true := ok
            rw [Bool.and_eq_true_iff] at ok
            have all := List.all_eq_true.mp ok.2
            obtain ⟨B, hB⟩ := bound_ex (k :: ks) fun j hj m hm => by
              have q := all j hj
              rw [Bool.and_eq_true_iff] at q
              exact of_decide_eq_true (List.all_eq_true.mp q.2 m hm)
            refine ⟨k.length, B, of_decide_eq_true ok.1, fun j hj => ⟨?_, hB j hj⟩⟩
            have q := all j hj
            rw [Bool.and_eq_true_iff] at q
            exact of_decide_eq_true q.1
        have mem : ∀ p ∈ L', p.2 ∈ ks := fun p hp => (h3 p.2).mpr (List.mem_map.mpr ⟨p, hp, rfl⟩)
        refine .inr (.inr (.inl ⟨a, L', n, B, rfl, hid_le _ _ h, fun p hp => SqT.same hid_le (h2 p hp), hn1, fun p hp => hnB _ (mem p hp), fun M p pm nd _ pw' hn => ?_⟩))
        have memM : ∀ p ∈ M, p ∈ L' := fun p hp => pm.mem_iff.mp hp
        have e2 : M.map (·.2) = ks := by
          refine risingT_eq ?_ pw fun k => ?_
          · have nd' := List.pairwise_map.mp nd
            rw [List.pairwise_map]
            refine (List.pairwise_and_iff.mpr ⟨pw', nd'⟩).imp_of_mem fun {x y} hx hy hxy => ?_
            obtain ⟨b1, b2⟩ := hnB _ (mem x (memM x hx))
            obtain ⟨c1, c2⟩ := hnB _ (mem y (memM y hy))
            exact code_le_lt (b1.trans c1.symm) b2 c2 hxy.1 hxy.2
          · rw [h3 k]
            exact (pm.map (·.2)).mem_iff
        have e3 : ks.map (fun k => D.tup (k.map D.int)) = M.map fun p => tInts p.2 := by rw [← e2, List.map_map]; rfl
        have e4 : (M.map fun q => V.ref q.1) = M.map fun q => V.ref q.1 := rfl
        rw [e3] at q
        exact q _ _ hn (Rps.of_map fun p hp => Rp.tup_iff.mpr ⟨p.1, p.2.map V.int, rfl, h2 p (memM p hp), Rp.ofInts _⟩)
    · cases e
  · cases e
/-! max, min of one list: ints, or data -/
def rMax1 (K : PySem.W.Frag) : List V → Hp → VK → Prop := fun xs H Q => rMax K xs H Q ∨ rMaxD K xs H Q
theorem cr_max1 (hc : X.calm = true) (hu : X.A.units + 64 < cLine) : CallR X (.builtin "max") (rMax1 X.K) := by
  intro pins s σ H xs us Q I r h
  rcases h with h | h
  · exact cr_max hc pins s σ H xs us Q I r h
  · exact cr_maxD hc hu pins s σ H xs us Q I r h
def rMin1 (K : PySem.W.Frag) : List V → Hp → VK → Prop := fun xs H Q => rMin K xs H Q ∨ rMinD K xs H Q
theorem cr_min1 (hc : X.calm = true) (hu : X.A.units + 64 < cLine) : CallR X (.builtin "min") (rMin1 X.K) := by
  intro pins s σ H xs us Q I r h
  rcases h with h | h
  · exact cr_min hc pins s σ H xs us Q I r h
  · exact cr_minD hc hu pins s σ H xs us Q I r h
def dMax1 (ds : List D) : Option D := match dMaxL ds with
  | some d => some d
  | none => dMaxD ds
def dMin1 (ds : List D) : Option D := match dMinL ds with
  | some d => some d
  | none => dMinD ds
theorem fs_max1 {L : Lay} : FnS L (rMax1 L.K) dMax1 := by
  intro ds d xs H A Q e r hA q
  unfold dMax1 at e
  split at e
  · rename_i e1
    cases e
    exact .inl (fs_maxL _ _ _ _ _ _ e1 r hA q)
  · exact .inr (fs_maxD _ _ _ _ _ _ e r hA q)
theorem fs_min1 {L : Lay} : FnS L (rMin1 L.K) dMin1 := by
  intro ds d xs H A Q e r hA q
  unfold dMin1 at e
  split at e
  · rename_i e1
    cases e
    exact .inl (fs_minL _ _ _ _ _ _ e1 r hA q)
  · exact .inr (fs_minD _ _ _ _ _ _ e r hA q)
end
end Sm
set_option Elab.async false
set_option linter.all false
set_option maxRecDepth 100000
set_option maxHeartbeats 1000000
/-! SmZb: enumerate of a tuple; a + b as a new list. -/
namespace Sm
open PySem PySem.Spec PyProof.Rows L2
open AutoSeq1 (wpAny_loadPart')
theorem meets_enumT (l : Addr) (xs : Array Value) (n : Nat) (dd : Option Addr) (sl : Array (Option Value)) :
    Meets (Builtin.«enumerate.__new__» ⟨[.type "enumerate", .ref l], []⟩) (fun _ R s => s.heap.get? l = some { cls := .type "tuple", dict := dd, data := .seq xs n, slots := sl } ∧ R (.ok (.ret (.ref (s.heap.push { cls := .type "tuple_iterator", data := .fields #[.ref l, .int 0 0] }).objs.size)))
      { s with heap := (s.heap.push { cls := .type "tuple_iterator", data := .fields #[.ref l, .int 0 0] }).push { cls := .type "enumerate", data := .fields #[.none, .bool false, .ref s.heap.objs.size, rawInt 0, .none, .none] } }) :=
  .of_wp fun prog w A R s h => by
    obtain ⟨hp, g, d, tk, os⟩ := s
    obtain ⟨e1, e2⟩ := h
    have sb := sub_enumerate
    have T : Heap.IsTuple (Shared.heap ⟨hp, g, d, tk, os⟩) l xs := ⟨_, e1, rfl, n, rfl⟩
    wp_walk using wpAny_loadPart' e1
    refine wpAny_stack_any fun st => wpAny_pure ?_
    split
    · rename_i c _ _ _ _ _
      cases (c == Value.type "enumerate") <;> (wp_walk using wpAny_loadPart' e1, wpAny_pyIter_tuple T; exact ⟨_, rfl, e2⟩)
    · wp_walk using wpAny_loadPart' e1, wpAny_pyIter_tuple T; exact ⟨_, rfl, e2⟩
section
variable {prog : Program} {w : World} {A : Around} {E : Value → Shared → Prop} {s : Shared}
theorem call_enumT {l : Addr} {xs : Array Value} {Q : Value → Shared → Prop} (T : s.heap.IsTuple l xs)
    (h : ∀ h', IsEnum h' (s.heap.objs.size + 1) s.heap.objs.size 0 .none → h'.IsTupleIter s.heap.objs.size l 0 → (∀ b o, s.heap.get? b = some o → h'.get? b = some o) → Q (.ref (s.heap.objs.size + 1)) { s with heap := h' }) : wpAny (model prog w) A (call (.type "enumerate") [.ref l]) Q E s := by
  obtain ⟨⟨c, dd, dt, sl⟩, hl, hc, n, hd⟩ := T
  have hc : c = .type "tuple" := hc
  have hd : dt = .seq xs n := hd
  subst hc hd
  refine callType_new F.called_enumerate (by decide) (F.typeCall_enumerate_1 _) (F.newCall_enumerate_1 _) (fun obj => F.args_object_init_2 obj _) F.entry_enumerate_new (meets_enumT l xs n dd sl) ⟨hl, ?_⟩
  have hz : (s.heap.push { cls := .type "tuple_iterator", data := .fields #[.ref l, .int 0 0] }).objs.size = s.heap.objs.size + 1 := Heap.size_push ..
  rw [hz]
  have he : IsEnum ((s.heap.push { cls := .type "tuple_iterator", data := .fields #[.ref l, .int 0 0] }).push { cls := .type "enumerate", data := .fields #[.none, .bool false, .ref s.heap.objs.size, rawInt 0, .none, .none] }) (s.heap.objs.size + 1) s.heap.objs.size 0 .none := by
    have q := Heap.get?_push_size (s.heap.push { cls := .type "tuple_iterator", data := .fields #[.ref l, .int 0 0] }) (o := { cls := .type "enumerate", data := .fields #[.none, .bool false, .ref s.heap.objs.size, rawInt 0, .none, .none] }) rfl
    rw [hz] at q; exact q
  exact ⟨⟨_, he, rfl⟩, h _ he ⟨_, Heap.get?_push_of_some _ (Heap.get?_push_size _ rfl), rfl, rfl⟩ fun b o x => Heap.get?_push_of_some _ (Heap.get?_push_of_some _ x)⟩
end
theorem drawsT {prog : Program} {w : World} {A : Around} (hh : A.handled = none) (it l : Addr) (hne : l ≠ it) (xs : Array Value) :
    Draws prog w A it [it, l] xs.size (fun i v => xs[i]? = some v) (fun i h => h.IsTupleIter it l i ∧ h.IsTuple l xs) :=
  ⟨fun _ _ st => let ⟨o, ho, _⟩ := st.1; ⟨o, ho⟩, fun _ _ _ st hk => ⟨st.1.at fun o e => hk it (by simp) o e, st.2.at fun o e => hk l (by simp) o e⟩,
    fun i s Q E hi st hQ => RZ.nextOf_tuple_item st.1 st.2 (x := xs[i]) (by simp [hi]) fun h' q1 q2 => hQ _ h' s.toks (by simp [hi]) ⟨q1, st.2.extBut q2.extBut hne⟩ q2,
    fun s Q E st hE => RZ.nextOf_tuple_end hh st.1 st.2 (by simp) hE⟩
section
variable {prog : Program} {w : World} {A : Around} {E : Value → Shared → Prop} {s : Shared}
theorem enumT_end {e it l : Addr} {i : Nat} {xs : Array Value} {j : Int} {old : Value} {Q : Option Value → Shared → Prop} (hh : A.handled = none) (he : IsEnum s.heap e it j old) (hit : s.heap.IsTupleIter it l i) (hl : s.heap.IsTuple l xs) (hx : xs[i]? = none)
    (q : ∀ h', Heap.ExtBut it s.heap h' → Q none { s with heap := h' }) : wpAny (model prog w) A (pyNext (.ref e)) Q E s := by
  have T : s.TypeIs (.ref e) "enumerate" := ⟨_, he, rfl⟩
  unfold pyNext
  refine wpAny_bind (wpAny_attempt (wpAny_callSpecial?_slot (name := Str.ofString "__next__") T F.slot_enumerate_next (wpAny_call_entry F.slot_enumerate_next T F.entry_enumerate_next ?_ (F.args_enumerate_next_1 _))))
  show wpAny _ _ (field (.ref e) 2 >>= _) _ _ _
  refine wpAny_bind (wpAny_field he rfl (x := .ref it) rfl (wpAny_bind (RZ.nextOf_tuple_end hh hit hl hx fun h' x he' hx' => ?_)))
  obtain ⟨o, ho, hc⟩ := hx'
  exact wpAny_bind (wpAny_isInstance (T := "StopIteration") (b := true) ⟨o, ho, hc⟩ isSubtype_stop (wpAny_pure (q _ he')))
end
def IteT (K : PySem.W.Frag) (a : Addr) : It :=
  ⟨fun i H => ∃ (xs : List V) (x : V), SqT K H a xs ∧ xs[i]? = some x, fun i H v H' => ∃ T x, v = .ref T ∧ H T = none ∧ H' = upd H T (.tup [.int (i : Nat), x]) ∧ ∀ xs, SqT K H a xs → xs[i]? = some x, fun i H => ∃ xs : List V, SqT K H a xs ∧ xs.length ≤ i⟩
theorem turn_enumT {P : Program} {w : World} {K : PySem.W.Frag} {elts : List Expr} {kk : Nat} {tpos : Pos} (a e it : Addr) :
    Turn P w K (.Tuple elts kk tpos) (IteT K a) [e, it] e (fun i h => (∃ old, IsEnum h e it ((i : Nat) : Int) old) ∧ h.IsTupleIter it a i ∧ e ≠ it ∧ a ≠ it ∧ e ≠ a) where
  mem := by simp
  obj := fun i h st b hb => by
    obtain ⟨⟨old, he⟩, ⟨o, ho, hc, hd⟩, _⟩ := st
    rcases (show b = e ∨ b = it by simpa using hb) with rfl | rfl
    · exact ⟨_, he, fun v q => nomatch q⟩
    · exact ⟨o, ho, fun v q => by rw [hd] at q; cases q⟩
  keep := fun i h h' st k => let ⟨⟨old, he⟩, hi, hne⟩ := st; ⟨⟨old, k e (by simp) _ he⟩, hi.at fun o q => k it (by simp) o q, hne⟩
  item := by
    intro X hP hw hK hc i pins s σ H E I hf st hg
    subst hP hw hK
    obtain ⟨⟨old, he⟩, hit, hne, hai, hea⟩ := st
    obtain ⟨xs, x, hq, hx⟩ := hg
    obtain ⟨its, rv, p, hz⟩ := I.tuple hq
    obtain ⟨u, hu, ru⟩ := rv.get hx
    have hel : e < s.heap.objs.size := Heap.lt_size he
    have hil : it < s.heap.objs.size := by obtain ⟨_, q, _⟩ := hit; exact Heap.lt_size q
    have hlt : i < its.toArray.size := by have := (List.getElem?_eq_some_iff.mp hu).1; simpa using this
    refine wpAny_pyNext_enum_itemD (drawsT (prog := X.prog) (w := X.w) (A := X.A.in1) (I.ok.hd hc) it a hai its.toArray) he ⟨hit, p⟩ hlt hne (by simp [hne, hea]) fun x' h' tk hP ho hit' hT hsz hk => ?_
    have ex : x' = u := by
      have q : its.toArray[i]? = some u := by simpa using hu
      rw [q] at hP
      exact (Option.some.inj hP).symm
    subst ex
    refine ⟨_, rfl, wpAny_letOwnedTupleGo_enum (s := { s with heap := h', toks := tk + 1 }) ho fun h'' he' sb => ?_⟩
    have hT2 := (sb.2 _ (Nat.ne_of_gt hel)).trans hT
    have new : ObjOk X.prog X.w (upd H s.heap.objs.size (.tup [.int (i : Nat), x])) h'' s.heap.objs.size (.tup [.int (i : Nat), x]) := ⟨by show 2 ≤ sizeLine; decide, [.int i tk, x'], .cons ⟨_, rfl⟩ (.cons ru .nil), ⟨_, hT2, rfl, _, rfl⟩⟩
    have I1 : Inv X pins σ (upd H s.heap.objs.size (.tup [.int (i : Nat), x])) { s with heap := h'', toks := tk + 1 } := I.turnedNew (ch := [e, it]) (fun b ob hb q => (sb.2 b (fun z => hb (by simp [z]))).trans (hk b ob (fun z => hb (by simp [z])) (fun z => hb (by simp [z])) q)) hf (Nat.le_refl _) new
    have e1 : ((i + 1 : Nat) : Int) = (i : Int) + 1 := by omega
    refine ⟨.ref s.heap.objs.size, _, I1, rfl, ⟨_, x, rfl, I.hok.fresh (Nat.le_refl _), rfl, fun ys hy => by rw [I.tuple_inj hy hq]; exact hx⟩, ⟨⟨x', by rw [e1]; exact he'⟩, hit'.1.at fun o q => (sb.2 it (Ne.symm hne)).trans q, hne, hai, hea⟩, fun b hb => ?_⟩
    have hb' : b < s.heap.objs.size := by
      rcases (show b = e ∨ b = it by simpa using hb) with rfl | rfl
      · exact hel
      · exact hil
    rw [upd_ne (Nat.ne_of_lt hb')]
    exact (hf b hb).1
  done := by
    intro X hP hw hK hc i pins s σ H E I hf st hg
    subst hP hw hK
    obtain ⟨⟨old, he⟩, hit, hne, hai, hea⟩ := st
    obtain ⟨xs, hq, hx⟩ := hg
    obtain ⟨its, rv, p, hz⟩ := I.tuple hq
    obtain ⟨f0, f1, f2, f3, f4, f5⟩ := hf it (by simp)
    have hl := rv.length
    exact enumT_end (I.ok.hd hc) he hit p (by simp; omega) fun h' eb => ⟨rfl, I.turned (t' := s.toks) (fun b o hb q => eb b o hb q) f0 f1 f3 f4 f5⟩
  self := fun A i s Q E st h => let ⟨⟨_, he⟩, _⟩ := st; wpAny_pyIter_enum he h

def iEnum2 (K : PySem.W.Frag) (ta : TA) : TI := fun σ H R => ta σ H fun vs H1 => ∃ a xs, vs = [.ref a] ∧ ((SqL K H1 a xs ∧ R (Ite K a) H1) ∨ (SqT K H1 a xs ∧ R (IteT K a) H1))
theorem pi_enum2 {X : Cx} {e : Expr} {ta : TA} {p pos tpos : Pos} {elts : List Expr} {kk : Nat} (hg : Gl X "enumerate") (hm : X.mg "enumerate" = none) (ha : PA X [e] ta) (hs : starEach [e] X.env = [(false, eval e X.env)] := by rfl) : PI X (.Tuple elts kk tpos) (.Call (.Name "enumerate" p) [e] [] pos) (iEnum2 X.K ta) := by
  refine ⟨fun pins s σ H R I h => Call_ (ld_blt I hg hm boot_enumerate (PyProof.Rows.callWith_type1 (thn (ha.run pos pins s σ H _ I h) fun us s1 ⟨vs, H1, I1, r1, q1⟩ => ?_) hs rfl))⟩
  obtain ⟨a, xs, ex, hq⟩ := q1
  subst ex
  cases r1 with
  | cons r rr =>
    cases rr
    cases r
    have cut : ∀ h' : Heap, (∀ b o, s1.heap.get? b = some o → h'.get? b = some o) → ∀ b, b ∈ [s1.heap.objs.size + 1, s1.heap.objs.size] → _ := fun h' hk b hb => by
      have hle : s1.heap.objs.size ≤ b := by
        rcases (show b = s1.heap.objs.size + 1 ∨ b = s1.heap.objs.size by simpa using hb) with rfl | rfl
        · exact Nat.le_add_right _ _
        · exact Nat.le_refl _
      exact I1.fpOk hle (I1.hok.fresh hle)
    rcases hq with ⟨hq, q⟩ | ⟨hq, q⟩
    · obtain ⟨its, rv, p', hz⟩ := I1.list hq
      refine call_enumerate_list p'.isList fun h' he hit hsz hk => wpAny_pyIter_enum he ?_
      exact ⟨s1.heap.objs.size + 1, [s1.heap.objs.size + 1, s1.heap.objs.size], _, _, H1, rfl, I1.kept (t' := s1.toks) hk, turn_enum a (s1.heap.objs.size + 1) s1.heap.objs.size, ⟨⟨.none, he⟩, hit, Nat.succ_ne_self _⟩, cut h' hk, q⟩
    · obtain ⟨its, rv, p', hz⟩ := I1.tuple hq
      have hal : a < s1.heap.objs.size := by obtain ⟨o, ho, _⟩ := p'; exact Heap.lt_size ho
      refine call_enumT p' fun h' he hit hk => wpAny_pyIter_enum he ?_
      exact ⟨s1.heap.objs.size + 1, [s1.heap.objs.size + 1, s1.heap.objs.size], _, _, H1, rfl, I1.kept (t' := s1.toks) hk, turn_enumT a (s1.heap.objs.size + 1) s1.heap.objs.size, ⟨⟨.none, he⟩, hit, Nat.succ_ne_self _, Nat.ne_of_lt hal, Nat.ne_of_gt (Nat.lt_succ_of_lt hal)⟩, cut h' hk, q⟩
section
variable {L : Lay} {P : Pa} {W : WX} {X : Cx} {E : L2.St → XK} {pos : Pos} {e a b c : Expr} {es : List Expr} {m ma mb mc : M D} {ms : M (List D)}
theorem iteT_ok {a : Addr} {vs : List V} {xs : List D} {F : Hp} (s : SqT L.K F a vs) (r : Rps L F xs vs) : ItR L (IteT L.K a) (fun H2 A2 => Same F (hid H2 A2)) (enumD 0 xs) := by
  intro i H A g hA
  have q : SqT L.K H a vs := SqT.same (g.trans hid_le) s
  rw [enumD_get]
  cases e : xs[i]? with
  | none => exact ⟨fun d e => (by cases e), fun _ => ⟨vs, q, by rw [r.length]; exact List.getElem?_eq_none_iff.mp e⟩⟩
  | some x =>
    refine ⟨fun d ed => ?_, fun e => (by cases e)⟩
    cases ed
    obtain ⟨v, hv, rv⟩ := r.get e
    refine ⟨⟨vs, v, q, hv⟩, fun t H' yy => ?_⟩
    obtain ⟨T, x1, rfl, hT, rfl, f1⟩ := yy
    cases (Option.some.inj (hv.symm.trans (f1 vs q)) : v = x1)
    rw [show (0 : Int) + (i : Nat) = (i : Nat) from Int.zero_add _]
    exact ⟨same_upd hT, new_tup2 hA hT .mk_int (rv.same g)⟩
def enum2 : List D → Option (List D)
  | [.lst xs] => some (enumD 0 xs)
  | [.tup xs] => some (enumD 0 xs)
  | _ => none
theorem sI_enum2 {a : Expr} {p tpos : Pos} {elts : List Expr} {kk : Nat} (hK : X.K = L.K) (hg : Gl X "enumerate") (hm : X.mg "enumerate" = none) (ha : SA L P E X [a] ms) (hs : starEach [a] X.env = [(false, eval a X.env)] := by rfl) : SI L P E X (.Tuple elts kk tpos) (.Call (.Name "enumerate" p) [a] [] pos) (mOns enum2 ms) :=
  PI.weak (pi_enum2 hg hm ha hs) fun σ H R h => by
    obtain ⟨τ, R0, h⟩ := tI_args h
    refine ⟨τ, R0, h.imp fun vs H1 ⟨d, ds, τ1, R1, r1, e, q⟩ => ?_⟩
    rw [hK]
    unfold enum2 at e
    split at e
    · cases e
      obtain ⟨v, rfl, rv⟩ := r1.one
      obtain ⟨a1, us, rfl, s1, q1⟩ := Rp.lst_iff.mp rv
      exact ⟨a1, us, rfl, .inl ⟨.inl (.inl (hid_le _ _ s1)), q _ H1 .refl R1 (ite_ok s1 q1)⟩⟩
    · cases e
      obtain ⟨v, rfl, rv⟩ := r1.one
      obtain ⟨a1, us, rfl, s1, q1⟩ := Rp.tup_iff.mp rv
      exact ⟨a1, us, rfl, .inr ⟨SqT.same hid_le s1, q _ H1 .refl R1 (iteT_ok s1 q1)⟩⟩
    · cases e

theorem of65 {u c : Nat} (h : u + 65 < c) : u + 64 < c := by omega
/-! a + b as a new list -/
def OpF (L : Lay) (r : R2) (f : D → D → Option (List D)) : Prop :=
  ∀ (a b : D) (ns : List D) (x y : V) (H : Hp) (A : Addr → Prop) (Q : VK), f a b = some ns → Bp L (hid H A) H a x → Bp L (hid H A) H b y → (∀ p, A p → ∃ o, H p = some o) →
    (∀ p vs, H p = none → Rps L (hid H A) ns vs → Q (.ref p) (upd H p (.lst vs))) → r x y H Q
def nAdd : D → D → Option (List D)
  | .lst xs, .lst ys => small (xs ++ ys)
  | _, _ => none
def dAddF (a b : D) : Option D := (nAdd a b).map .lst
theorem of_add : OpF L rCat nAdd := by
  intro a b ns x y H A Q e ra rb hA q
  cases a with
  | lst xs =>
    cases b with
    | lst ys =>
      obtain ⟨rfl, hz⟩ := small_some (show small (xs ++ ys) = some ns from e)
      obtain ⟨p, vs, rfl, h, rr⟩ := ra.lst
      obtain ⟨p', vs', rfl, h', rr'⟩ := rb.lst
      refine ⟨p, p', vs, vs', rfl, rfl, h, h', ?_, fun l hl => q l _ hl (rr.app rr')⟩
      rw [rr.length, rr'.length, ← List.length_append]
      exact hz
    | _ => cases e
  | _ => cases e
theorem Post.toG {γ δ : Type} {R : Hp → γ → δ → Prop} {H : Hp} {σ : L2.St} {τ : List Sl} {r : Res γ} {f : γ → M D} {Q : VK} {e : XK} (h : PostF L P H σ τ (r.bind f) Q e) :
    Post L P R H σ τ r (fun v H1 => ∃ a τ1, Tr H (Own σ τ) H1 (Own σ τ1) ∧ StR L P H1 σ τ1 ∧ R (hid H1 (Hd P σ τ1)) a v ∧ PostF L P H1 σ τ1 (f a τ1) Q e) e := by
  cases r with
  | ok a τ1 =>
    intro v H1 t1 R1 r1
    refine ⟨a, τ1, t1, R1, r1, ?_⟩
    have h : PostF L P H σ τ (f a τ1) Q e := h
    revert h
    cases f a τ1 with
    | ok d τ2 => exact fun h a H' x y z => h a H' (t1.trans x) y z
    | exc c xs τ2 => exact fun h a b H' x y z => h a b H' (t1.trans x) y z
    | fail => exact fun h => h
  | exc c xs τ2 => exact h
  | fail => exact h
theorem tOpF_of {r : R2} {f : D → D → Option (List D)} (ho : OpF L r f) (σ : L2.St) (H : Hp) (Q : VK) (h : tF L P E (mOp (fun a b => (f a b).map .lst) ma mb) σ H Q) : tOp r (tE L P E ma) (tE L P E mb) σ H Q := by
  obtain ⟨τ, R, h⟩ := h
  refine ⟨τ, R, (Post.toG (R := RV L) h).imp fun x H1 ⟨d1, τ1, t1, R1, r1, h1⟩ => ?_⟩
  refine ⟨τ1, R1, (Post.toG (R := RV L) h1).imp fun y H2 ⟨d2, τ2, t2, R2, r2, h2⟩ => ?_⟩
  replace h2 : PostF L P H2 σ τ2 (Res.lift ((f d1 d2).map .lst) τ2) Q (E σ) := h2
  cases e : f d1 d2 with
  | none => rw [e] at h2; exact h2.elim
  | some ns =>
    rw [e] at h2
    exact ho d1 d2 ns x y H2 (Hd P σ τ2) Q e ((r1.same (R1.fz t2)).bp hid_le) (r2.bp hid_le) (fun p hp => R2.hd_there hp) fun p vs hp rr => PostF.new R2 h2 hp rr
theorem tPkF_of {r : R2} {f : D → D → Option (List D)} {i : Nat} (ho : OpF L r f) (σ : L2.St) (H : Hp) (Q : VK) (h : tF L P E (mPk i (fun a b => (f a b).map .lst) mb) σ H Q) : tOp r (tVar i) (tE L P E mb) σ H Q := by
  obtain ⟨τ, R, h⟩ := h
  unfold mPk at h
  split at h
  · exact h.elim
  · rename_i d0 e0
    obtain ⟨v, hv, _⟩ := peek_ok R e0
    refine ⟨v, hv, τ, R, (Post.toG (R := RV L) h).imp fun y H2 ⟨d2, τ2, t2, R2, r2, h2⟩ => ?_⟩
    cases e1 : peek i τ2 with
    | none => rw [e1] at h2; exact h2.elim
    | some d1 =>
      rw [e1] at h2
      replace h2 : PostF L P H2 σ τ2 (Res.lift ((f d1 d2).map .lst) τ2) Q (E σ) := h2
      obtain ⟨v', hv', rb⟩ := peek_ok R2 e1
      rw [hv] at hv'
      cases hv'
      cases e : f d1 d2 with
      | none => rw [e] at h2; exact h2.elim
      | some ns =>
        rw [e] at h2
        exact ho d1 d2 ns v y H2 (Hd P σ τ2) Q e rb (r2.bp hid_le) (fun p hp => R2.hd_there hp) fun p vs hp rr => PostF.new R2 h2 hp rr
theorem sF_add (ha : SE L P E X a ma) (hb : SE L P E X b mb) : SF L P E X (.BinOp a .Add b pos) (mOp dAddF ma mb) :=
  PE.weak (pe_op op_cat ha hb) fun σ H Q h => tOpF_of of_add σ H Q h
theorem sF_addP {x : Str} {p : Pos} (i : Nat) (hb : SE L P E X b mb) (hN : X.N[i]? = some x := by rfl) (hv : Vis X.env.scope x := by first | exact Or.inl rfl | exact Or.inr (Or.inl rfl) | exact Or.inr (Or.inr rfl)) (hd : (x == ("__debug__" : Str)) = false := by decide)
    (hcd : (x == ("__classdict__" : Str)) = false := by decide) : SF L P E X (.BinOp (.Name x p) .Add b pos) (mPk i dAddF mb) :=
  PE.weak (pe_op op_cat (pe_var hN hv hd hcd) hb) fun σ H Q h => tPkF_of of_add σ H Q h
end
end Sm
set_option Elab.async false
set_option linter.all false
set_option maxRecDepth 100000
set_option maxHeartbeats 400000
/-! SmN: glue for the printed walks. -/
namespace Sm
open PySem PySem.Spec PyProof.Rows L2
section
variable {L : Lay} {P : Pa} {W : WX} {X : Cx} {E : L2.St → XK} {pos : Pos} {e : Expr} {m : M D}
theorem passNo (σ : L2.St) : PassesAt (L2.CX X.prog X.w) X σ (Eno σ) := fun _ _ _ _ _ _ ⟨_, _, _, _, _, _, _, _, _, _, _, _, h⟩ => h.elim
theorem passB {Pr : Program} {w : World} {K : PySem.W.Frag} {mg : Str → Option Value} {base : Heap} {N : List Str} {qual : Str} {sc : Scope} {f : Addr} {cdv : Value} {A : Around} {outer : List Env} {s : Shared} {H : Hp} {E : XK} (σ : L2.St) :
    PassesAt (L2.CX Pr w) (cxB Pr w K mg base N qual sc f cdv A outer s H E) σ (WE (Wof E) σ) :=
  passAt (X := cxB Pr w K mg base N qual sc f cdv A outer s H E) (W := Wof E) (takes_of (X := cxB Pr w K mg base N qual sc f cdv A outer s H E) rfl rfl rfl rfl) σ
theorem ownB {Pr : Program} {w : World} {K : PySem.W.Frag} {mg : Str → Option Value} {base : Heap} {N : List Str} {qual : Str} {sc : Scope} {f : Addr} {cdv : Value} {A : Around} {outer : List Env} {s : Shared} {H : Hp} {E : XK} :
    PassesOwn (model Pr w) (cxB Pr w K mg base N qual sc f cdv A outer s H E).A (cxB Pr w K mg base N qual sc f cdv A outer s H E).env (cxB Pr w K mg base N qual sc f cdv A outer s H E).xe :=
  passes_of (X := cxB Pr w K mg base N qual sc f cdv A outer s H E) rfl
theorem bd_of {x qual : Str} {st : Stmt} {f : Addr} {fd : FuncData} {ps : List Str} (F : Fun L.K x qual st f fd) (n : Nat) (ks : List Str) (ix : List Nat)
    (h : ∀ (kV doc pm : Value) (an : Option Addr) (cdv ct : Value) (us ws : List Value), us.length = n → ws.length = ks.length → bindArgs (PySem.W.fnOf x qual (defArgs st) (defBody st) (defScope st) .none kV doc pm an cdv ct) ⟨us, ks.zip ws⟩ = pure (ps.zip (ix.map fun i => (us ++ ws ++ []).getD i Value.none))) : Bd L fd ps n ks ix [] := by
  obtain ⟨oc, od, kV, doc, pm, an, cdv, ct, osl, rfl, lk, hcd⟩ := F.ex
  exact ⟨[], [], .nil, fun _ => .nil, fun s us ws _ h1 h2 => .of_eq (h kV doc pm an cdv ct us ws h1 h2)⟩
theorem fn_fail {Pr : Program} {w : World} {mg : Str → Option Value} {base : Heap} {f : Addr} {fd : FuncData} {ps : List Str} {k : Nat} {io : List Bool} : FnOk Pr w L.K mg base (L2.CX Pr w) k f fd ps (spF L io fun _ => .fail) :=
  ⟨fun _ _ _ _ ⟨_, _, _, _, h⟩ => h.elim, fun _ _ _ _ _ _ _ _ _ _ _ _ _ ⟨_, _, _, _, h⟩ => h.elim⟩
variable {a b : Expr} {ma mb : M D} {rest : List Expr}
theorem room65 {k : Nat} {A : Around} (r : Room k A) : A.units + 65 < cLine := by have := r.un; omega
theorem sE_one {op : BoolOp} (h : SE L P E X a ma) : SE L P E X (.BoolOp op [a] pos) ma := pe_one h
theorem sE_orC (hK : X.K = L.K) (ha : SE L P E X a ma) (hb : SE L P E X (.BoolOp .Or (b :: rest) pos) mb) : SE L P E X (.BoolOp .Or (a :: b :: rest) pos) (mOrV ma mb) :=
  PE.weak (pe_orT ha hb) fun σ H Q ⟨τ, R, h⟩ => by
    refine ⟨τ, R, (Post.split (R := RV L) h).imp fun x H1 ⟨d1, τ1, t1, R1, r1, h1⟩ => ?_⟩
    obtain ⟨k, e, q⟩ := (Post.split (R := RB) h1).lift
    refine ⟨k, by rw [hK]; exact truV_ok hid_le (r1.bp hid_le) e, ?_⟩
    obtain ⟨b', τ3, t3, R3, rb, h3⟩ := q k H1 .refl R1 rfl
    cases rb
    cases k with
    | true => rw [if_pos rfl] at h3 ⊢; exact h3 x H1 .refl R3 (r1.same (R1.fz t3))
    | false => rw [if_neg Bool.false_ne_true] at h3 ⊢; exact ⟨τ3, R3, h3⟩
def mAndV (a b : M D) : M D := fun τ => (a τ).bind fun x => fun τ => (Res.lift (truD x) τ).bind fun k => fun τ => if k = true then b τ else .ok x τ
theorem sE_andC (hK : X.K = L.K) (ha : SE L P E X a ma) (hb : SE L P E X (.BoolOp .And (b :: rest) pos) mb) : SE L P E X (.BoolOp .And (a :: b :: rest) pos) (mAndV ma mb) :=
  PE.weak (pe_andT ha hb) fun σ H Q ⟨τ, R, h⟩ => by
    refine ⟨τ, R, (Post.split (R := RV L) h).imp fun x H1 ⟨d1, τ1, t1, R1, r1, h1⟩ => ?_⟩
    obtain ⟨k, e, q⟩ := (Post.split (R := RB) h1).lift
    refine ⟨k, by rw [hK]; exact truV_ok hid_le (r1.bp hid_le) e, ?_⟩
    obtain ⟨b', τ3, t3, R3, rb, h3⟩ := q k H1 .refl R1 rfl
    cases rb
    cases k with
    | false => rw [if_neg Bool.false_ne_true] at h3 ⊢; exact h3 x H1 .refl R3 (r1.same (R1.fz t3))
    | true => rw [if_pos rfl] at h3 ⊢; exact ⟨τ3, R3, h3⟩
def mNotV (a : M D) : M D := fun τ => (a τ).bind fun x => fun τ => Res.lift ((truD x).map fun k => .bl (!k)) τ
theorem sE_notV (hK : X.K = L.K) (ha : SE L P E X a ma) : SE L P E X (.UnaryOp .Not a pos) (mNotV ma) :=
  PE.weak (pe_notT ha) fun σ H Q ⟨τ, R, h⟩ => by
    refine ⟨τ, R, (Post.split (R := RV L) h).imp fun x H1 ⟨d1, τ1, t1, R1, r1, h1⟩ => ?_⟩
    obtain ⟨d, e, q⟩ := h1.done R1
    obtain ⟨k, e1, rfl⟩ := Option.map_eq_some_iff.mp e
    exact ⟨k, by rw [hK]; exact truV_ok hid_le (r1.bp hid_le) e1, q _ H1 (.refl _) .mk_bl⟩
end
theorem bt_len : bootBuiltins "len" = some (.builtin "len") := by decide +kernel
theorem bt_abs : bootBuiltins "abs" = some (.builtin "abs") := by decide +kernel
theorem bt_max : bootBuiltins "max" = some (.builtin "max") := by decide +kernel
theorem bt_min : bootBuiltins "min" = some (.builtin "min") := by decide +kernel
theorem bt_sum : bootBuiltins "sum" = some (.builtin "sum") := by decide +kernel
theorem bt_all : bootBuiltins "all" = some (.builtin "all") := by decide +kernel
theorem bt_any : bootBuiltins "any" = some (.builtin "any") := by decide +kernel
theorem bt_sorted : bootBuiltins "sorted" = some (.builtin "sorted") := by decide +kernel
theorem bt_int : bootBuiltins "int" = some (.type "int") := by decide +kernel
theorem bt_tuple : bootBuiltins "tuple" = some (.type "tuple") := by decide +kernel
theorem bt_list : bootBuiltins "list" = some (.type "list") := by decide +kernel
theorem bt_set : bootBuiltins "set" = some (.type "set") := by decide +kernel
end Sm
set_option Elab.async false
set_option linter.all false
set_option maxRecDepth 100000
set_option maxHeartbeats 400000
/-! SmO: tuple(range(..)), list(range(..)). -/
namespace Sm
open PySem PySem.Spec PyProof.Rows L2
section
variable {L : Lay} {P : Pa} {W : WX} {X : Cx} {E : L2.St → XK} {pos p p' : Pos} {a b : Expr} {ma mb : M D} {ms : M (List D)}
theorem upFrom_map (lo : Int) : ∀ n : Nat, upFrom lo n = (List.range n).map fun i => D.int (lo + (i : Nat))
  | n => by
    refine List.ext_getElem? fun i => ?_
    rw [upFrom_get, List.getElem?_map]
    by_cases h : i < n
    · rw [if_pos h, List.getElem?_range h]; rfl
    · rw [if_neg h, List.getElem?_eq_none_iff.mpr (by rw [List.length_range]; omega)]; rfl
theorem rps_rg {F : Hp} (lo hi : Int) : Rps L F (upFrom lo (hi - lo).toNat) (rgV lo hi) := by
  rw [upFrom_map]
  unfold rgV
  have e1 : ((List.range (hi - lo).toNat).map fun i => D.int (lo + (i : Nat))) = (((List.range (hi - lo).toNat).map fun i => lo + ((i : Nat) : Int))).map D.int := by rw [List.map_map]; rfl
  have e2 : ((List.range (hi - lo).toNat).map fun i => V.int (lo + (i : Nat))) = (((List.range (hi - lo).toNat).map fun i => lo + ((i : Nat) : Int))).map V.int := by rw [List.map_map]; rfl
  rw [e1, e2]
  exact Rp.ofInts _
def nRg (lo hi : Int) : Option (List D) := if lo.natAbs < 2 ^ 60 ∧ hi.natAbs < 2 ^ 60 ∧ hi - lo < 16000000 then some (upFrom lo (hi - lo).toNat) else none
theorem nRg_some {lo hi : Int} {ds : List D} (h : nRg lo hi = some ds) : RgOk lo hi ∧ ds = upFrom lo (hi - lo).toNat := by
  unfold nRg at h
  split at h
  · rename_i q
    cases h
    exact ⟨⟨by omega, by omega, by omega, by omega, by omega⟩, rfl⟩
  · cases h
def mTupRg1 (ma : M D) : M D := fun τ => (ma τ).bind fun x => fun τ => Res.lift ((asI x).bind fun n => (nRg 0 n).map .tup) τ
theorem asI_some {d : D} {i : Int} (h : asI d = some i) : d = .int i := by
  cases d with
  | int j => cases h; rfl
  | _ => cases h
theorem sE_tupRg1 (hc : X.calm = true) (hg : Gl X "tuple") (hm : X.mg "tuple" = none) (hg' : Gl X "range") (hm' : X.mg "range" = none) (ha : SE L P E X a ma) (na : starEach [a] X.env = (false, eval a X.env) :: starEach [] X.env := by rfl)
    (nb : starEach [.Call (.Name "range" p') [a] [] p] X.env = (false, eval (.Call (.Name "range" p') [a] [] p) X.env) :: starEach [] X.env := by rfl) {p2 : Pos} : SE L P E X (.Call (.Name "tuple" p2) [.Call (.Name "range" p') [a] [] p] [] pos) (mTupRg1 ma) :=
  PE.weak (pe_tupRg hc hg hm (prg_1 hg' hm' ha na) nb) fun σ H Q ⟨τ, R, h⟩ => by
    refine ⟨τ, R, (Post.split (R := RV L) h).imp fun x H1 ⟨d1, τ1, t1, R1, r1, h1⟩ => ?_⟩
    obtain ⟨d, e, q⟩ := h1.done R1
    obtain ⟨n, e1, e2⟩ := Option.bind_eq_some_iff.mp e
    have := asI_some e1
    subst this
    obtain ⟨ds, e3, rfl⟩ := Option.map_eq_some_iff.mp e2
    obtain ⟨ok, rfl⟩ := nRg_some e3
    exact ⟨n, Rp.int_iff.mp r1, ok, fun l hl => q _ _ (same_upd hl) (new_tup (fun a ha => R1.hd_there ha) hl (rps_rg 0 n))⟩
def mTupRg2 (ma mb : M D) : M D := fun τ => (ma τ).bind fun x => fun τ => (mb τ).bind fun y => fun τ => Res.lift ((asI x).bind fun lo => (asI y).bind fun hi => (nRg lo hi).map .tup) τ
theorem sE_tupRg2 (hc : X.calm = true) (hg : Gl X "tuple") (hm : X.mg "tuple" = none) (hg' : Gl X "range") (hm' : X.mg "range" = none) (ha : SE L P E X a ma) (hb : SE L P E X b mb) (na : starEach [a, b] X.env = (false, eval a X.env) :: starEach [b] X.env := by rfl)
    (nb : starEach [b] X.env = (false, eval b X.env) :: starEach [] X.env := by rfl) (hp : (backTo p (starEach [b] X.env)).any (·.1) = false := by rfl)
    (nc : starEach [.Call (.Name "range" p') [a, b] [] p] X.env = (false, eval (.Call (.Name "range" p') [a, b] [] p) X.env) :: starEach [] X.env := by rfl) {p2 : Pos} : SE L P E X (.Call (.Name "tuple" p2) [.Call (.Name "range" p') [a, b] [] p] [] pos) (mTupRg2 ma mb) :=
  PE.weak (pe_tupRg hc hg hm (prg_2 hg' hm' ha hb na nb hp) nc) fun σ H Q ⟨τ, R, h⟩ => by
    refine ⟨τ, R, (Post.split (R := RV L) h).imp fun x H1 ⟨d1, τ1, t1, R1, r1, h1⟩ => ?_⟩
    refine ⟨τ1, R1, (Post.split (R := RV L) h1).imp fun y H2 ⟨d2, τ2, t2, R2, r2, h2⟩ => ?_⟩
    obtain ⟨d, e, q⟩ := h2.done R2
    obtain ⟨lo, e1, e2⟩ := Option.bind_eq_some_iff.mp e
    have := asI_some e1
    subst this
    obtain ⟨hi, e3, e4⟩ := Option.bind_eq_some_iff.mp e2
    have := asI_some e3
    subst this
    obtain ⟨ds, e5, rfl⟩ := Option.map_eq_some_iff.mp e4
    obtain ⟨ok, rfl⟩ := nRg_some e5
    exact ⟨lo, hi, Rp.int_iff.mp r1, Rp.int_iff.mp r2, ok, fun l hl => q _ _ (same_upd hl) (new_tup (fun a ha => R2.hd_there ha) hl (rps_rg lo hi))⟩
end
end Sm
set_option Elab.async false
set_option linter.all false
set_option maxRecDepth 100000
set_option maxHeartbeats 400000
/-! SmP: the law's own call. -/
namespace Sm
open PySem PySem.Spec PyProof.Rows L2
def RF.yes : RF → Bool
  | .ok (.bl true) _ => true
  | _ => false
theorem law_sp {L : Lay} {f : List D → RF} {H : Hp} {a : Addr} {ns : List Int} (h : (f [.scr (ns.map .int)]).yes = true) (hS : SqL L.K H a (ns.map V.int)) : spF L [false] f [.ref a] H (fun v _ => v = .bl true) fun _ _ _ => False := by
  have no : ∀ i b, ¬ OwnAt [some (V.ref a)] [Sl.fz (.scr (ns.map .int))] i b := fun i b ⟨_, t, et, ow⟩ => by
    match i, et with
    | 0, et => cases et; cases ow
    | i + 1, et => cases et
  refine ⟨[.scr (ns.map .int)], fun _ => False, rfl, ⟨rfl, fun i j b x => (no i b x).elim, fun b ⟨i, x⟩ => (no i b x).elim, fun _ h => h.elim, fun i t et => ?_⟩, ?_⟩
  · match i, et with
    | 0, et =>
      cases et
      refine ⟨.ref a, rfl, Rp.scr_iff.mpr ⟨a, _, rfl, ?_, Rp.ofInts ns⟩⟩
      have s : Same H (hid H (Hd ⟨[.ref a], fun _ => False⟩ [some (.ref a)] [Sl.fz (.scr (ns.map .int))])) := fun b o e => hid_some.mpr ⟨e, fun z => z.elim (fun ⟨i, x⟩ => no i b x) fun z => z⟩
      exact s.seq hS
    | i + 1, et => cases et
  · revert h
    cases f [.scr (ns.map .int)] with
    | ok d outs =>
      intro h v H' _ _ r
      cases d with
      | bl b =>
        cases b with
        | true => exact Rp.bl_iff.mp r
        | false => cases h
      | _ => cases h
    | _ => intro h; cases h
theorem noCX {Pr : Program} (w : World) (H : Hp) (s : Shared) (e : Value) (s' : Shared) (h : L2.CX Pr w [] H s (fun _ _ _ => False) e s') : False := by
  obtain ⟨_, _, _, _, _, _, _, _, _, _, _, _, h⟩ := h
  exact h
end Sm
set_option Elab.async false
set_option linter.all false
set_option maxRecDepth 100000
set_option maxHeartbeats 400000
/-! SmQ: evaluation: one rule for each combinator, at slots that are told. -/
namespace Sm
open PySem PySem.Spec PyProof.Rows L2
section
variable {α β : Type} {t : Sl} {τ : List Sl} {ma mb mc m : M D} {ms ms' mk : M (List D)} {mr : M (List Ar)} {f f' : D → D → Option D} {g : D → Option D} {na nb nt : M Bool} {i j : Nat} {d : D} {sa sb : MS} {F : List D → Option D} {FF : List D → Option (List D)}
@[simp] theorem ev_op : mOp f ma mb (t :: τ) = (ma (t :: τ)).bind fun x => fun τ => (mb τ).bind fun y => fun τ => Res.lift (f x y) τ := rfl
@[simp] theorem ev_un : mUn g ma (t :: τ) = (ma (t :: τ)).bind fun x => fun τ => Res.lift (g x) τ := rfl
@[simp] theorem ev_b : mB m (t :: τ) = (m (t :: τ)).bind fun x => fun τ => Res.lift (asB x) τ := rfl
@[simp] theorem ev_c : mC d (t :: τ) = .ok d (t :: τ) := rfl
@[simp] theorem ev_var : mVar i (t :: τ) = match (t :: τ)[i]? with | some (.fz d) => .ok d (t :: τ) | some (.ow d) => .ok d ((t :: τ).set i (.fz d)) | _ => .fail := rfl
@[simp] theorem ev_nil : mNil (t :: τ) = .ok [] (t :: τ) := rfl
@[simp] theorem ev_cons : mCons m ms (t :: τ) = (m (t :: τ)).bind fun x => fun τ => (ms τ).bind fun xs => fun τ => .ok (x :: xs) τ := rfl
@[simp] theorem ev_tup : mTup ms (t :: τ) = (ms (t :: τ)).bind fun xs => fun τ => Res.lift ((small xs).map D.tup) τ := rfl
@[simp] theorem ev_lst : mLst ms (t :: τ) = (ms (t :: τ)).bind fun xs => fun τ => Res.lift ((small xs).map D.lst) τ := rfl
@[simp] theorem ev_and : mAnd na nb (t :: τ) = (na (t :: τ)).bind fun k => fun τ => if k = true then nb τ else .ok false τ := rfl
@[simp] theorem ev_or : mOr na nb (t :: τ) = (na (t :: τ)).bind fun k => fun τ => if k = true then .ok true τ else nb τ := rfl
@[simp] theorem ev_not : mNot na (t :: τ) = (na (t :: τ)).bind fun k => fun τ => .ok (!k) τ := rfl
@[simp] theorem ev_if {x y : M α} : mIf na x y (t :: τ) = (na (t :: τ)).bind fun k => fun τ => if k = true then x τ else y τ := rfl
@[simp] theorem ev_nx : mNx (t :: τ) = .nx (t :: τ) := rfl
@[simp] theorem ev_seq : mSeq sa sb (t :: τ) = (sa (t :: τ)).then sb := rfl
@[simp] theorem ev_bk : mBk (t :: τ) = .bk (t :: τ) := rfl
@[simp] theorem ev_ct : mCt (t :: τ) = .ct (t :: τ) := rfl
@[simp] theorem ev_ret : mRet m (t :: τ) = (m (t :: τ)).st fun d τ => .rt d τ := rfl
@[simp] theorem ev_retN : mRetN (t :: τ) = .rt .non (t :: τ) := rfl
@[simp] theorem ev_retO : mRetO m (t :: τ) = (m (t :: τ)).st fun d τ => .ro d τ := rfl
@[simp] theorem ev_ifS : mIfS na sa sb (t :: τ) = (na (t :: τ)).st fun k τ => if k = true then sa τ else sb τ := rfl
@[simp] theorem ev_drop : mDrop m (t :: τ) = (m (t :: τ)).st fun _ τ => .nx τ := rfl
@[simp] theorem ev_set : mSet i m (t :: τ) = (m (t :: τ)).st fun d τ => SR.opt (setFz i d τ) := rfl
@[simp] theorem ev_setO : mSetO i m (t :: τ) = (m (t :: τ)).st fun d τ => SR.opt (setOw i d τ) := rfl
@[simp] theorem ev_par : mPar i j ma mb (t :: τ) = (ma (t :: τ)).st fun a τ => (mb τ).st fun b τ => SR.opt ((setFz i a τ).bind (setFz j b)) := rfl
@[simp] theorem ev_asg {q : MG} : mAsg q m (t :: τ) = (m (t :: τ)).st fun d τ => SR.opt (q d τ) := rfl
@[simp] theorem ev_setFz : setFz i d (t :: τ) = match (t :: τ)[i]? with | some s => if s.free = true then some ((t :: τ).set i (.fz d)) else none | none => none := rfl
@[simp] theorem ev_setOw : setOw i d (t :: τ) = match (t :: τ)[i]? with | some s => if s.free = true then some ((t :: τ).set i (.ow d)) else none | none => none := rfl
@[simp] theorem free_un : Sl.un.free = true := rfl
@[simp] theorem free_fz : (Sl.fz d).free = true := rfl
@[simp] theorem free_ow : (Sl.ow d).free = true := rfl
@[simp] theorem ev_gN : gN i d (t :: τ) = setFz i d (t :: τ) := rfl
@[simp] theorem ev_gNil : Sm.gNil [] (t :: τ) = some (t :: τ) := rfl
@[simp] theorem ev_gCons {q : MG} {qs : MGs} {ds : List D} : Sm.gCons q qs (d :: ds) (t :: τ) = (q d (t :: τ)).bind (qs ds) := rfl
@[simp] theorem ev_gT {n : Nat} {qs : MGs} {ds : List D} : gT n qs (.tup ds) (t :: τ) = if ds.length = n then qs ds (t :: τ) else none := rfl
@[simp] theorem ev_gTl {n : Nat} {qs : MGs} {ds : List D} : gT n qs (.lst ds) (t :: τ) = if ds.length = n then qs ds (t :: τ) else none := rfl
@[simp] theorem ev_gIx : gIx i m d (t :: τ) = if isLst (peek i (t :: τ)) = true then (m (t :: τ)).ixO fun k τ => chgS i (fSet k d) τ else none := rfl
@[simp] theorem ev_peek : peek i (t :: τ) = ((t :: τ)[i]?).bind Sl.get := rfl
@[simp] theorem get_fz : Sl.get (.fz d) = some d := rfl
@[simp] theorem get_ow : Sl.get (.ow d) = some d := rfl
@[simp] theorem get_io : Sl.get (.io i d) = some d := rfl
@[simp] theorem isLst_lst {ds : List D} : isLst (some (.lst ds)) = true := rfl
@[simp] theorem ev_chg {h : List D → Option (List D)} : chgS i h (t :: τ) = ((t :: τ)[i]?).bind fun s => (s.chg h).map fun s' => (t :: τ).set i s' := rfl
@[simp] theorem chg_ow {h : List D → Option (List D)} {ds : List D} : Sl.chg h (.ow (.lst ds)) = (h ds).map fun ns => .ow (.lst ns) := rfl
@[simp] theorem chg_io {h : List D → Option (List D)} {ds : List D} : Sl.chg h (.io i (.lst ds)) = (h ds).map fun ns => .io i (.lst ns) := rfl
@[simp] theorem ev_pk : mPk i f mb (t :: τ) = match peek i (t :: τ) with | none => .fail | some _ => (mb (t :: τ)).bind fun y => fun τ => Res.lift ((peek i τ).bind fun x => f x y) τ := rfl
@[simp] theorem ev_ch : mCh f f' ma mb mc (t :: τ) = (ma (t :: τ)).bind fun x => fun τ => (mb τ).bind fun y => fun τ => (Res.lift ((f x y).bind asB) τ).bind fun k => fun τ => if k = true then (mc τ).bind fun z => fun τ => Res.lift (f' y z) τ else .ok (.bl false) τ := rfl
@[simp] theorem ev_andV : mAndV ma mb (t :: τ) = (ma (t :: τ)).bind fun x => fun τ => (Res.lift (truD x) τ).bind fun k => fun τ => if k = true then mb τ else .ok x τ := rfl
@[simp] theorem ev_orV : mOrV ma mb (t :: τ) = (ma (t :: τ)).bind fun x => fun τ => (Res.lift (truD x) τ).bind fun k => fun τ => if k = true then .ok x τ else mb τ := rfl
@[simp] theorem ev_notV : mNotV ma (t :: τ) = (ma (t :: τ)).bind fun x => fun τ => Res.lift ((truD x).map fun k => .bl (!k)) τ := rfl
@[simp] theorem ev_fn : mFn F ms (t :: τ) = (ms (t :: τ)).bind fun xs => fun τ => Res.lift (F xs) τ := rfl
@[simp] theorem ev_fnF : mFnF FF ms (t :: τ) = (ms (t :: τ)).bind fun xs => fun τ => Res.lift ((FF xs).map D.lst) τ := rfl
@[simp] theorem ev_fnP : mFnP F i (t :: τ) = Res.lift ((peek i (t :: τ)).bind fun d => F [d]) (t :: τ) := rfl
@[simp] theorem ev_on {h : α → Option β} {x : M α} : mOn h x (t :: τ) = (x (t :: τ)).bind fun d => fun τ => Res.lift (h d) τ := rfl
@[simp] theorem ev_ons : mOns FF ms (t :: τ) = (ms (t :: τ)).bind fun xs => fun τ => Res.lift (FF xs) τ := rfl
@[simp] theorem ev_yes : mYes (t :: τ) = .ok true (t :: τ) := rfl
@[simp] theorem ev_oNone : oNone (t :: τ) = .ok none (t :: τ) := rfl
@[simp] theorem ev_oSome : oSome m (t :: τ) = (m (t :: τ)).bind fun x => fun τ => Res.lift ((asI x).map some) τ := rfl
@[simp] theorem ev_for {mi : M (List D)} {q : MG} : mFor mi q sa (t :: τ) = (mi (t :: τ)).st fun ds τ => mLoop q sa ds τ := rfl
@[simp] theorem ev_aNil : aNil (t :: τ) = .ok [] (t :: τ) := rfl
@[simp] theorem ev_aV : aV m mr (t :: τ) = (m (t :: τ)).bind fun x => fun τ => (mr τ).bind fun xs => fun τ => .ok (.v x :: xs) τ := rfl
@[simp] theorem ev_aIo : aIo i mr (t :: τ) = match ownD (t :: τ)[i]? with | some _ => (mr (t :: τ)).bind fun xs => fun τ => .ok (.io i :: xs) τ | none => .fail := rfl
@[simp] theorem ev_call {io : List Bool} {fn : List D → RF} {n k : Nat} {ix : List Nat} {dds : List D} : mCall io fn n k ix dds mr mk (t :: τ) = (mr (t :: τ)).bind fun as => fun τ => (mk τ).bind fun es => fun τ =>
    if as.length = n ∧ es.length = k then callR io fn (pick ix (as ++ es.map Ar.v ++ dds.map Ar.v)) τ else .fail := rfl
@[simp] theorem small_nil : small [] = some [] := rfl
/-! data -/
@[simp] theorem dd_add {a b : Int} : dAdd (.int a) (.int b) = some (.int (a + b)) := rfl
@[simp] theorem dd_sub {a b : Int} : dSub (.int a) (.int b) = some (.int (a - b)) := rfl
@[simp] theorem dd_mul {a b : Int} : dMul (.int a) (.int b) = if mulOk a b = true then some (.int (a * b)) else none := rfl
@[simp] theorem dd_mod {a b : Int} : dMod (.int a) (.int b) = if 0 < b then some (.int (a % b)) else none := rfl
@[simp] theorem dd_neg {a : Int} : dNeg (.int a) = some (.int (-a)) := rfl
@[simp] theorem dd_lt {a b : Int} : dLt (.int a) (.int b) = some (.bl (decide (a < b))) := rfl
@[simp] theorem dd_le {a b : Int} : dLe (.int a) (.int b) = some (.bl (decide (a ≤ b))) := rfl
@[simp] theorem dd_gt {a b : Int} : dGt (.int a) (.int b) = some (.bl (decide (b < a))) := rfl
@[simp] theorem dd_ge {a b : Int} : dGe (.int a) (.int b) = some (.bl (decide (b ≤ a))) := rfl
@[simp] theorem dd_int {a : Int} : dInt [.int a] = some (.int a) := rfl
@[simp] theorem dd_intb {k : Bool} : dInt [.bl k] = some (.int (if k = true then 1 else 0)) := rfl
@[simp] theorem dd_abs {a : Int} : dAbs [.int a] = some (.int (if a < 0 then -a else a)) := rfl
@[simp] theorem dd_lenL {xs : List D} : dLen [.lst xs] = some (.int xs.length) := rfl
@[simp] theorem dd_lenT {xs : List D} : dLen [.tup xs] = some (.int xs.length) := rfl
@[simp] theorem dd_ixL {xs : List D} {a : Int} : dIx (.lst xs) (.int a) = L2.atI xs a := rfl
@[simp] theorem dd_ixT {xs : List D} {a : Int} : dIx (.tup xs) (.int a) = L2.atI xs a := rfl
@[simp] theorem tru_bl {k : Bool} : truD (.bl k) = some k := rfl
@[simp] theorem at1_0 {a : D} : L2.atI [a] 0 = some a := rfl
@[simp] theorem at2_0 {a b : D} : L2.atI [a, b] 0 = some a := rfl
@[simp] theorem at2_1 {a b : D} : L2.atI [a, b] 1 = some b := rfl
@[simp] theorem at3_0 {a b c : D} : L2.atI [a, b, c] 0 = some a := rfl
@[simp] theorem at3_1 {a b c : D} : L2.atI [a, b, c] 1 = some b := rfl
@[simp] theorem at3_2 {a b c : D} : L2.atI [a, b, c] 2 = some c := rfl
@[simp] theorem set3_0 {a b c : D} : fSet 0 d [a, b, c] = some [d, b, c] := rfl
@[simp] theorem set3_1 {a b c : D} : fSet 1 d [a, b, c] = some [a, d, c] := rfl
@[simp] theorem set3_2 {a b c : D} : fSet 2 d [a, b, c] = some [a, b, d] := rfl
end
theorem mulOk_l {i j : Int} (h : i.natAbs < 2 ^ 63) : mulOk i j = true := by unfold mulOk; rw [decide_eq_true h]; rfl
theorem mulOk_r {i j : Int} (h : j.natAbs < 2 ^ 63) : mulOk i j = true := by unfold mulOk; rw [decide_eq_true h, Bool.or_true]; rfl
theorem dd_fdiv {a b : Int} (h : 0 < b) (h2 : b < 2 ^ 62) : dFdiv (.int a) (.int b) = some (.int (a / b)) := by
  show (if 0 < b ∧ b.natAbs < 2 ^ 8000 then some (D.int (a / b)) else none) = _
  rw [if_pos ⟨h, Nat.lt_of_lt_of_le (show b.natAbs < 2 ^ 62 by omega) (Nat.pow_le_pow_right (by decide) (by decide))⟩]
end Sm
set_option Elab.async false
set_option linter.all false
set_option maxRecDepth 100000
set_option maxHeartbeats 400000
/-! SmR: the defs that all laws share, as my own functions on data, and what they tell. -/
namespace Sm
open PySem PySem.Spec PyProof.Rows L2
def b_boxC (c : Int) : MS := (mSeq (mSet 2 (mIf (mB (mOp dLt (mVar 1) (mFn dLen (mCons (mVar 0) mNil)))) (mPk 0 dIx (mVar 1)) (mC (.int 0))))
    (mRetO (mLst (mCons (mOp dMul (mFn dAbs (mCons (mVar 2) mNil)) (mFn dInt (mCons (mOp dGe (mFn dAbs (mCons (mVar 2) mNil)) (mOp dPow (mC (.int 10)) (mC (.int 18)))) mNil))) (mCons (mOp dAdd (mOp dAdd (mOp dMod (mFn dInt (mCons (mVar 2) mNil)) (mC (.int 2305843009213693951))) (mOp dMul (mC (.int 39373)) (mVar 1))) (mC (.int c))) (mCons (mC (.int 0)) mNil))))))
def f_boxC (c : Int) : List D → RF := mkF 3 [false, false] (b_boxC c)
def b_take : MS := (mSeq (mIfS (mB (mOp dGt (mPk 0 dIx (mC (.int 0))) (mC (.int 0)))) (mSeq (mSet 2 (mOp dMod (mFn dInt (mCons (mPk 0 dIx (mC (.int 0))) mNil)) (mVar 1)))
    (mSeq (mAsg (gIx 0 (mC (.int 0))) (mOp dFdiv (mPk 0 dIx (mC (.int 0))) (mVar 1)))
    (mRet (mVar 2)))) mNx)
    (mSeq (mAsg (gIx 0 (mC (.int 2))) (mOp dAdd (mPk 0 dIx (mC (.int 2))) (mC (.int 1))))
    (mSeq (mSet 3 (mOp dMod (mFn dInt (mCons (mOp dMul (mOp dAdd (mPk 0 dIx (mC (.int 1))) (mOp dMul (mC (.int 48271)) (mPk 0 dIx (mC (.int 2))))) (mOp dAdd (mC (.int 39373)) (mPk 0 dIx (mC (.int 2))))) mNil)) (mC (.int 2147483647))))
    (mSeq (mSet 4 (mOp dAdd (mOp dMod (mFn dInt (mCons (mVar 3) mNil)) (mC (.int 40009))) (mC (.int 7))))
    (mSeq (mSet 5 (mOp dMod (mFn dInt (mCons (mOp dMul (mOp dAdd (mOp dAdd (mVar 3) (mPk 0 dIx (mC (.int 2)))) (mOp dFdiv (mPk 0 dIx (mC (.int 1))) (mC (.int 1000003)))) (mVar 4)) mNil)) (mC (.int 2147483629))))
    (mRet (mOp dMod (mFn dInt (mCons (mOp dFdiv (mOp dMod (mFn dInt (mCons (mOp dAdd (mOp dMul (mVar 5) (mC (.int 48271))) (mVar 3)) mNil)) (mC (.int 2147483587))) (mC (.int 64))) mNil)) (mVar 1))))))))
def f_take : List D → RF := mkF 6 [true, false] b_take
def b_cells : MS := (mSeq (mSetO 2 (mOrV (mFnF nList (mCons (mSlP 0 oNone (oSome (mVar 1))) mNil)) (mLst (mCons (mC (.int 0)) mNil))))
    (mSeq (mFor (mOns enum2 (mCons (mSlP 0 (oSome (mVar 1)) (oSome (mC (.int 63)))) mNil)) (gT 2 (Sm.gCons (gN 3) (Sm.gCons (gN 4) Sm.gNil))) (mSeq (mSet 5 (mOp dMod (mFn dInt (mCons (mVar 3) mNil)) (mVar 1)))
    (mAsg (gIx 2 (mVar 5)) (mOp dAdd (mPk 2 dIx (mVar 5)) (mOp dMul (mVar 4) (mOp dAdd (mVar 3) (mC (.int 2))))))))
    (mRet (mVar 2))))
def f_cells : List D → RF := mkF 6 [false, false] b_cells
def b_same (self_ : List D → RF) : MS := (mSeq (mIfS (mB (mFn (dIsi2 "list" "tuple") (mCons (mVar 1) mNil))) (mSeq (mIfS (mB (mOp dNe (mFn (dIsi "list") (mCons (mVar 0) mNil)) (mFn (dIsi "list") (mCons (mVar 1) mNil)))) (mRet (mC (.bl false))) mNx)
    (mSeq (mIfS (mB (mOp dNe (mFn (dIsi "tuple") (mCons (mVar 0) mNil)) (mFn (dIsi "tuple") (mCons (mVar 1) mNil)))) (mRet (mC (.bl false))) mNx)
    (mRet (mAndV (mOp dEq (mFn dLen (mCons (mVar 0) mNil)) (mFn dLen (mCons (mVar 1) mNil))) (mFn dAll (mCons (mLc (mOns zip2 (mCons (mVar 0) (mCons (mVar 1) mNil))) (gT 2 (Sm.gCons (gN 3) (Sm.gCons (gN 4) Sm.gNil))) mYes (mCall [false, false] self_ 2 0 [0, 1] [] (aV (mVar 3) (aV (mVar 4) aNil)) mNil) [3, 4]) mNil)))))) mNx)
    (mSeq (mIfS (mOr (mB (mOp dIs (mVar 1) (mC .non))) (mB (mFn (dIsi2 "bool" "str") (mCons (mVar 1) mNil)))) (mSeq (mSet 2 (mAndV (mOp dEq (mFn (dIsi "bool") (mCons (mVar 0) mNil)) (mFn (dIsi "bool") (mCons (mVar 1) mNil))) (mOp dEq (mOp dIs (mVar 0) (mC .non)) (mOp dIs (mVar 1) (mC .non)))))
    (mRet (mAndV (mVar 2) (mOp dEq (mVar 0) (mVar 1))))) mNx)
    (mRet (mAndV (mFn (dIsi "int") (mCons (mVar 0) mNil)) (mAndV (mNotV (mFn (dIsi "bool") (mCons (mVar 0) mNil))) (mOp dEq (mVar 0) (mVar 1)))))))
def ff_same : Nat → List D → RF
  | 0 => fun _ => .fail
  | n + 1 => mkF 5 [false, false] (b_same (ff_same n))
abbrev f_same : List D → RF := ff_same 6
def b_lists (self_ : List D → RF) : MS := (mRet (mIf (mB (mFn (dIsi2 "list" "tuple") (mCons (mVar 0) mNil))) (mLc (mOn asS (mVar 0)) (gN 1) mYes (mCall [false] self_ 1 0 [0] [] (aV (mVar 1) aNil) mNil) [1]) (mVar 0)))
def ff_lists : Nat → List D → RF
  | 0 => fun _ => .fail
  | n + 1 => mkF 2 [false] (b_lists (ff_lists n))
abbrev f_lists : List D → RF := ff_lists 6
def bx (a b c : Int) : D := .lst [.int a, .int b, .int c]
theorem take1 {a b c n : Int} (ha : 0 < a) (hn : 0 < n) (hn2 : n < 2 ^ 62) : f_take [bx a b c, .int n] = .ok (.int (a % n)) [some (bx (a / n) b c), none] := by
  simp [f_take, mkF, b_take, argS, bx, ha, hn, dd_fdiv hn hn2, outD, outE]
/-- the mixed number that is drawn -/
def mixOnce (b c : Int) : Int := (b + 48271 * c) * (39373 + c) % 2147483647
def mixAgain (b c : Int) : Int := (mixOnce b c + c + b / 1000003) * (mixOnce b c % 40009 + 7) % 2147483629
def mix (b c : Int) : Int := (mixAgain b c * 48271 + mixOnce b c) % 2147483587 / 64
theorem take2 {a b c n : Int} (ha : a ≤ 0) (hb : 0 ≤ b) (hb2 : b < 2 ^ 62) (hc : 0 ≤ c) (hc2 : c < 2 ^ 30) (hn : 0 < n) : f_take [bx a b c, .int n] = .ok (.int (mix b (c + 1) % n)) [some (bx a b (c + 1)), none] := by
  have ha' : ¬ 0 < a := by omega
  have m1 : mulOk 48271 (c + 1) = true := mulOk_l (by decide)
  have m2 : mulOk (b + 48271 * (c + 1)) (39373 + (c + 1)) = true := mulOk_r (by omega)
  have e1 : 0 ≤ mixOnce b (c + 1) ∧ mixOnce b (c + 1) < 2147483647 := ⟨Int.emod_nonneg _ (by decide), Int.emod_lt_of_pos _ (by decide)⟩
  have m3 : mulOk (mixOnce b (c + 1) + (c + 1) + b / 1000003) (mixOnce b (c + 1) % 40009 + 7) = true := mulOk_r (by omega)
  have m4 : mulOk (mixAgain b (c + 1)) 48271 = true := mulOk_r (by decide)
  have d1 := dd_fdiv (a := b) (b := 1000003) (by decide) (by decide)
  have d2 := dd_fdiv (a := (mixAgain b (c + 1) * 48271 + mixOnce b (c + 1)) % 2147483587) (b := 64) (by decide) (by decide)
  have f1 : (b + 48271 * (c + 1)) * (39373 + (c + 1)) % 2147483647 = mixOnce b (c + 1) := rfl
  have f2 : (mixOnce b (c + 1) + (c + 1) + b / 1000003) * (mixOnce b (c + 1) % 40009 + 7) % 2147483629 = mixAgain b (c + 1) := rfl
  have f3 : (mixAgain b (c + 1) * 48271 + mixOnce b (c + 1)) % 2147483587 / 64 = mix b (c + 1) := rfl
  simp [f_take, mkF, b_take, argS, bx, ha', hn, outD, outE, m1, m2, f1, d1, m3, f2, m4, d2, f3]
/-- a box from which k may be drawn -/
def Box (k : Int) (d : D) : Prop := ∃ a b c : Int, d = bx a b c ∧ 0 ≤ a ∧ 0 ≤ b ∧ b < 2 ^ 62 ∧ 0 ≤ c ∧ c + k < 2 ^ 30
theorem Box.le {k j : Int} {d : D} (h : Box k d) (hj : j ≤ k) : Box j d := by
  obtain ⟨a, b, c, e, h1, h2, h3, h4, h5⟩ := h
  exact ⟨a, b, c, e, h1, h2, h3, h4, by omega⟩
theorem take_ok {k n : Int} {d : D} (h : Box k d) (hk : 1 ≤ k) (hn : 0 < n) (hn2 : n < 2 ^ 62) : ∃ r d', f_take [d, .int n] = .ok (.int r) [some d', none] ∧ 0 ≤ r ∧ r < n ∧ Box (k - 1) d' := by
  obtain ⟨a, b, c, rfl, h1, h2, h3, h4, h5⟩ := h
  by_cases ha : 0 < a
  · exact ⟨_, _, take1 ha hn hn2, Int.emod_nonneg _ (by omega), Int.emod_lt_of_pos _ hn, a / n, b, c, rfl, Int.ediv_nonneg h1 (by omega), h2, h3, h4, by omega⟩
  · exact ⟨_, _, take2 (by omega) h2 h3 h4 (by omega) hn, Int.emod_nonneg _ (by omega), Int.emod_lt_of_pos _ hn, a, b, c + 1, rfl, h1, h2, h3, by omega, by omega⟩
theorem dd_pow18 : dPow (.int 10) (.int 18) = some (.int 1000000000000000000) := rfl
theorem box_ok {cs : List Int} {k : Nat} {c : Int} (hc : 0 ≤ c) (hc2 : c < 1000000) (hk : k < cs.length) (hk2 : k < 1000) : ∃ d, f_boxC c [.lst (cs.map .int), .int (k : Nat)] = .own d ∧ Box 1000000 d := by
  have h1 : L2.atI (cs.map D.int) ((k : Nat) : Int) = some (.int cs[k]) := atI_nat (by rw [List.getElem?_map, List.getElem?_eq_getElem hk]; rfl)
  have h2 : ((k : Nat) : Int) < (cs.map D.int).length := by rw [List.length_map]; omega
  have h2' : ((k : Nat) : Int) < cs.length := by omega
  generalize cs[k] = x at h1
  generalize hy : (if x < 0 then -x else x) = y
  have y0 : 0 ≤ y := by rw [← hy]; split <;> omega
  generalize hz : (if (1000000000000000000 : Int) ≤ y then (1 : Int) else 0) = z
  have z0 : 0 ≤ z ∧ z ≤ 1 := by rw [← hz]; split <;> omega
  have m1 : mulOk y z = true := mulOk_r (by omega)
  have m2 : mulOk 39373 ((k : Nat) : Int) = true := mulOk_l (by decide)
  have md : 0 ≤ x % 2305843009213693951 ∧ x % 2305843009213693951 < 2305843009213693951 := ⟨Int.emod_nonneg _ (by decide), Int.emod_lt_of_pos _ (by decide)⟩
  refine ⟨bx (y * z) (x % 2305843009213693951 + 39373 * (k : Nat) + c) 0, ?_, _, _, _, rfl, Int.mul_nonneg y0 z0.1, by omega, by omega, by omega, by omega⟩
  simp [f_boxC, mkF, b_boxC, argS, bx, h1, h2', hy, hz, dd_pow18, m1, m2, small]
/-! ### same: equal data of the kinds that are told -/
/-- None, bools, numbers, texts, and lists and tuples of them, n deep at most; d == d by the model -/
def fine : Nat → D → Bool
  | 0, _ => false
  | n + 1, .lst ds => ds.all (fine n) && decide (ds.length ≤ 16000000)
  | n + 1, .tup ds => ds.all (fine n) && decide (ds.length ≤ 16000000)
  | _ + 1, .non => true
  | _ + 1, .bl _ => true
  | _ + 1, .int _ => true
  | _, _ => false
@[simp] theorem isi_list_non  : dIsi "list" [.non] = some (.bl false) := rfl
@[simp] theorem isi_tuple_non  : dIsi "tuple" [.non] = some (.bl false) := rfl
@[simp] theorem isi_int_non  : dIsi "int" [.non] = some (.bl false) := rfl
@[simp] theorem isi_bool_non  : dIsi "bool" [.non] = some (.bl false) := rfl
@[simp] theorem isi_list_tuple_non  : dIsi2 "list" "tuple" [.non] = some (.bl false) := rfl
@[simp] theorem isi_bool_str_non  : dIsi2 "bool" "str" [.non] = some (.bl false) := rfl
@[simp] theorem isn_non  : dIs .non .non = some (.bl true) := rfl
@[simp] theorem isi_list_bl {k : Bool} : dIsi "list" [(.bl k)] = some (.bl false) := rfl
@[simp] theorem isi_tuple_bl {k : Bool} : dIsi "tuple" [(.bl k)] = some (.bl false) := rfl
@[simp] theorem isi_int_bl {k : Bool} : dIsi "int" [(.bl k)] = some (.bl true) := rfl
@[simp] theorem isi_bool_bl {k : Bool} : dIsi "bool" [(.bl k)] = some (.bl true) := rfl
@[simp] theorem isi_list_tuple_bl {k : Bool} : dIsi2 "list" "tuple" [(.bl k)] = some (.bl false) := rfl
@[simp] theorem isi_bool_str_bl {k : Bool} : dIsi2 "bool" "str" [(.bl k)] = some (.bl true) := rfl
@[simp] theorem isn_bl {k : Bool} : dIs (.bl k) .non = some (.bl false) := rfl
@[simp] theorem isi_list_int {i : Int} : dIsi "list" [(.int i)] = some (.bl false) := rfl
@[simp] theorem isi_tuple_int {i : Int} : dIsi "tuple" [(.int i)] = some (.bl false) := rfl
@[simp] theorem isi_int_int {i : Int} : dIsi "int" [(.int i)] = some (.bl true) := rfl
@[simp] theorem isi_bool_int {i : Int} : dIsi "bool" [(.int i)] = some (.bl false) := rfl
@[simp] theorem isi_list_tuple_int {i : Int} : dIsi2 "list" "tuple" [(.int i)] = some (.bl false) := rfl
@[simp] theorem isi_bool_str_int {i : Int} : dIsi2 "bool" "str" [(.int i)] = some (.bl false) := rfl
@[simp] theorem isn_int {i : Int} : dIs (.int i) .non = some (.bl false) := rfl
@[simp] theorem isi_list_str {z : Str} : dIsi "list" [(.str z)] = some (.bl false) := rfl
@[simp] theorem isi_tuple_str {z : Str} : dIsi "tuple" [(.str z)] = some (.bl false) := rfl
@[simp] theorem isi_int_str {z : Str} : dIsi "int" [(.str z)] = some (.bl false) := rfl
@[simp] theorem isi_bool_str {z : Str} : dIsi "bool" [(.str z)] = some (.bl false) := rfl
@[simp] theorem isi_list_tuple_str {z : Str} : dIsi2 "list" "tuple" [(.str z)] = some (.bl false) := rfl
@[simp] theorem isi_bool_str_str {z : Str} : dIsi2 "bool" "str" [(.str z)] = some (.bl true) := rfl
@[simp] theorem isn_str {z : Str} : dIs (.str z) .non = some (.bl false) := rfl
@[simp] theorem isi_list_lst {xs : List D} : dIsi "list" [(.lst xs)] = some (.bl true) := rfl
@[simp] theorem isi_tuple_lst {xs : List D} : dIsi "tuple" [(.lst xs)] = some (.bl false) := rfl
@[simp] theorem isi_int_lst {xs : List D} : dIsi "int" [(.lst xs)] = some (.bl false) := rfl
@[simp] theorem isi_bool_lst {xs : List D} : dIsi "bool" [(.lst xs)] = some (.bl false) := rfl
@[simp] theorem isi_list_tuple_lst {xs : List D} : dIsi2 "list" "tuple" [(.lst xs)] = some (.bl true) := rfl
@[simp] theorem isi_bool_str_lst {xs : List D} : dIsi2 "bool" "str" [(.lst xs)] = some (.bl false) := rfl
@[simp] theorem isn_lst {xs : List D} : dIs (.lst xs) .non = some (.bl false) := rfl
@[simp] theorem isi_list_tup {xs : List D} : dIsi "list" [(.tup xs)] = some (.bl false) := rfl
@[simp] theorem isi_tuple_tup {xs : List D} : dIsi "tuple" [(.tup xs)] = some (.bl true) := rfl
@[simp] theorem isi_int_tup {xs : List D} : dIsi "int" [(.tup xs)] = some (.bl false) := rfl
@[simp] theorem isi_bool_tup {xs : List D} : dIsi "bool" [(.tup xs)] = some (.bl false) := rfl
@[simp] theorem isi_list_tuple_tup {xs : List D} : dIsi2 "list" "tuple" [(.tup xs)] = some (.bl true) := rfl
@[simp] theorem isi_bool_str_tup {xs : List D} : dIsi2 "bool" "str" [(.tup xs)] = some (.bl false) := rfl
@[simp] theorem isn_tup {xs : List D} : dIs (.tup xs) .non = some (.bl false) := rfl
@[simp] theorem asB_bl2 {k : Bool} : asB (.bl k) = some k := rfl
@[simp] theorem eq_bl {a b : Bool} : dEq (.bl a) (.bl b) = some (.bl (a == b)) := by cases a <;> cases b <;> rfl
@[simp] theorem ne_bl {a b : Bool} : dNe (.bl a) (.bl b) = some (.bl (a != b)) := by cases a <;> cases b <;> rfl
@[simp] theorem eq_int {a b : Int} : dEq (.int a) (.int b) = some (.bl (decide (a = b))) := by
  show (eqD (.int a) (.int b)).map D.bl = _
  have e : eqD (.int a) (.int b) = some (a == b) := rfl
  rw [e]; rfl
@[simp] theorem eq_non : dEq .non .non = some (.bl true) := rfl
theorem same_int {n : Nat} {i j : Int} : ff_same (n + 1) [.int i, .int j] = .ok (.bl (decide (i = j))) [none, none] := by
  show mkF _ _ _ _ = _
  simp [mkF, b_same, argS, outD, outE]
theorem same_bl {n : Nat} {i j : Bool} : ff_same (n + 1) [.bl i, .bl j] = .ok (.bl (decide (i = j))) [none, none] := by
  show mkF _ _ _ _ = _
  cases i <;> cases j <;> simp [mkF, b_same, argS, outD, outE]
theorem same_non {n : Nat} : ff_same (n + 1) [.non, .non] = .ok (.bl true) [none, none] := by
  show mkF _ _ _ _ = _
  simp [mkF, b_same, argS, outD, outE]
end Sm
set_option Elab.async false
set_option linter.all false
set_option maxRecDepth 100000
set_option maxHeartbeats 400000
/-! SmS: calls and comprehensions evaluated; same on equal data; lists. -/
namespace Sm
open PySem PySem.Spec PyProof.Rows L2
section
variable {τ S S0 : List Sl} {t : Sl} {fn : List D → RF} {a b c d : D} {i : Nat} {o : List (Option D)} {g : MG} {tt : M Bool} {m : M D} {vs : List Nat} {ds : List D} {p : D → Bool} {y : D → D} {mi : M (List D)}
@[simp] theorem call_v1 : callR [false] fn [.v a] τ = callB none (fn [a]) τ := rfl
@[simp] theorem call_v2 : callR [false, false] fn [.v a, .v b] τ = callB none (fn [a, b]) τ := rfl
@[simp] theorem call_v3 : callR [false, false, false] fn [.v a, .v b, .v c] τ = callB none (fn [a, b, c]) τ := rfl
theorem call_io {x : Sl} (h : τ[i]? = some x) (h2 : ownD (some x) = some d) : callR [true] fn [.io i] τ = callB (some (0, i)) (fn [d]) τ := by
  show (match ((ownD τ[i]?).bind fun d => some [d]) with | none => _ | some ds => callB (some (0, i)) (fn ds) τ) = _
  rw [h, h2]; rfl
theorem call_io_v {x : Sl} (h : τ[i]? = some x) (h2 : ownD (some x) = some d) : callR [true, false] fn [.io i, .v a] τ = callB (some (0, i)) (fn [d, a]) τ := by
  show (match ((ownD τ[i]?).bind fun d => some [d, a]) with | none => _ | some ds => callB (some (0, i)) (fn ds) τ) = _
  rw [h, h2]; rfl
@[simp] theorem callB_ok : callB none (.ok d o) τ = .ok d τ := rfl
@[simp] theorem callB_io {k : Nat} : callB (some (k, i)) (.ok d o) τ = .ok d (give τ i (o.getD k none)) := rfl
@[simp] theorem pick1 {x : Ar} : pick [0] [x] = [x] := rfl
@[simp] theorem pick2 {x y : Ar} : pick [0, 1] [x, y] = [x, y] := rfl
@[simp] theorem pick21 {x y : Ar} : pick [1, 0] [x, y] = [y, x] := rfl
@[simp] theorem pick3 {x y z : Ar} : pick [0, 1, 2] [x, y, z] = [x, y, z] := rfl
@[simp] theorem ownD_io {k : Nat} : ownD (some (.io k d)) = some d := rfl
@[simp] theorem ownD_ow : ownD (some (.ow d)) = some d := rfl
theorem lcGo_ok (h : ∀ d ∈ ds, ∃ τ1 τ2, g d S = some τ1 ∧ tt τ1 = .ok (p d) τ2 ∧ (p d = false → Sm.wipeS τ2 vs = S) ∧ (p d = true → ∃ τ3, m τ2 = .ok (y d) τ3 ∧ Sm.wipeS τ3 vs = S)) :
    mLcGo g tt m vs ds S = .ok ((ds.filter p).map y) S := by
  induction ds with
  | nil => rfl
  | cons x xs ih =>
    obtain ⟨τ1, τ2, e1, e2, h3, h4⟩ := h x List.mem_cons_self
    have ih' := ih fun d hd => h d (List.mem_cons_of_mem _ hd)
    unfold mLcGo
    rw [e1]
    show ((tt τ1).nox.bind _) = _
    rw [e2]
    show (if p x = true then _ else _) = _
    by_cases hp : p x = true
    · obtain ⟨τ3, e3, e4⟩ := h4 hp
      rw [if_pos hp, e3]
      show ((mLcGo g tt m vs xs (Sm.wipeS τ3 vs)).bind _) = _
      rw [e4, ih', List.filter_cons_of_pos hp]
      rfl
    · have hp' : p x = false := by simpa using hp
      rw [if_neg hp, h3 hp', ih', List.filter_cons_of_neg hp]
theorem lc_ok (h1 : mi S0 = .ok ds S) (hz : ds.length ≤ 16000000) (hu : allUn S vs = true)
    (h : ∀ d ∈ ds, ∃ τ1 τ2, g d S = some τ1 ∧ tt τ1 = .ok (p d) τ2 ∧ (p d = false → Sm.wipeS τ2 vs = S) ∧ (p d = true → ∃ τ3, m τ2 = .ok (y d) τ3 ∧ Sm.wipeS τ3 vs = S)) :
    mLc mi g tt m vs S0 = .ok (.lst ((ds.filter p).map y)) S := by
  show (mi S0).bind _ = _
  rw [h1]
  show lcEnd g tt m vs ds S = _
  unfold lcEnd
  rw [if_pos ⟨hz, hu⟩, lcGo_ok h]
  rfl
/-- without a condition -/
theorem lc_map (h1 : mi S0 = .ok ds S) (hz : ds.length ≤ 16000000) (hu : allUn S vs = true)
    (h : ∀ d ∈ ds, ∃ τ1 τ2 τ3, g d S = some τ1 ∧ tt τ1 = .ok true τ2 ∧ m τ2 = .ok (y d) τ3 ∧ Sm.wipeS τ3 vs = S) :
    mLc mi g tt m vs S0 = .ok (.lst (ds.map y)) S := by
  have q := lc_ok (p := fun _ => true) (y := y) (m := m) h1 hz hu fun d hd => let ⟨τ1, τ2, τ3, e1, e2, e3, e4⟩ := h d hd; ⟨τ1, τ2, e1, e2, fun z => (by cases z), fun _ => ⟨τ3, e3, e4⟩⟩
  rw [q, List.filter_eq_self.mpr fun _ _ => rfl]
theorem zipD_self : ∀ xs : List D, zipD xs xs = xs.map fun x => .tup [x, x]
  | [] => rfl
  | x :: xs => by rw [zipD, zipD_self xs]; rfl
theorem bools_true : ∀ xs : List D, bools (xs.map fun _ => .bl true) = some (xs.map fun _ => true)
  | [] => rfl
  | x :: xs => by
    show (bools (xs.map fun _ => .bl true)).map (true :: ·) = _
    rw [bools_true xs]; rfl
theorem all_true : ∀ xs : List D, dAll [.lst (xs.map fun _ => .bl true)] = some (.bl true) := fun xs => by
  show (bools (xs.map fun _ => D.bl true)).map _ = _
  rw [bools_true xs]
  show some (D.bl _) = _
  congr 2
  rw [List.all_eq_true]
  intro x hx
  obtain ⟨_, _, rfl⟩ := List.mem_map.mp hx
  rfl
@[simp] theorem zip2_lst {xs ys : List D} : zip2 [.lst xs, .lst ys] = some (zipD xs ys) := rfl
@[simp] theorem zip2_tup {xs ys : List D} : zip2 [.tup xs, .tup ys] = some (zipD xs ys) := rfl
theorem same_seq {n : Nat} {xs : List D} {q : D} (hq : q = .lst xs ∨ q = .tup xs) (hz : xs.length ≤ 16000000) (h : ∀ x ∈ xs, ∃ o, ff_same n [x, x] = .ok (.bl true) o) : ∃ o, ff_same (n + 1) [q, q] = .ok (.bl true) o := by
  have e : mLc (mOns zip2 (mCons (mVar 0) (mCons (mVar 1) mNil))) (gT 2 (Sm.gCons (gN 3) (Sm.gCons (gN 4) Sm.gNil))) mYes (mCall [false, false] (ff_same n) 2 0 [0, 1] [] (aV (mVar 3) (aV (mVar 4) aNil)) mNil) [3, 4] [.fz q, .fz q, .un, .un, .un]
      = .ok (.lst (xs.map fun _ => .bl true)) [.fz q, .fz q, .un, .un, .un] := by
    have z : zip2 [q, q] = some (xs.map fun x => .tup [x, x]) := by
      rcases hq with rfl | rfl
      · rw [zip2_lst, zipD_self]
      · rw [zip2_tup, zipD_self]
    rw [lc_map (ds := xs.map fun x => .tup [x, x]) (S := [.fz q, .fz q, .un, .un, .un]) (y := fun _ => .bl true) (by simp [z]) (by rw [List.length_map]; exact hz) rfl fun d hd => ?_, List.map_map]
    · rfl
    · obtain ⟨x, hx, rfl⟩ := List.mem_map.mp hd
      obtain ⟨o, ho⟩ := h x hx
      exact ⟨_, _, [.fz q, .fz q, .un, .fz x, .fz x], by simp; rfl, rfl, by simp [ho], rfl⟩
  refine ⟨[none, none], ?_⟩
  show mkF _ _ _ _ = _
  have l : (xs.length : Int) = xs.length := rfl
  rcases hq with rfl | rfl
  · simp [mkF, b_same, argS, outD, outE, e, all_true]
  · simp [mkF, b_same, argS, outD, outE, e, all_true]
theorem same_fine : ∀ {n : Nat} {d : D}, fine n d = true → ∃ o, ff_same n [d, d] = .ok (.bl true) o
  | 0, _, h => by cases h
  | n + 1, .lst xs, h => by
    obtain ⟨h1, h2⟩ := Bool.and_eq_true_iff.mp h
    exact same_seq (.inl rfl) (of_decide_eq_true h2) fun x hx => same_fine (List.all_eq_true.mp h1 x hx)
  | n + 1, .tup xs, h => by
    obtain ⟨h1, h2⟩ := Bool.and_eq_true_iff.mp h
    exact same_seq (.inr rfl) (of_decide_eq_true h2) fun x hx => same_fine (List.all_eq_true.mp h1 x hx)
  | n + 1, .non, _ => ⟨_, same_non⟩
  | n + 1, .bl b, _ => ⟨_, by rw [same_bl, decide_eq_true rfl]⟩
  | n + 1, .int b, _ => ⟨_, by rw [same_int, decide_eq_true rfl]⟩
  | n + 1, .str _, h => by cases h
  | n + 1, .dct _ _, h => by cases h
  | n + 1, .set _, h => by cases h
  | n + 1, .obj _ _, h => by cases h
  | n + 1, .scr _, h => by cases h
end
end Sm
set_option Elab.async false
set_option linter.all false
set_option maxRecDepth 100000
set_option maxHeartbeats 400000
/-! SmT: loops by invariants; the cells of a script. -/
namespace Sm
open PySem PySem.Spec PyProof.Rows L2
section
variable {τ S S0 : List Sl} {t : Sl} {d : D} {i : Nat} {g : MG} {b : MS} {ds : List D} {ml mh : M (Option Int)}
theorem loop_inv (I : List Sl → Prop) (hs : ∀ d ∈ ds, ∀ S, I S → ∃ τ1 τ2, g d S = some τ1 ∧ b τ1 = .nx τ2 ∧ I τ2) : ∀ S, I S → ∃ S', mLoop g b ds S = .nx S' ∧ I S' := by
  induction ds with
  | nil => exact fun S h => ⟨S, rfl, h⟩
  | cons x xs ih =>
    intro S h
    obtain ⟨τ1, τ2, e1, e2, h2⟩ := hs x List.mem_cons_self S h
    obtain ⟨S', e3, h3⟩ := ih (fun d hd => hs d (List.mem_cons_of_mem _ hd)) τ2 h2
    refine ⟨S', ?_, h3⟩
    unfold mLoop
    rw [e1]
    show (match b τ1 with | .nx τ => mLoop g b xs τ | .ct τ => mLoop g b xs τ | .bk τ => .nx τ | r => r) = _
    rw [e2]
    exact e3
@[simp] theorem ev_slP : mSlP i ml mh (t :: τ) = match peek i (t :: τ) with | none => .fail | some _ => (ml (t :: τ)).bind fun l => fun τ => (mh τ).bind fun h => fun τ => Res.lift ((peek i τ).bind (dSl l h)) τ := rfl
@[simp] theorem sl_scr {xs : List D} {lo hi : Option Int} : dSl lo hi (.scr xs) = some (.lst (cutD xs lo hi)) := rfl
@[simp] theorem sl_lst {xs : List D} {lo hi : Option Int} : dSl lo hi (.lst xs) = some (.lst (cutD xs lo hi)) := rfl
@[simp] theorem nList_lst {xs : List D} : nList [.lst xs] = some xs := rfl
@[simp] theorem asI_int2 {a : Int} : asI (.int a) = some a := rfl
@[simp] theorem tru_lst {xs : List D} : truD (.lst xs) = some (!xs.isEmpty) := rfl
@[simp] theorem enum2_lst {xs : List D} : enum2 [.lst xs] = some (enumD 0 xs) := rfl
theorem cutD_map {ns : List Int} {lo hi : Option Int} : cutD (ns.map .int) lo hi = ((ns.drop (HT.sIx ns.length 0 lo)).take (HT.sIx ns.length ns.length hi - HT.sIx ns.length 0 lo)).map .int := by
  unfold cutD
  rw [List.length_map, List.map_take, List.map_drop]
theorem enumD_mem {d : D} : ∀ {xs : List Int} {k : Int}, d ∈ enumD k (xs.map .int) → ∃ j v : Int, d = .tup [.int j, .int v] ∧ k ≤ j ∧ j < k + xs.length
  | [], k, h => by cases h
  | x :: xs, k, h => by
    rcases List.mem_cons.mp h with rfl | h
    · exact ⟨k, x, rfl, Int.le_refl _, by rw [List.length_cons]; omega⟩
    · obtain ⟨j, v, e, h1, h2⟩ := enumD_mem (xs := xs) (k := k + 1) h
      exact ⟨j, v, e, by omega, by rw [List.length_cons]; omega⟩
def CellI (ns : List Int) (top n : Nat) (S : List Sl) : Prop := ∃ (cs : List Int) (x3 x4 x5 : Sl), S = [.fz (.scr (ns.map .int)), .fz (.int (top : Nat)), .ow (.lst (cs.map .int)), x3, x4, x5] ∧ cs.length = n ∧ x3.free = true ∧ x4.free = true ∧ x5.free = true
theorem cells_ok {top : Nat} (ht : 1 ≤ top) (ht2 : top < 60) (ns : List Int) (hn : ns.length ≤ 63) : ∃ cs o, f_cells [.scr (ns.map .int), .int (top : Nat)] = .ok (.lst (cs.map .int)) o ∧ cs ≠ [] ∧ cs.length ≤ top := by
  have ef : cutD (ns.map .int) none (some ((top : Nat) : Int)) = (ns.take top).map .int := by
    rw [cutD_map, HT.sIx_none, HT.sIx_nat, List.drop_zero, Nat.sub_zero]
    congr 1
    rw [← List.take_eq_take_min]
  obtain ⟨es, eb, hl, hne⟩ : ∃ es : List Int, cutD (ns.map .int) (some ((top : Nat) : Int)) (some 63) = es.map .int ∧ es.length ≤ 63 ∧ (es ≠ [] → top < ns.length) := by
    refine ⟨_, cutD_map, ?_, fun h => ?_⟩
    · rw [List.length_take, List.length_drop]; omega
    · rw [HT.sIx_nat] at h
      by_cases q : top < ns.length
      · exact q
      · exfalso
        apply h
        rw [show min top ns.length = ns.length by omega, List.drop_length, List.take_nil]
  generalize hc : (if (ns.take top).isEmpty = true then [0] else ns.take top) = c0
  have c1 : c0 ≠ [] ∧ c0.length ≤ top ∧ (top < ns.length → c0.length = top) := by
    cases hq : ns.take top with
    | nil =>
      rw [hq] at hc
      have : c0 = [0] := hc.symm
      subst this
      refine ⟨by simp, by simpa using ht, fun h => ?_⟩
      have := congrArg List.length hq
      rw [List.length_take, List.length_nil] at this
      omega
    | cons x r =>
      rw [hq] at hc
      have e : c0 = ns.take top := by rw [hq]; exact hc.symm
      subst e
      refine ⟨by rw [hq]; simp, by rw [List.length_take]; omega, fun h => by rw [List.length_take]; omega⟩
  have first : ∀ x : List Sl, (mSetO 2 (mOrV (mFnF nList (mCons (mSlP 0 oNone (oSome (mVar 1))) mNil)) (mLst (mCons (mC (.int 0)) mNil)))) [.fz (.scr (ns.map .int)), .fz (.int (top : Nat)), .un, .un, .un, .un]
      = .nx [.fz (.scr (ns.map .int)), .fz (.int (top : Nat)), .ow (.lst (c0.map .int)), .un, .un, .un] := fun _ => by
    cases hq : ns.take top with
    | nil =>
      rw [hq] at hc
      have : c0 = [0] := hc.symm
      subst this
      simp [ef, hq, small]
    | cons x r =>
      rw [hq] at hc
      have e : c0 = x :: r := hc.symm
      subst e
      simp [ef, hq, small]
  have loop : ∃ (S' : List Sl) (cs : List Int), mLoop (gT 2 (Sm.gCons (gN 3) (Sm.gCons (gN 4) Sm.gNil))) (mSeq (mSet 5 (mOp dMod (mFn dInt (mCons (mVar 3) mNil)) (mVar 1))) (mAsg (gIx 2 (mVar 5)) (mOp dAdd (mPk 2 dIx (mVar 5)) (mOp dMul (mVar 4) (mOp dAdd (mVar 3) (mC (.int 2)))))))
      (enumD 0 (es.map .int)) [.fz (.scr (ns.map .int)), .fz (.int (top : Nat)), .ow (.lst (c0.map .int)), .un, .un, .un] = .nx S' ∧ (∃ x3 x4 x5 : Sl, S' = [.fz (.scr (ns.map .int)), .fz (.int (top : Nat)), .ow (.lst (cs.map .int)), x3, x4, x5]) ∧ cs.length = c0.length := by
    have step : ∀ d ∈ enumD 0 (es.map .int), ∀ S, CellI ns top c0.length S → ∃ τ1 τ2, (gT 2 (Sm.gCons (gN 3) (Sm.gCons (gN 4) Sm.gNil))) d S = some τ1 ∧ (mSeq (mSet 5 (mOp dMod (mFn dInt (mCons (mVar 3) mNil)) (mVar 1))) (mAsg (gIx 2 (mVar 5)) (mOp dAdd (mPk 2 dIx (mVar 5)) (mOp dMul (mVar 4) (mOp dAdd (mVar 3) (mC (.int 2))))))) τ1 = .nx τ2 ∧ CellI ns top c0.length τ2 := by
      rintro d hd S ⟨cs, x3, x4, x5, hS, hcs, f3, f4, f5⟩
      subst hS
      obtain ⟨j, v, rfl, hj0, hj1⟩ := enumD_mem hd
      have big : top < ns.length := hne fun z => by subst z; cases hd
      have len : cs.length = top := by rw [hcs]; exact c1.2.2 big
      have tp : (0 : Int) < (top : Nat) := by omega
      obtain ⟨a, ha, ha2⟩ : ∃ a : Nat, j % (top : Nat) = (a : Nat) ∧ a < top := by
        have h1 := Int.emod_nonneg j (show ((top : Nat) : Int) ≠ 0 by omega)
        have h2 := Int.emod_lt_of_pos j tp
        exact ⟨(j % (top : Nat)).toNat, by omega, by omega⟩
      have at1 : L2.atI (cs.map D.int) ((a : Nat) : Int) = some (.int (cs[a]'(by omega))) := atI_nat (by rw [List.getElem?_map, List.getElem?_eq_getElem (by omega)]; rfl)
      have m1 : mulOk v (j + 2) = true := mulOk_r (by omega)
      have st : ∀ w : Int, fSet ((a : Nat) : Int) (.int w) (cs.map D.int) = some ((cs.set a w).map D.int) := fun w => by
        have e : ixN (cs.map D.int).length ((a : Nat) : Int) = some a := by
          unfold ixN
          rw [List.length_map, if_pos (by omega), if_pos (by omega)]; simp
        unfold fSet
        rw [e, List.map_set]; rfl
      have g1 : gT 2 (Sm.gCons (gN 3) (Sm.gCons (gN 4) Sm.gNil)) (.tup [.int j, .int v]) [.fz (.scr (ns.map .int)), .fz (.int (top : Nat)), .ow (.lst (cs.map .int)), x3, x4, x5] = some [.fz (.scr (ns.map .int)), .fz (.int (top : Nat)), .ow (.lst (cs.map .int)), .fz (.int j), .fz (.int v), x5] := by
        simp [f3, f4]
      refine ⟨_, [.fz (.scr (ns.map .int)), .fz (.int (top : Nat)), .ow (.lst ((cs.set a ((cs[a]'(by omega)) + v * (j + 2))).map .int)), .fz (.int j), .fz (.int v), .fz (.int (a : Nat))], g1, ?_, cs.set a ((cs[a]'(by omega)) + v * (j + 2)), _, _, _, rfl, by rw [List.length_set]; exact hcs, rfl, rfl, rfl⟩
      have tp' : 0 < top := ht
      simp [f5, tp', ha, at1, m1, st]
    obtain ⟨S', e, cs, x3, x4, x5, h1, h2, _⟩ := loop_inv (CellI ns top c0.length) step _ ⟨c0, .un, .un, .un, rfl, rfl, rfl, rfl, rfl⟩
    exact ⟨S', cs, e, ⟨x3, x4, x5, h1⟩, h2⟩
  obtain ⟨S', cs, e2, ⟨x3, x4, x5, rfl⟩, hcs⟩ := loop
  refine ⟨cs, outD 0 [false, false] [.fz (.scr (ns.map .int)), .fz (.int (top : Nat)), .fz (.lst (cs.map .int)), x3, x4, x5], ?_, fun z => ?_, by rw [hcs]; exact c1.2.1⟩
  · have f1 := first []
    simp [f_cells, mkF, b_cells, argS, -ev_setO, f1, eb, e2]
  · subst z
    exact c1.1 (List.length_eq_zero_iff.mp hcs.symm)
end
end Sm
set_option Elab.async false
set_option linter.all false
set_option maxRecDepth 100000
set_option maxHeartbeats 400000
/-! SmU: draws from a box; a drawn STAY. -/
namespace Sm
open PySem PySem.Spec PyProof.Rows L2
def b_stay : MS := (mSeq (mSet 2 (mLst (mCons (mCall [true, false] f_take 2 0 [0, 1] [] (aIo 0 (aV (mVar 1) aNil)) mNil) (mCons (mCall [true, false] f_take 2 0 [0, 1] [] (aIo 0 (aV (mVar 1) aNil)) mNil) mNil))))
    (mRet (mTup (mCons (mFn dMin1 (mCons (mVar 2) mNil)) (mCons (mFn dMax1 (mCons (mVar 2) mNil)) mNil)))))
def f_stay : List D → RF := mkF 3 [true, false] b_stay
theorem give_io {τ : List Sl} {i k : Nat} {d e : D} (h : τ[i]? = some (.io k e)) : give τ i (some d) = τ.set i (.io k d) := by unfold give; rw [h]
theorem give_ow {τ : List Sl} {i : Nat} {d e : D} (h : τ[i]? = some (.ow e)) : give τ i (some d) = τ.set i (.ow d) := by unfold give; rw [h]
/-- a draw from a box in a slot -/
theorem draw_ok {k n : Int} {d : D} {τ : List Sl} {i j : Nat} {mn : M D} (h : Box k d) (hk : 1 ≤ k) (hn : 0 < n) (hn2 : n < 2 ^ 62) (hi : τ[i]? = some (.io j d) ∨ τ[i]? = some (.ow d)) (hm : mn τ = .ok (.int n) τ) :
    ∃ r d', 0 ≤ r ∧ r < n ∧ Box (k - 1) d' ∧ mCall [true, false] f_take 2 0 [0, 1] [] (aIo i (aV mn aNil)) mNil τ = .ok (.int r) (give τ i (some d')) := by
  obtain ⟨r, d', e, h1, h2, h3⟩ := take_ok h hk hn hn2
  refine ⟨r, d', h1, h2, h3, ?_⟩
  have e1 : ownD τ[i]? = some d := by rcases hi with q | q <;> rw [q] <;> rfl
  have c : callR [true, false] f_take [.io i, .v (.int n)] τ = .ok (.int r) (give τ i (some d')) := by
    rcases hi with q | q
    · rw [call_io_v q rfl, e]; rfl
    · rw [call_io_v q rfl, e]; rfl
  have s : aIo i (aV mn aNil) τ = .ok [.io i, .v (.int n)] τ := by
    unfold aIo
    rw [e1]
    show ((mn τ).bind _).bind _ = _
    rw [hm]; rfl
  show ((aIo i (aV mn aNil) τ).bind _) = _
  rw [s]
  exact c
theorem stay_ok {k n : Int} {d : D} (h : Box k d) (hk : 2 ≤ k) (hn : 0 < n) (hn2 : n < 2 ^ 62) : ∃ a b d', f_stay [d, .int n] = .ok (.tup [.int a, .int b]) [some d', none] ∧ 0 ≤ a ∧ a ≤ b ∧ b < n ∧ Box (k - 2) d' := by
  obtain ⟨r1, d1, p1, p2, h1, e1⟩ := draw_ok (τ := [.io 0 d, .fz (.int n), .un]) (i := 0) (j := 0) (mn := mVar 1) h (by omega) hn hn2 (.inl rfl) rfl
  obtain ⟨r2, d2, q1, q2, h2, e2⟩ := draw_ok (τ := [.io 0 d1, .fz (.int n), .un]) (i := 0) (j := 0) (mn := mVar 1) h1 (by omega) hn hn2 (.inl rfl) rfl
  have g1 : give [.io 0 d, .fz (.int n), .un] 0 (some d1) = [.io 0 d1, .fz (.int n), .un] := rfl
  have g2 : give [.io 0 d1, .fz (.int n), .un] 0 (some d2) = [.io 0 d2, .fz (.int n), .un] := rfl
  rw [g1] at e1
  rw [g2] at e2
  have mn : dMin1 [.lst [.int r1, .int r2]] = some (.int (if r2 < r1 then r2 else r1)) := rfl
  have mx : dMax1 [.lst [.int r1, .int r2]] = some (.int (if r2 > r1 then r2 else r1)) := rfl
  refine ⟨if r2 < r1 then r2 else r1, if r2 > r1 then r2 else r1, d2, ?_, by split <;> omega, by split <;> split <;> omega, by split <;> omega, h2.le (by omega)⟩
  simp [f_stay, mkF, b_stay, argS, -ev_call, e1, e2, small, mn, mx, outD, outE]
end Sm
set_option Elab.async false
set_option linter.all false
set_option maxRecDepth 100000
set_option maxHeartbeats 400000
/-! SmV: comprehensions over told lists. -/
namespace Sm
open PySem PySem.Spec PyProof.Rows L2
section
variable {S S0 : List Sl} {g : MG} {tt : M Bool} {m : M D} {vs : List Nat} {mi : M (List D)}
theorem lcA_go {α : Type} {f : α → D} {p : α → Bool} {y : α → D} : ∀ {xs : List α}, (∀ x ∈ xs, ∃ τ1 τ2, g (f x) S = some τ1 ∧ tt τ1 = .ok (p x) τ2 ∧ (p x = false → Sm.wipeS τ2 vs = S) ∧ (p x = true → ∃ τ3, m τ2 = .ok (y x) τ3 ∧ Sm.wipeS τ3 vs = S)) →
    mLcGo g tt m vs (xs.map f) S = .ok ((xs.filter p).map y) S
  | [], _ => rfl
  | x :: xs, h => by
    obtain ⟨τ1, τ2, e1, e2, h3, h4⟩ := h x List.mem_cons_self
    have ih' := lcA_go (xs := xs) fun d hd => h d (List.mem_cons_of_mem _ hd)
    rw [List.map_cons]
    unfold mLcGo
    rw [e1]
    show ((tt τ1).nox.bind _) = _
    rw [e2]
    show (if p x = true then _ else _) = _
    by_cases hp : p x = true
    · obtain ⟨τ3, e3, e4⟩ := h4 hp
      rw [if_pos hp, e3]
      show ((mLcGo g tt m vs (xs.map f) (Sm.wipeS τ3 vs)).bind _) = _
      rw [e4, ih', List.filter_cons_of_pos hp]
      rfl
    · have hp' : p x = false := by simpa using hp
      rw [if_neg hp, h3 hp', ih', List.filter_cons_of_neg hp]
theorem lcA_ok {α : Type} {f : α → D} (p : α → Bool) (y : α → D) {xs : List α} (h1 : mi S0 = .ok (xs.map f) S) (hz : xs.length ≤ 16000000) (hu : allUn S vs = true)
    (h : ∀ x ∈ xs, ∃ τ1 τ2, g (f x) S = some τ1 ∧ tt τ1 = .ok (p x) τ2 ∧ (p x = false → Sm.wipeS τ2 vs = S) ∧ (p x = true → ∃ τ3, m τ2 = .ok (y x) τ3 ∧ Sm.wipeS τ3 vs = S)) :
    mLc mi g tt m vs S0 = .ok (.lst ((xs.filter p).map y)) S := by
  show (mi S0).bind _ = _
  rw [h1]
  show lcEnd g tt m vs (xs.map f) S = _
  unfold lcEnd
  rw [if_pos ⟨by rw [List.length_map]; exact hz, hu⟩, lcA_go h]
  rfl
theorem lcA_map {α : Type} {f : α → D} (y : α → D) {xs : List α} (h1 : mi S0 = .ok (xs.map f) S) (hz : xs.length ≤ 16000000) (hu : allUn S vs = true)
    (h : ∀ x ∈ xs, ∃ τ1 τ2 τ3, g (f x) S = some τ1 ∧ tt τ1 = .ok true τ2 ∧ m τ2 = .ok (y x) τ3 ∧ Sm.wipeS τ3 vs = S) :
    mLc mi g tt m vs S0 = .ok (.lst (xs.map y)) S := by
  have q := lcA_ok (fun _ => true) y (m := m) h1 hz hu fun d hd => let ⟨τ1, τ2, τ3, e1, e2, e3, e4⟩ := h d hd; ⟨τ1, τ2, e1, e2, fun z => (by cases z), fun _ => ⟨τ3, e3, e4⟩⟩
  rw [q, List.filter_eq_self.mpr fun _ _ => rfl]
theorem bools_of {α : Type} {y : α → Bool} : ∀ xs : List α, bools (xs.map fun x => .bl (y x)) = some (xs.map y)
  | [] => rfl
  | x :: xs => by
    show (bools (xs.map fun x => .bl (y x))).map (y x :: ·) = _
    rw [bools_of xs]; rfl
theorem any_of {α : Type} {y : α → Bool} (xs : List α) : dAny [.lst (xs.map fun x => .bl (y x))] = some (.bl (xs.any y)) := by
  show (bools (xs.map fun x => D.bl (y x))).map _ = _
  rw [bools_of xs]
  show some (D.bl _) = _
  rw [List.any_map]; rfl
theorem all_of {α : Type} {y : α → Bool} (xs : List α) : dAll [.lst (xs.map fun x => .bl (y x))] = some (.bl (xs.all y)) := by
  show (bools (xs.map fun x => D.bl (y x))).map _ = _
  rw [bools_of xs]
  show some (D.bl _) = _
  rw [List.all_map]; rfl
@[simp] theorem asS_lst2 {xs : List D} : asS (.lst xs) = some xs := rfl
@[simp] theorem asS_tup2 {xs : List D} : asS (.tup xs) = some xs := rfl
end
end Sm
set_option Elab.async false
set_option linter.all false
set_option maxRecDepth 100000
set_option maxHeartbeats 400000
/-! SmW: == and in over lists of numbers. -/
namespace Sm
open PySem PySem.Spec PyProof.Rows L2
theorem pys_ints : ∀ xs : List Int, D.pys (xs.map .int) = some (xs.map PyData.int)
  | [] => rfl
  | x :: xs => by
    show (D.pys (xs.map .int)).map (PyData.int x :: ·) = _
    rw [pys_ints xs]; rfl
theorem canLay_ints : ∀ xs : List Int, PyData.canLayAll0 (xs.map PyData.int) = true
  | [] => rfl
  | x :: xs => by
    show (PyData.canLay0 (.int x) && PyData.canLayAll0 (xs.map PyData.int)) = true
    rw [canLay_ints xs]; rfl
theorem depth_ints : ∀ xs : List Int, PyData.depthAll (xs.map PyData.int) = 0
  | [] => rfl
  | x :: xs => by
    show max (PyData.depth (.int x)) (PyData.depthAll (xs.map PyData.int)) = 0
    rw [depth_ints xs]; rfl
theorem shaped_ints (xs : List Int) : SeqAt.shaped (.list (xs.map PyData.int)) = true := by
  show (PyData.canLayAll0 (xs.map PyData.int) && decide (PyData.depthAll (xs.map PyData.int) + 1 ≤ 64)) = true
  rw [canLay_ints, depth_ints]; rfl
theorem eqv_ints : ∀ xs ys : List Int, PyData.eqvAll (xs.map .int) (ys.map .int) = decide (xs = ys)
  | [], [] => rfl
  | [], y :: ys => rfl
  | x :: xs, [] => rfl
  | x :: xs, y :: ys => by
    show ((x == y) && PyData.eqvAll (xs.map .int) (ys.map .int)) = _
    rw [eqv_ints xs ys]
    by_cases h : x = y
    · subst h; simp
    · simp [h]
theorem eqD_ints (xs ys : List Int) : eqD (.lst (xs.map .int)) (.lst (ys.map .int)) = some (decide (xs = ys)) := by
  show (match ((D.pys (xs.map .int)).map PyData.list), ((D.pys (ys.map .int)).map PyData.list) with | some p, some q => _ | _, _ => none) = _
  rw [pys_ints, pys_ints]
  show (if SeqAt.shaped (.list (xs.map PyData.int)) = true ∧ SeqAt.shaped (.list (ys.map PyData.int)) = true then some (PyData.eqvAll (xs.map .int) (ys.map .int)) else none) = _
  rw [if_pos ⟨shaped_ints xs, shaped_ints ys⟩, eqv_ints]
@[simp] theorem eq_ints {xs ys : List Int} : dEq (.lst (xs.map .int)) (.lst (ys.map .int)) = some (.bl (decide (xs = ys))) := by unfold dEq; rw [eqD_ints]; rfl
@[simp] theorem ne_ints {xs ys : List Int} : dNe (.lst (xs.map .int)) (.lst (ys.map .int)) = some (.bl (!decide (xs = ys))) := by unfold dNe; rw [eqD_ints]; rfl
@[simp] theorem eq_nil {xs : List Int} : dEq (.lst (xs.map .int)) (.lst []) = some (.bl (decide (xs = []))) := eq_ints (ys := [])
@[simp] theorem ne_nil {xs : List Int} : dNe (.lst (xs.map .int)) (.lst []) = some (.bl (!decide (xs = []))) := ne_ints (ys := [])
theorem inD_ints (i : Int) (xs : List Int) : inD (.int i) (.lst (xs.map .int)) = some (decide (i ∈ xs)) := by
  show inDs (some (.int i)) (D.pys (xs.map .int)) = _
  rw [pys_ints]
  show (if SeqAt.shaped (.int i) = true ∧ SeqAt.shaped (.list (xs.map PyData.int)) = true then some ((xs.map PyData.int).any fun z => PyData.eqv z (.int i)) else none) = _
  rw [if_pos ⟨rfl, shaped_ints xs⟩]
  congr 1
  rw [List.any_map, Bool.eq_iff_iff, List.any_eq_true, decide_eq_true_iff]
  constructor
  · rintro ⟨x, hx, e⟩
    have e : (x == i) = true := e
    rw [← beq_iff_eq.mp e]; exact hx
  · exact fun h => ⟨i, h, show (i == i) = true from beq_self_eq_true i⟩
@[simp] theorem in_ints {i : Int} {xs : List Int} : dIn (.int i) (.lst (xs.map .int)) = some (.bl (decide (i ∈ xs))) := by unfold dIn; rw [inD_ints]; rfl
@[simp] theorem notIn_ints {i : Int} {xs : List Int} : dNotIn (.int i) (.lst (xs.map .int)) = some (.bl (!decide (i ∈ xs))) := by unfold dNotIn; rw [inD_ints]; rfl
end Sm
set_option Elab.async false
set_option linter.all false
set_option maxRecDepth 100000
set_option maxHeartbeats 400000
/-! SmX: evaluation under a binder; ways of an if merged, or distributed. -/
namespace Sm
open PySem PySem.Spec PyProof.Rows L2
section
variable {α β : Type} {c : Prop} [Decidable c] {a b : α} {τ S : List Sl} {x y : D}
@[simp] theorem mg_ok : (if c then Res.ok a τ else Res.ok b τ) = Res.ok (if c then a else b) τ := by split <;> rfl
@[simp] theorem mg_some : (if c then some a else some b) = some (if c then a else b) := by split <;> rfl
@[simp] theorem mg_bl {p q : Bool} : (if c then D.bl p else D.bl q) = D.bl (if c then p else q) := by split <;> rfl
@[simp] theorem mg_int {p q : Int} : (if c then D.int p else D.int q) = D.int (if c then p else q) := by split <;> rfl
@[simp] theorem mg_tup {p q : List D} : (if c then D.tup p else D.tup q) = D.tup (if c then p else q) := by split <;> rfl
@[simp] theorem mg_lst {p q : List D} : (if c then D.lst p else D.lst q) = D.lst (if c then p else q) := by split <;> rfl
@[simp] theorem mg_rt : (if c then SR.rt x τ else SR.rt y τ) = SR.rt (if c then x else y) τ := by split <;> rfl
@[simp] theorem mg_fin {o : List (Option D)} : (if c then RF.ok x o else RF.ok y o) = RF.ok (if c then x else y) o := by split <;> rfl
@[simp] theorem di_bind {r s : Res α} {f : α → M β} : (if c then r else s).bind f = if c then r.bind f else s.bind f := by split <;> rfl
@[simp] theorem di_st {r s : Res α} {f : α → MS} : (if c then r else s).st f = if c then r.st f else s.st f := by split <;> rfl
@[simp] theorem di_nox {r s : Res α} : (if c then r else s).nox = if c then r.nox else s.nox := by split <;> rfl
@[simp] theorem di_lift {r s : Option α} : Res.lift (if c then r else s) τ = if c then Res.lift r τ else Res.lift s τ := by split <;> rfl
@[simp] theorem di_then {r s : SR} {f : MS} : (if c then r else s).then f = if c then r.then f else s.then f := by split <;> rfl
@[simp] theorem di_obind {r s : Option α} {f : α → Option β} : (if c then r else s).bind f = if c then r.bind f else s.bind f := by split <;> rfl
@[simp] theorem di_omap {r s : Option α} {f : α → β} : (if c then r else s).map f = if c then r.map f else s.map f := by split <;> rfl
def fin (io : List Bool) : SR → RF
  | .nx τ => .ok .non (outD 0 io τ)
  | .rt d τ => .ok d (outD 0 io τ)
  | .ro d _ => .own d
  | .exc c xs _ => .exc c xs
  | _ => .fail
theorem mkF_fin {n : Nat} {io : List Bool} {b : MS} {ds : List D} : mkF n io b ds = if ds.length = io.length then fin io (b (argS 0 io ds ++ List.replicate (n - io.length) .un)) else .fail := by
  unfold mkF
  split
  · generalize b (argS 0 io ds ++ List.replicate (n - io.length) .un) = r
    cases r <;> rfl
  · rfl
@[simp] theorem fin_nx {io : List Bool} : fin io (.nx τ) = .ok .non (outD 0 io τ) := rfl
@[simp] theorem fin_rt {io : List Bool} : fin io (.rt x τ) = .ok x (outD 0 io τ) := rfl
@[simp] theorem fin_ro {io : List Bool} : fin io (.ro x τ) = .own x := rfl
@[simp] theorem fin_exc {io : List Bool} {k : Nat} {xs : List D} : fin io (.exc k xs τ) = .exc k xs := rfl
@[simp] theorem fin_fail {io : List Bool} : fin io .fail = .fail := rfl
@[simp] theorem di_fin {io : List Bool} {r s : SR} : fin io (if c then r else s) = if c then fin io r else fin io s := by split <;> rfl
@[simp] theorem di_callB {p : Option (Nat × Nat)} {r s : RF} : callB p (if c then r else s) τ = if c then callB p r τ else callB p s τ := by split <;> rfl
/-! ### comprehensions -/
def optR (o : Option (List Sl)) : Res Unit :=
  match o with
  | some τ => .ok () τ
  | none => .fail
@[simp] theorem optR_some : optR (some τ) = .ok () τ := rfl
@[simp] theorem optR_none : optR none = .fail := rfl
@[simp] theorem di_optR {r s : Option (List Sl)} : optR (if c then r else s) = if c then optR r else optR s := by split <;> rfl
def lcOne (g : MG) (tt : M Bool) (m : M D) (vs : List Nat) (d : D) : M (Option D) := fun S =>
  (optR (g d S)).bind fun _ => fun τ => (tt τ).bind fun k => fun τ => if k = true then (m τ).bind fun y => fun τ => .ok (some y) (Sm.wipeS τ vs) else .ok none (Sm.wipeS τ vs)
@[simp] theorem ev_lcOne {g : MG} {tt : M Bool} {m : M D} {vs : List Nat} {d : D} {t : Sl} {τ : List Sl} : lcOne g tt m vs d (t :: τ) =
  (optR (g d (t :: τ))).bind fun _ => fun τ => (tt τ).bind fun k => fun τ => if k = true then (m τ).bind fun y => fun τ => .ok (some y) (Sm.wipeS τ vs) else .ok none (Sm.wipeS τ vs) := rfl
theorem lcOne_go {g : MG} {tt : M Bool} {m : M D} {vs : List Nat} {S : List Sl} {f : α → D} {r : α → Option D} : ∀ {xs : List α}, (∀ x ∈ xs, lcOne g tt m vs (f x) S = .ok (r x) S) → mLcGo g tt m vs (xs.map f) S = .ok (xs.filterMap r) S
  | [], _ => rfl
  | x :: xs, h => by
    have ih := lcOne_go (xs := xs) fun z hz => h z (List.mem_cons_of_mem _ hz)
    have h1 := h x List.mem_cons_self
    unfold lcOne at h1
    rw [List.map_cons]
    unfold mLcGo
    rw [List.filterMap_cons]
    cases hg : g (f x) S with
    | none => rw [hg] at h1; cases h1
    | some τ1 =>
      rw [hg] at h1
      replace h1 : ((tt τ1).bind fun k => fun τ => if k = true then (m τ).bind fun y => fun τ => .ok (some y) (Sm.wipeS τ vs) else .ok none (Sm.wipeS τ vs)) = _ := h1
      show ((tt τ1).nox.bind _) = _
      cases ht : tt τ1 with
      | fail => rw [ht] at h1; cases h1
      | exc _ _ _ => rw [ht] at h1; cases h1
      | ok k τ2 =>
        rw [ht] at h1
        replace h1 : (if k = true then (m τ2).bind fun y => fun τ => .ok (some y) (Sm.wipeS τ vs) else .ok none (Sm.wipeS τ2 vs)) = Res.ok (r x) S := h1
        show (if k = true then (m τ2).nox.bind _ else mLcGo g tt m vs (xs.map f) (Sm.wipeS τ2 vs)) = _
        cases k with
        | false =>
          rw [if_neg (by decide)] at h1 ⊢
          injection h1 with e1 e2
          rw [e2, ih, ← e1]
        | true =>
          rw [if_pos rfl] at h1 ⊢
          cases hm : m τ2 with
          | fail => rw [hm] at h1; cases h1
          | exc _ _ _ => rw [hm] at h1; cases h1
          | ok y τ3 =>
            rw [hm] at h1
            replace h1 : Res.ok (some y) (Sm.wipeS τ3 vs) = Res.ok (r x) S := h1
            injection h1 with e1 e2
            show ((mLcGo g tt m vs (xs.map f) (Sm.wipeS τ3 vs)).bind _) = _
            rw [e2, ih, ← e1]
            rfl
/-- the way that is left where no rule is at hand -/
def lcEnd' (g : MG) (tt : M Bool) (m : M D) (vs : List Nat) (ds : List D) : M D := lcEnd g tt m vs ds
open Classical in
noncomputable def lcK (h : α → Res (Option D)) (xs : List α) (S : List Sl) (alt : Res D) : Res D :=
  if ∃ r : α → Option D, ∀ x ∈ xs, h x = .ok (r x) S then .ok (.lst (xs.filterMap fun x => match h x with | .ok o _ => o | _ => none)) S else alt
theorem lcK_of {h : α → Res (Option D)} {xs : List α} {S : List Sl} {alt : Res D} (r : α → Option D) (e : ∀ x ∈ xs, h x = .ok (r x) S) : lcK h xs S alt = .ok (.lst (xs.filterMap r)) S := by
  unfold lcK
  rw [if_pos ⟨r, e⟩]
  congr 2
  induction xs with
  | nil => rfl
  | cons x xs ih =>
    rw [List.filterMap_cons, List.filterMap_cons, e x List.mem_cons_self, ih fun z hz => e z (List.mem_cons_of_mem _ hz)]
@[simp] theorem lcK_ok {r : α → Option D} {xs : List α} {S : List Sl} {alt : Res D} : lcK (fun x => Res.ok (r x) S) xs S alt = .ok (.lst (xs.filterMap r)) S := lcK_of r fun _ _ => rfl
theorem ev_lcEnd {g : MG} {tt : M Bool} {m : M D} {vs : List Nat} {f : α → D} {xs : List α} {S : List Sl} (hz : xs.length ≤ 16000000) (hu : allUn S vs = true) :
    lcEnd g tt m vs (xs.map f) S = lcK (fun x => lcOne g tt m vs (f x) S) xs S (lcEnd' g tt m vs (xs.map f) S) := by
  by_cases h : ∃ r : α → Option D, ∀ x ∈ xs, lcOne g tt m vs (f x) S = .ok (r x) S
  · obtain ⟨r, e⟩ := h
    rw [lcK_of r e]
    unfold lcEnd
    rw [if_pos ⟨by rw [List.length_map]; exact hz, hu⟩, lcOne_go e]
    rfl
  · unfold lcK
    rw [if_neg h]
    rfl
@[simp] theorem ev_lc {mi : M (List D)} {g : MG} {tt : M Bool} {m : M D} {vs : List Nat} {t : Sl} {τ : List Sl} : mLc mi g tt m vs (t :: τ) = (mi (t :: τ)).bind fun ds => lcEnd g tt m vs ds := rfl
@[simp] theorem fm_some {xs : List α} {y : α → β} : (xs.filterMap fun x => some (y x)) = xs.map y := by
  induction xs with
  | nil => rfl
  | cons x xs ih => rw [List.filterMap_cons, ih]; rfl
@[simp] theorem fm_if {xs : List α} {y : α → β} {p : α → Prop} [DecidablePred p] : (xs.filterMap fun x => if p x then some (y x) else none) = (xs.filter fun x => decide (p x)).map y := by
  induction xs with
  | nil => rfl
  | cons x xs ih =>
    rw [List.filterMap_cons, ih]
    by_cases h : p x
    · rw [if_pos h, List.filter_cons_of_pos (by simpa using h)]; rfl
    · rw [if_neg h, List.filter_cons_of_neg (by simpa using h)]
@[simp] theorem fm_ifn {xs : List α} {y : α → β} {p : α → Prop} [DecidablePred p] : (xs.filterMap fun x => if p x then none else some (y x)) = (xs.filter fun x => decide (¬ p x)).map y := by
  induction xs with
  | nil => rfl
  | cons x xs ih =>
    rw [List.filterMap_cons, ih]
    by_cases h : p x
    · rw [if_pos h, List.filter_cons_of_neg (by simpa using h)]
    · rw [if_neg h, List.filter_cons_of_pos (by simpa using h)]; rfl
@[simp] theorem wipe0 {τ : List Sl} : Sm.wipeS τ [] = τ := rfl
@[simp] theorem wipe1 {τ : List Sl} {v : Nat} {vs : List Nat} : Sm.wipeS τ (v :: vs) = (Sm.wipeS τ vs).set v .un := rfl
theorem small_of {xs : List D} (h : xs.length ≤ 16000000) : small xs = some xs := if_pos h
def iota (n : Int) : List Int := (List.range n.toNat).map fun i : Nat => (i : Int)
theorem rng1_of {n : Int} (h : n < 16000000) (h2 : -16000000 < n) : rng1 [.int n] = some ((iota n).map .int) := by
  have e : ∀ (k : Nat) (lo : Int), upFrom lo k = ((List.range k).map fun i : Nat => lo + (i : Int)).map D.int := by
    intro k
    induction k with
    | zero => intro lo; rfl
    | succ k ih =>
      intro lo
      show D.int lo :: upFrom (lo + 1) k = _
      rw [ih, List.range_succ_eq_map, List.map_cons, List.map_cons, List.map_map]
      congr 1
      · rw [show lo + ((0 : Nat) : Int) = lo by omega]
      · rw [List.map_map, List.map_map]
        apply List.map_congr_left
        intro i _
        show D.int (lo + 1 + i) = D.int (lo + ((i + 1 : Nat) : Int))
        rw [show lo + 1 + (i : Int) = lo + ((i + 1 : Nat) : Int) by omega]
  show (if n < 16000000 ∧ n.natAbs < 2 ^ 60 then some (upFrom 0 n.toNat) else none) = _
  rw [if_pos ⟨h, by omega⟩, e]
  unfold iota
  congr 2
  apply List.map_congr_left
  intro i _
  omega
theorem mem_iota {n i : Int} : i ∈ iota n ↔ 0 ≤ i ∧ i < n := by
  unfold iota
  rw [List.mem_map]
  constructor
  · rintro ⟨k, hk, rfl⟩
    rw [List.mem_range] at hk
    omega
  · intro ⟨h1, h2⟩
    exact ⟨i.toNat, by rw [List.mem_range]; omega, by omega⟩
theorem iota_len {n : Int} : (iota n).length = n.toNat := by
  unfold iota
  rw [List.length_map, List.length_range]
end
end Sm
set_option Elab.async false
set_option linter.all false
set_option maxRecDepth 100000
set_option maxHeartbeats 400000
/-! SmY: comprehensions that change a slot as they go (a box that is drawn from), by an invariant. -/
namespace Sm
open PySem PySem.Spec PyProof.Rows L2
section
variable {α σ : Type} {g : MG} {tt : M Bool} {m : M D} {vs : List Nat} {f : α → D}
theorem lcOne_step {d : D} {S T : List Sl} {y : D} {ds : List D} (h : lcOne g tt m vs d S = .ok (some y) T) : mLcGo g tt m vs (d :: ds) S = (mLcGo g tt m vs ds T).bind fun ys => fun τ => .ok (y :: ys) τ := by
  unfold lcOne at h
  conv => lhs; unfold mLcGo
  cases hg : g d S with
  | none => rw [hg] at h; cases h
  | some τ1 =>
    rw [hg] at h
    replace h : ((tt τ1).bind fun k => fun τ => if k = true then (m τ).bind fun y => fun τ => .ok (some y) (Sm.wipeS τ vs) else .ok none (Sm.wipeS τ vs)) = _ := h
    show ((tt τ1).nox.bind _) = _
    cases ht : tt τ1 with
    | fail => rw [ht] at h; cases h
    | exc _ _ _ => rw [ht] at h; cases h
    | ok k τ2 =>
      rw [ht] at h
      replace h : (if k = true then (m τ2).bind fun y => fun τ => .ok (some y) (Sm.wipeS τ vs) else .ok none (Sm.wipeS τ2 vs)) = Res.ok (some y) T := h
      show (if k = true then (m τ2).nox.bind _ else mLcGo g tt m vs ds (Sm.wipeS τ2 vs)) = _
      cases k with
      | false => rw [if_neg (by decide)] at h; injection h with e1 e2; cases e1
      | true =>
        rw [if_pos rfl] at h ⊢
        cases hm : m τ2 with
        | fail => rw [hm] at h; cases h
        | exc _ _ _ => rw [hm] at h; cases h
        | ok z τ3 =>
          rw [hm] at h
          replace h : Res.ok (some z) (Sm.wipeS τ3 vs) = Res.ok (some y) T := h
          injection h with e1 e2
          injection e1 with e1
          show ((mLcGo g tt m vs ds (Sm.wipeS τ3 vs)).bind _) = _
          rw [e2, e1]
theorem lcI_go {S : σ → List Sl} {I : Nat → σ → Prop} {Y : D → Prop} : ∀ (xs : List α), (∀ x ∈ xs, ∀ n s, I (n + 1) s → ∃ y s', lcOne g tt m vs (f x) (S s) = .ok (some y) (S s') ∧ Y y ∧ I n s') →
    ∀ (k : Nat) s, I (k + xs.length) s → ∃ ys s', mLcGo g tt m vs (xs.map f) (S s) = .ok ys (S s') ∧ (∀ y ∈ ys, Y y) ∧ ys.length = xs.length ∧ I k s'
  | [], _, k, s, h => ⟨[], s, rfl, fun y hy => (by cases hy), rfl, h⟩
  | x :: xs, hs, k, s, h => by
    obtain ⟨y, s1, e1, y1, h1⟩ := hs x List.mem_cons_self (k + xs.length) s (by rw [List.length_cons] at h; exact h)
    obtain ⟨ys, s2, e2, y2, l2, h2⟩ := lcI_go xs (fun z hz => hs z (List.mem_cons_of_mem _ hz)) k s1 h1
    refine ⟨y :: ys, s2, ?_, fun z hz => ?_, by rw [List.length_cons, List.length_cons, l2], h2⟩
    · rw [List.map_cons, lcOne_step e1, e2]; rfl
    · rcases List.mem_cons.mp hz with rfl | hz
      · exact y1
      · exact y2 z hz
theorem lcI_end {S : σ → List Sl} {I : Nat → σ → Prop} {Y : D → Prop} (xs : List α) (hs : ∀ x ∈ xs, ∀ n s, I (n + 1) s → ∃ y s', lcOne g tt m vs (f x) (S s) = .ok (some y) (S s') ∧ Y y ∧ I n s')
    (k : Nat) (s : σ) (h : I (k + xs.length) s) (hz : xs.length ≤ 16000000) (hu : allUn (S s) vs = true) :
    ∃ ys s', lcEnd g tt m vs (xs.map f) (S s) = .ok (.lst ys) (S s') ∧ (∀ y ∈ ys, Y y) ∧ ys.length = xs.length ∧ I k s' := by
  obtain ⟨ys, s', e, h1, h2, h3⟩ := lcI_go xs hs k s h
  refine ⟨ys, s', ?_, h1, h2, h3⟩
  unfold lcEnd
  rw [if_pos ⟨by rw [List.length_map]; exact hz, hu⟩, e]
  rfl
theorem all_yes : ∀ {ys : List D}, (∀ y ∈ ys, y = .bl true) → dAll [.lst ys] = some (.bl true) := fun {ys} h => by
  have e : ys = ys.map fun _ => D.bl true := by
    conv => lhs; rw [← List.map_id ys]
    exact List.map_congr_left fun y hy => h y hy
  rw [e]
  exact all_true ys
@[simp] theorem io0 {fn : List D → RF} {a d : D} {j : Nat} {τ : List Sl} : callR [true, false] fn [.io 0, .v a] (.io j d :: τ) = callB (some (0, 0)) (fn [d, a]) (.io j d :: τ) := rfl
@[simp] theorem give0 {d e : D} {j : Nat} {τ : List Sl} : give (.io j e :: τ) 0 (some d) = .io j d :: τ := rfl
theorem mL_nil {g : MG} {b : MS} {τ : List Sl} : mLoop g b [] τ = .nx τ := rfl
/-- a loop all of whose turns go on, by an invariant -/
theorem loopI {g : MG} {b : MS} (I : List Sl → Prop) {xs : List α} (hs : ∀ x ∈ xs, ∀ S, I S → ∃ τ1 τ2, g (f x) S = some τ1 ∧ b τ1 = .nx τ2 ∧ I τ2) (S : List Sl) (h : I S) : ∃ S', mLoop g b (xs.map f) S = .nx S' ∧ I S' :=
  loop_inv (ds := xs.map f) I (fun d hd S hS => by
    obtain ⟨x, hx, rfl⟩ := List.mem_map.mp hd
    exact hs x hx S hS) S h
/-- a call with the box and a value -/
theorem ioc2 {fn : List D → RF} {d a v d' : D} {τ : List Sl} {i j : Nat} {mn : M D} (h : fn [d, a] = .ok v [some d', none]) (hi : τ[i]? = some (.io j d) ∨ τ[i]? = some (.ow d)) (hm : mn τ = .ok a τ) :
    mCall [true, false] fn 2 0 [0, 1] [] (aIo i (aV mn aNil)) mNil τ = .ok v (give τ i (some d')) := by
  have e1 : ownD τ[i]? = some d := by rcases hi with q | q <;> rw [q] <;> rfl
  have c : callR [true, false] fn [.io i, .v a] τ = .ok v (give τ i (some d')) := by
    rcases hi with q | q
    · rw [call_io_v q rfl, h]; rfl
    · rw [call_io_v q rfl, h]; rfl
  have s : aIo i (aV mn aNil) τ = .ok [.io i, .v a] τ := by
    unfold aIo
    rw [e1]
    show ((mn τ).bind _).bind _ = _
    rw [hm]; rfl
  show ((aIo i (aV mn aNil) τ).bind _) = _
  rw [s]
  exact c
/-- drawn numbers, one for each turn -/
theorem lcDraw {S : D → List Sl} {U : D → D → List Sl} {j : Nat} {n : Int} (hn : 0 < n) (hn2 : n < 2 ^ 62) (hg : ∀ d x, gN j x (S d) = some (U x d)) (hy : ∀ x d, mYes (U x d) = .ok true (U x d)) (hm : ∀ x d, mC (.int n) (U x d) = .ok (.int n) (U x d)) (hi : ∀ x d, (U x d)[0]? = some (.io 0 d)) (hv : ∀ x d d', Sm.wipeS (give (U x d) 0 (some d')) [j] = S d') :
    ∀ (ds : List D) (k : Int) (d : D), Box k d → (ds.length : Int) ≤ k → ∃ (vals : List Int) (d' : D), mLcGo (gN j) mYes (mCall [true, false] f_take 2 0 [0, 1] [] (aIo 0 (aV (mC (.int n)) aNil)) mNil) [j] ds (S d) = .ok (vals.map .int) (S d') ∧ (∀ v ∈ vals, 0 ≤ v ∧ v < n) ∧ vals.length = ds.length ∧ Box (k - ds.length) d'
  | [], k, d, h, _ => ⟨[], d, rfl, fun v hv => (by cases hv), rfl, h.le (show k - ((0 : Nat) : Int) ≤ k by omega)⟩
  | x :: ds, k, d, h, hk => by
    rw [List.length_cons] at hk
    obtain ⟨r, d1, e, r0, r1, h1⟩ := take_ok h (by omega) hn hn2
    obtain ⟨vals, d2, e2, hv2, hl, h2⟩ := lcDraw hn hn2 hg hy hm hi hv ds (k - 1) d1 h1 (by omega)
    have c := ioc2 (τ := U x d) (mn := mC (.int n)) e (.inl (hi x d)) (hm x d)
    refine ⟨r :: vals, d2, ?_, fun v q => ?_, by rw [List.length_cons, List.length_cons, hl], h2.le (by rw [List.length_cons]; omega)⟩
    · unfold mLcGo
      rw [hg]
      show ((mYes (U x d)).nox.bind _) = _
      rw [hy]
      show ((mCall _ _ _ _ _ _ _ _ (U x d)).nox.bind _) = _
      rw [c]
      show ((mLcGo _ _ _ _ ds (Sm.wipeS (give (U x d) 0 (some d1)) [j])).bind _) = _
      rw [hv, e2]
      rfl
    · rcases List.mem_cons.mp q with rfl | q
      · exact ⟨r0, r1⟩
      · exact hv2 v q
@[simp] theorem pick0 : pick [] [] = [] := rfl
@[simp] theorem call_v0 {fn : List D → RF} {τ : List Sl} : callR [] fn [] τ = callB none (fn []) τ := rfl
@[simp] theorem io3 {fn : List D → RF} {d : D} {a b c : Sl} {τ : List Sl} : callR [true] fn [.io 3] (a :: b :: c :: .ow d :: τ) = callB (some (0, 3)) (fn [d]) (a :: b :: c :: .ow d :: τ) := rfl
@[simp] theorem give3 {d e : D} {a b c : Sl} {τ : List Sl} : give (a :: b :: c :: .ow e :: τ) 3 (some d) = a :: b :: c :: .ow d :: τ := rfl
theorem ev_callF_v2 {fn : List D → RF} {a b d : D} {ma mb : M D} {τ : List Sl} (ha : ma τ = .ok a τ) (hb : mb τ = .ok b τ) (h : fn [a, b] = .own d) : mCallF [false, false] fn 2 [0, 1] [] (aV ma (aV mb aNil)) τ = .ok d τ := by
  unfold mCallF aV aNil
  show ((ma τ).bind _).bind _ = _
  rw [ha]
  show (((mb τ).bind _).bind _).bind _ = _
  rw [hb]
  show (match fn [a, b] with | .own d => Res.ok d τ | .exc c xs => .exc c xs τ | _ => .fail) = _
  rw [h]
theorem yes_ok {r : RF} (h : r.yes = true) : ∃ o, r = .ok (.bl true) o := by
  cases r with
  | ok d o =>
    cases d with
    | bl b => cases b with
      | true => exact ⟨o, rfl⟩
      | false => cases h
    | _ => cases h
  | _ => cases h
/-! ### the law's own def: by hand, then for each cell a box and n turns -/
def turnA (box right : List D → RF) (n : Int) : MS := (mSeq (mSetO 3 (mCallF [false, false] box 2 [0, 1] [] (aV (mVar 1) (aV (mVar 2) aNil))))
    (mIfS (mNot (mB (mFn dAll (mCons (mLc (mOns rng1 (mCons (mC (.int n)) mNil)) (gN 4) mYes (mCall [true] right 1 0 [0] [] (aIo 3 aNil) mNil) [4]) mNil)))) (mRet (mC (.bl false))) mNx))
def lawA (hand box right : List D → RF) (n : Int) : MS := mSeq (mIfS (mNot (mB (mCall [] hand 0 0 [] [] aNil mNil))) (mRet (mC (.bl false))) mNx)
  (mSeq (mSet 1 (mCall [false, false] f_cells 2 0 [0, 1] [] (aV (mVar 0) (aV (mC (.int 3)) aNil)) mNil))
  (mSeq (mFor (mOns rng1 (mCons (mFn dLen (mCons (mVar 1) mNil)) mNil)) (gN 2) (turnA box right n)) (mRet (mC (.bl true)))))
theorem lawA_true {hand right : List D → RF} {n c : Int} {w : Nat} (hc : 0 ≤ c) (hc2 : c < 1000000) (hn : 0 ≤ n) (hn2 : w * n.toNat ≤ 1000000) (hn3 : n < 16000000) (hh : (hand []).yes = true)
    (hr : ∀ (k : Nat) d, Box ((k + w : Nat) : Int) d → ∃ d', right [d] = .ok (.bl true) [some d'] ∧ Box (k : Nat) d') (ns : List Int) (h : ns.length ≤ 63) : (mkF 5 [false] (lawA hand (f_boxC c) right n) [.scr (ns.map .int)]).yes = true := by
  obtain ⟨cs, o, e1, ne, cl⟩ := cells_ok (top := 3) (by decide) (by decide) ns h
  have hc' : (((cs.map D.int).length : Nat) : Int) = (cs.length : Nat) := by rw [List.length_map]
  have hr1 : rng1 [.int (cs.length : Nat)] = some ((iota (cs.length : Nat)).map .int) := rng1_of (by omega) (by omega)
  have rn : rng1 [.int n] = some ((iota n).map .int) := rng1_of hn3 (by omega)
  have step : ∀ i ∈ iota (cs.length : Nat), ∀ S, (∃ x2 x3 : Sl, x2.free = true ∧ x3.free = true ∧ S = [.fz (.scr (ns.map .int)), .fz (.lst (cs.map .int)), x2, x3, .un]) → ∃ τ1 τ2, gN 2 (.int i) S = some τ1 ∧ turnA (f_boxC c) right n τ1 = .nx τ2 ∧ (∃ x2 x3 : Sl, x2.free = true ∧ x3.free = true ∧ τ2 = [.fz (.scr (ns.map .int)), .fz (.lst (cs.map .int)), x2, x3, .un]) := by
    rintro i hi S ⟨x2, x3, f2, f3, rfl⟩
    obtain ⟨i0, i1⟩ := mem_iota.mp hi
    obtain ⟨m, rfl⟩ : ∃ m : Nat, i = (m : Nat) := ⟨i.toNat, by omega⟩
    obtain ⟨d, b1, b2⟩ := box_ok (cs := cs) (k := m) hc hc2 (by omega) (by omega)
    have eb := ev_callF_v2 (ma := mVar 1) (mb := mVar 2) (τ := [.fz (.scr (ns.map .int)), .fz (.lst (cs.map .int)), .fz (.int (m : Nat)), x3, .un]) rfl rfl b1
    obtain ⟨ys, d', e3, y3, _, _⟩ := lcI_end (g := gN 4) (tt := mYes) (m := mCall [true] right 1 0 [0] [] (aIo 3 aNil) mNil) (vs := [4]) (f := D.int) (S := fun d => [.fz (.scr (ns.map .int)), .fz (.lst (cs.map .int)), .fz (.int (m : Nat)), .ow d, .un]) (I := fun k d => Box ((w * k : Nat) : Int) d) (Y := fun y => y = .bl true) (iota n) (by
      intro x _ k s hB
      obtain ⟨s', q1, q2⟩ := hr (w * k) s (by rw [Nat.mul_succ] at hB; exact hB)
      exact ⟨_, s', by simp -implicitDefEqProofs [q1], rfl, q2⟩) 0 d (b2.le (by rw [Nat.zero_add, iota_len]; omega)) (by rw [iota_len]; omega) rfl
    refine ⟨[.fz (.scr (ns.map .int)), .fz (.lst (cs.map .int)), .fz (.int (m : Nat)), x3, .un], [.fz (.scr (ns.map .int)), .fz (.lst (cs.map .int)), .fz (.int (m : Nat)), .ow d', .un], by simp -implicitDefEqProofs [f2], ?_, _, _, rfl, rfl, rfl⟩
    simp -implicitDefEqProofs [turnA, eb, f3, rn, e3, all_yes y3]
  obtain ⟨S', e2, x2, x3, f2, f3, rfl⟩ := loopI _ step [.fz (.scr (ns.map .int)), .fz (.lst (cs.map .int)), .un, .un, .un] ⟨_, _, rfl, rfl, rfl⟩
  obtain ⟨oh, hand⟩ := yes_ok hh
  have e1' : f_cells [.scr (ns.map .int), .int 3] = .ok (.lst (cs.map .int)) o := e1
  rw [mkF_fin]
  simp -implicitDefEqProofs [argS, lawA, hand, e1', hr1, e2]
  rfl
end
end Sm
set_option Elab.async false
set_option linter.all false
set_option maxRecDepth 100000
set_option maxHeartbeats 400000
/-! SmZc: pairs and rows of numbers: sorted, max, min. -/
namespace Sm
open PySem PySem.Spec PyProof.Rows L2
abbrev ePr (p : Int × Int) : D := D.tup [D.int p.1, D.int p.2]
abbrev pPr (p : Int × Int) : PyData := .tuple [.int p.1, .int p.2]
def leP (p q : Int × Int) : Bool := decide (p.1 < q.1 ∨ (p.1 = q.1 ∧ p.2 ≤ q.2))
theorem pys_prs : ∀ xs : List (Int × Int), D.pys (xs.map ePr) = some (xs.map pPr)
  | [] => rfl
  | x :: xs => by
    show (D.py (ePr x)).bind _ = _
    have e : D.py (ePr x) = some (pPr x) := rfl
    rw [e, pys_prs xs]; rfl
theorem dle_prs (p q : Int × Int) : dle (ePr p) (ePr q) = leP p q := by
  have h := congrFun (congrFun (PySem.W.dataLe_ii (fun b : Int × Int => b.1) (fun b => b.2)) p) q
  have e : PySem.W.dataLe false (fun b : Int × Int => PyData.tuple [.int b.1, .int b.2]) p q = dle (ePr p) (ePr q) := rfl
  rw [← e, h]; rfl
theorem isort_map {α β : Type} {le : α → α → Bool} {le' : β → β → Bool} {f : α → β} (h : ∀ a b, le' (f a) (f b) = le a b) : ∀ xs : List α, isort le' (xs.map f) = (isort le xs).map f := by
  have ins : ∀ (x : α) (xs : List α), insB le' (f x) (xs.map f) = (insB le x xs).map f := by
    intro x xs
    induction xs with
    | nil => rfl
    | cons y ys ih =>
      show (if le' (f x) (f y) = true then _ else f y :: insB le' (f x) (ys.map f)) = _
      rw [h, ih]
      show _ = (if le x y = true then x :: y :: ys else y :: insB le x ys).map f
      split <;> rfl
  intro xs
  induction xs with
  | nil => rfl
  | cons x xs ih =>
    show insB le' (f x) (isort le' (xs.map f)) = _
    rw [ih, ins]; rfl
theorem alike_prs (p q : Int × Int) : PySem.W.alike (pPr p) (pPr q) = true := rfl
theorem likeB_of {α : Type} {f : α → PyData} (h : ∀ a b, PySem.W.alike (f a) (f b) = true) (xs : List α) : likeB (xs.map f) = true := by
  unfold likeB
  rw [List.all_eq_true]
  intro p hp
  obtain ⟨a, _, rfl⟩ := List.mem_map.mp hp
  rw [List.all_eq_true]
  intro q hq
  obtain ⟨b, _, rfl⟩ := List.mem_map.mp hq
  exact h a b
theorem all_map_of {α β : Type} {f : α → β} {p : β → Bool} (h : ∀ a, p (f a) = true) (xs : List α) : (xs.map f).all p = true := by
  rw [List.all_eq_true]
  intro y hy
  obtain ⟨a, _, rfl⟩ := List.mem_map.mp hy
  exact h a
theorem sorted_prs {xs : List (Int × Int)} (hz : xs.length ≤ 16000000) : nSorted3 [.lst (xs.map ePr)] = some ((isort leP xs).map ePr) := by
  cases xs with
  | nil => rfl
  | cons x xs =>
    have e : nSorted3 [.lst ((x :: xs).map ePr)] = nSortedD [.lst ((x :: xs).map ePr)] := rfl
    have ok : okSort ((x :: xs).map pPr) = true := by
      have t1 : ((x :: xs).map pPr).all isTup1 = true := all_map_of (f := pPr) (p := isTup1) (fun _ => rfl) _
      have t2 : ((x :: xs).map pPr).all (fun p => decide (p.depth ≤ 8)) = true := all_map_of (f := pPr) (p := fun p => decide (p.depth ≤ 8)) (fun _ => rfl) _
      unfold okSort
      rw [likeB_of alike_prs, t1, t2, List.length_map, decide_eq_true hz]; rfl
    rw [e]
    show (D.pys ((x :: xs).map ePr)).bind _ = _
    rw [pys_prs]
    show (if okSort ((x :: xs).map pPr) = true then some (isort dle ((x :: xs).map ePr)) else none) = _
    rw [if_pos ok, isort_map dle_prs]
/-! rows of numbers -/
abbrev pRow (r : List Int) : PyData := .tuple (r.map .int)
theorem pys_rows : ∀ xs : List (List Int), D.pys (xs.map tInts) = some (xs.map pRow)
  | [] => rfl
  | x :: xs => by
    have e : D.py (tInts x) = some (pRow x) := by
      show (D.pys (x.map .int)).map _ = _
      rw [pys_ints]; rfl
    show (D.py (tInts x)).bind _ = _
    rw [e, pys_rows xs]; rfl
theorem alikeAll_ints : ∀ xs ys : List Int, PySem.W.alikeAll (xs.map .int) (ys.map .int) = true
  | [], [] => rfl
  | [], _ :: _ => rfl
  | _ :: _, [] => rfl
  | x :: xs, y :: ys => by
    show (PySem.W.alike (.int x) (.int y) && PySem.W.alikeAll (xs.map .int) (ys.map .int)) = true
    rw [alikeAll_ints xs ys]; rfl
theorem alike_rows (p q : List Int) : PySem.W.alike (pRow p) (pRow q) = true := alikeAll_ints p q
theorem lt_rows (p q : List Int) : PySem.W.dataLt (pRow p) (pRow q) = decide (p < q) := by
  have h := congrFun (congrFun (PySem.W.dataLe_rows (fun b : List Int => b)) q) p
  have e : PySem.W.dataLe false (fun b : List Int => PyData.list (b.map .int)) q p = !PySem.W.dataLt (.list (p.map .int)) (.list (q.map .int)) := rfl
  have e2 : PySem.W.dataLt (pRow p) (pRow q) = PySem.W.dataLt (.list (p.map .int)) (.list (q.map .int)) := rfl
  rw [e] at h
  rw [e2]
  cases hh : PySem.W.dataLt (.list (p.map .int)) (.list (q.map .int)) with
  | true =>
    rw [hh] at h
    have : ¬ q ≤ p := fun z => by rw [decide_eq_true z] at h; cases h
    exact (decide_eq_true (List.not_le.mp this)).symm
  | false =>
    rw [hh] at h
    have : q ≤ p := of_decide_eq_true h.symm
    exact (decide_eq_false (List.not_lt.mpr this)).symm
theorem depth_rows : ∀ xs : List (List Int), PyData.depthAll (xs.map pRow) ≤ 1
  | [] => by decide
  | x :: xs => by
    have ih := depth_rows xs
    have e : PyData.depthAll ((x :: xs).map pRow) = max (PyData.depth (pRow x)) (PyData.depthAll (xs.map pRow)) := rfl
    have e2 : PyData.depth (pRow x) = PyData.depthAll (x.map .int) + 1 := rfl
    rw [e, e2, depth_ints]
    omega
theorem ofPys_ints : ∀ xs : List Int, ofPys (xs.map .int) = xs.map .int
  | [] => rfl
  | x :: xs => by
    show ofPy (.int x) :: ofPys (xs.map .int) = _
    rw [ofPys_ints xs]; rfl
theorem ofPy_row (r : List Int) : ofPy (pRow r) = tInts r := by
  show D.tup (ofPys (r.map .int)) = _
  rw [ofPys_ints]
theorem maxD_rows : ∀ (xs : List (List Int)) (x : List Int), ∃ m ∈ x :: xs, PySem.W.maxD (pRow x) (xs.map pRow) = pRow m ∧ ∀ r ∈ x :: xs, r ≤ m
  | [], x => ⟨x, List.mem_cons_self, rfl, fun r hr => by rcases List.mem_cons.mp hr with rfl | h; exact List.le_refl _; cases h⟩
  | y :: ys, x => by
    have e : PySem.W.maxD (pRow x) ((y :: ys).map pRow) = PySem.W.maxD (if PySem.W.dataLt (pRow x) (pRow y) = true then pRow y else pRow x) (ys.map pRow) := rfl
    rw [lt_rows] at e
    by_cases h : x < y
    · rw [if_pos (decide_eq_true h)] at e
      obtain ⟨m, hm, e2, h2⟩ := maxD_rows ys y
      refine ⟨m, List.mem_cons_of_mem _ hm, e.trans e2, fun r hr => ?_⟩
      rcases List.mem_cons.mp hr with rfl | hr
      · exact List.le_trans (List.le_of_lt h) (h2 y List.mem_cons_self)
      · exact h2 r hr
    · rw [if_neg (by rw [decide_eq_true_iff]; exact h)] at e
      obtain ⟨m, hm, e2, h2⟩ := maxD_rows ys x
      refine ⟨m, ?_, e.trans e2, fun r hr => ?_⟩
      · rcases List.mem_cons.mp hm with rfl | hm
        · exact List.mem_cons_self
        · exact List.mem_cons_of_mem _ (List.mem_cons_of_mem _ hm)
      · rcases List.mem_cons.mp hr with rfl | hr
        · exact h2 r List.mem_cons_self
        · rcases List.mem_cons.mp hr with rfl | hr
          · exact List.le_trans (List.not_lt.mp h) (h2 x List.mem_cons_self)
          · exact h2 r (List.mem_cons_of_mem _ hr)
theorem max_rows {rs : List (List Int)} (h : rs ≠ []) : ∃ m ∈ rs, dMax1 [.lst (rs.map tInts)] = some (tInts m) ∧ ∀ r ∈ rs, r ≤ m := by
  cases rs with
  | nil => exact absurd rfl h
  | cons x xs =>
    obtain ⟨m, hm, e, h2⟩ := maxD_rows xs x
    refine ⟨m, hm, ?_, h2⟩
    have e0 : dMax1 [.lst ((x :: xs).map tInts)] = maxDD ((x :: xs).map tInts) := rfl
    have ok : okMax ((x :: xs).map pRow) = true := by
      unfold okMax
      have d := depth_rows (x :: xs)
      exact Bool.and_eq_true_iff.mpr ⟨Bool.and_eq_true_iff.mpr ⟨likeB_of alike_rows _, all_map_of (fun _ => rfl) _⟩, decide_eq_true (Nat.le_trans d (by decide))⟩
    rw [e0]
    unfold maxDD
    rw [pys_rows]
    show (if okMax ((x :: xs).map pRow) = true then some (ofPy (PySem.W.maxD (pRow x) (xs.map pRow))) else none) = _
    rw [if_pos ok, e, ofPy_row]
/-! numbers -/
theorem maxI_some : ∀ (xs : List Int) (x : Int), ∃ m, maxI (x :: xs) = some m
  | [], x => ⟨x, rfl⟩
  | y :: ys, x => by
    obtain ⟨m, e⟩ := maxI_some ys y
    refine ⟨if m > x then m else x, ?_⟩
    show (maxI (y :: ys)).map _ = _
    rw [e]; rfl
theorem max_ints {xs : List Int} (h : xs ≠ []) : ∃ m ∈ xs, dMax1 [.lst (xs.map .int)] = some (.int m) ∧ ∀ y ∈ xs, y ≤ m := by
  have e : dMaxL [.lst (xs.map .int)] = (maxI xs).map .int := by
    show (intsD (xs.map .int)).bind _ = _
    rw [intsD_map]; rfl
  cases hm : maxI xs with
  | none => cases xs with
    | nil => exact absurd rfl h
    | cons x xs => obtain ⟨m, e2⟩ := maxI_some xs x; rw [e2] at hm; cases hm
  | some m =>
    obtain ⟨h1, h2⟩ := maxI_spec hm
    refine ⟨m, h1, ?_, h2⟩
    unfold dMax1
    rw [e, hm]; rfl
theorem minI_some : ∀ (xs : List Int) (x : Int), ∃ m, minI (x :: xs) = some m
  | [], x => ⟨x, rfl⟩
  | y :: ys, x => by
    obtain ⟨m, e⟩ := minI_some ys y
    refine ⟨if m < x then m else x, ?_⟩
    show (minI (y :: ys)).map _ = _
    rw [e]; rfl
theorem min_ints {xs : List Int} (h : xs ≠ []) : ∃ m ∈ xs, dMin1 [.lst (xs.map .int)] = some (.int m) ∧ ∀ y ∈ xs, m ≤ y := by
  have e : dMinL [.lst (xs.map .int)] = (minI xs).map .int := by
    show (intsD (xs.map .int)).bind _ = _
    rw [intsD_map]; rfl
  cases hm : minI xs with
  | none => cases xs with
    | nil => exact absurd rfl h
    | cons x xs => obtain ⟨m, e2⟩ := minI_some xs x; rw [e2] at hm; cases hm
  | some m =>
    obtain ⟨h1, h2⟩ := minI_spec hm
    refine ⟨m, h1, ?_, h2⟩
    unfold dMin1
    rw [e, hm]; rfl
/-! sets of pairs -/
abbrev toL (p : Int × Int) : List Int := [p.1, p.2]
theorem back_toL : ∀ l : List (List Int), (∀ x ∈ l, ∃ p : Int × Int, toL p = x) → ∃ ks : List (Int × Int), ks.map toL = l
  | [], _ => ⟨[], rfl⟩
  | x :: l, h => by
    obtain ⟨p, hp⟩ := h x List.mem_cons_self
    obtain ⟨ks, hk⟩ := back_toL l fun y hy => h y (List.mem_cons_of_mem _ hy)
    exact ⟨p :: ks, by rw [List.map_cons, hp, hk]⟩
theorem set_prs {ps : List (Int × Int)} (hl : ps.length < 64) : ∃ ks : List (Int × Int), dSet2 [.lst (ps.map ePr)] = some (.set (ks.map ePr)) ∧ (∀ p, p ∈ ks ↔ p ∈ ps) ∧ ks.length ≤ ps.length ∧ ks.map toL = sortTU (ps.map toL) := by
  obtain ⟨ks, hk⟩ := back_toL (sortTU (ps.map toL)) fun x hx => by
    obtain ⟨p, _, e⟩ := List.mem_map.mp (sortTU_mem.mp hx)
    exact ⟨p, e⟩
  have inj : ∀ p q : Int × Int, toL p = toL q → p = q := fun p q e => by
    injection e with a b
    injection b with b
    exact Prod.ext a b
  refine ⟨ks, ?_, fun p => ?_, ?_, hk⟩
  · cases ps with
    | nil => have : ks = [] := List.map_eq_nil_iff.mp hk; subst this; rfl
    | cons p ps =>
      have e : dSet2 [.lst ((p :: ps).map ePr)] = (tupsD ((p :: ps).map ePr)).bind fun ks => if ks.length < 64 then some (.set ((sortTU ks).map tInts)) else none := rfl
      have e2 : (p :: ps).map ePr = ((p :: ps).map toL).map tInts := by rw [List.map_map]; rfl
      rw [e, e2, tupsD_map]
      show (if ((p :: ps).map toL).length < 64 then _ else none) = _
      rw [if_pos (by rw [List.length_map]; exact hl), ← hk, List.map_map]; rfl
  · have m : toL p ∈ ks.map toL ↔ toL p ∈ ps.map toL := by rw [hk]; exact sortTU_mem
    constructor
    · intro h
      obtain ⟨q, hq, e⟩ := List.mem_map.mp (m.mp (List.mem_map.mpr ⟨p, h, rfl⟩))
      rw [← inj q p e]; exact hq
    · intro h
      obtain ⟨q, hq, e⟩ := List.mem_map.mp (m.mpr (List.mem_map.mpr ⟨p, h, rfl⟩))
      rw [← inj q p e]; exact hq
  · have := sortTU_len (ps.map toL)
    rw [← hk, List.length_map, List.length_map] at this
    exact this
theorem sorted_set_prs {ks : List (Int × Int)} (hl : ks.length < 64) (h0 : ∀ p ∈ ks, 0 ≤ p.1 ∧ 0 ≤ p.2) : nSorted3 [.set (ks.map ePr)] = some (ks.map ePr) := by
  have e2 : ks.map ePr = (ks.map toL).map tInts := by rw [List.map_map]; rfl
  have ok : okSet (ks.map ePr) = true := by
    unfold okSet
    rw [e2, tupsD_map]
    cases ks with
    | nil => rfl
    | cons k ks =>
      show (decide (1 ≤ (toL k).length) && (toL k :: ks.map toL).all fun j => decide (j.length = (toL k).length) && j.all fun m => decide (0 ≤ m)) = true
      rw [Bool.and_eq_true_iff]
      refine ⟨rfl, List.all_eq_true.mpr fun j hj => ?_⟩
      obtain ⟨p, hp, rfl⟩ := List.mem_map.mp (show j ∈ (k :: ks).map toL from hj)
      have q := h0 p hp
      simp [toL, q.1, q.2]
  exact if_pos ⟨by rw [List.length_map]; exact hl, ok⟩
theorem list_prs {Y : Int × Int → Prop} : ∀ {ys : List D}, (∀ y ∈ ys, ∃ p : Int × Int, y = ePr p ∧ Y p) → ∃ ps : List (Int × Int), ys = ps.map ePr ∧ ∀ p ∈ ps, Y p
  | [], _ => ⟨[], rfl, fun p h => (by cases h)⟩
  | y :: ys, h => by
    obtain ⟨p, rfl, hp⟩ := h y List.mem_cons_self
    obtain ⟨ps, rfl, h2⟩ := list_prs (ys := ys) fun z hz => h z (List.mem_cons_of_mem _ hz)
    refine ⟨p :: ps, rfl, fun q hq => ?_⟩
    rcases List.mem_cons.mp hq with rfl | hq
    · exact hp
    · exact h2 q hq
theorem list_ints {Y : Int → Prop} : ∀ {ys : List D}, (∀ y ∈ ys, ∃ p : Int, y = .int p ∧ Y p) → ∃ ps : List Int, ys = ps.map .int ∧ ∀ p ∈ ps, Y p
  | [], _ => ⟨[], rfl, fun p h => (by cases h)⟩
  | y :: ys, h => by
    obtain ⟨p, rfl, hp⟩ := h y List.mem_cons_self
    obtain ⟨ps, rfl, h2⟩ := list_ints (ys := ys) fun z hz => h z (List.mem_cons_of_mem _ hz)
    refine ⟨p :: ps, rfl, fun q hq => ?_⟩
    rcases List.mem_cons.mp hq with rfl | hq
    · exact hp
    · exact h2 q hq
/-- data that are equal to themselves -/
theorem eq_self {d : D} {p : PyData} (e : d.py = some p) (h1 : SeqAt.shaped p = true) (h2 : PySem.W.alike p p = true) : dEq d d = some (.bl true) := by
  have q : eqD d d = some true := by
    unfold eqD
    rw [e]
    show (if SeqAt.shaped p = true ∧ SeqAt.shaped p = true then some (PyData.eqv p p) else none) = _
    rw [if_pos ⟨h1, h1⟩, PySem.W.eqv_refl_alike p h2]
  unfold dEq
  rw [q]; rfl
/-! loops with a state that is told -/
theorem loopT {α σ : Type} {g : MG} {b : MS} {f : α → D} {R : Nat → σ → List Sl → Prop} (step : σ → α → σ) : ∀ (xs : List α), (∀ x ∈ xs, ∀ n s S, R (n + 1) s S → ∃ τ1 τ2, g (f x) S = some τ1 ∧ (b τ1 = .nx τ2 ∨ b τ1 = .ct τ2) ∧ R n (step s x) τ2) →
    ∀ (k : Nat) s S, R (k + xs.length) s S → ∃ S', mLoop g b (xs.map f) S = .nx S' ∧ R k (xs.foldl step s) S'
  | [], _, k, s, S, h => ⟨S, rfl, h⟩
  | x :: xs, hs, k, s, S, h => by
    obtain ⟨τ1, τ2, e1, e2, h2⟩ := hs x List.mem_cons_self (k + xs.length) s S (by rw [List.length_cons] at h; exact h)
    obtain ⟨S', e3, h3⟩ := loopT step xs (fun z hz => hs z (List.mem_cons_of_mem _ hz)) k (step s x) τ2 h2
    refine ⟨S', ?_, h3⟩
    rw [List.map_cons]
    unfold mLoop
    rw [e1]
    show (match b τ1 with | .nx τ => mLoop g b (xs.map f) τ | .ct τ => mLoop g b (xs.map f) τ | .bk τ => .nx τ | r => r) = _
    rcases e2 with e2 | e2 <;> rw [e2] <;> exact e3
end Sm
set_option Elab.async false
set_option linter.all false
set_option maxRecDepth 100000
set_option maxHeartbeats 1000000
/-! SmZd: targets with a star: a, *b = a tuple. -/
namespace Sm
open PySem PySem.Spec PySem.Calls PyProof.Rows L2
section
variable {prog : Program} {w : World} {A : Around} {E : Value → Shared → Prop} {s : Shared}
theorem star_items {l : Addr} {xs : Array Value} {n i : Nat} {Q : List Value → Shared → Prop} (T : IsTup s.heap l xs) (hh : A.handled = none) (hi : i < n) (hn : n ≤ xs.size + 1) (hz : xs.size ≤ 16384)
    (q : ∀ (h' : Heap) (tk : Nat), (∀ b o, s.heap.get? b = some o → h'.get? b = some o) → Q (xs.toList.take i ++ [.ref h'.objs.size] ++ (xs.toList.drop i).drop (xs.size + 1 - n)) { s with heap := h'.push (seqObj "list" ((xs.toList.drop i).take (xs.size + 1 - n)).toArray 0), toks := tk }) :
    wpAny (model prog w) A (unpackItems (.ref l) n (some i)) Q E s := by
  have e1 : l ≠ s.heap.objs.size := by obtain ⟨o, ho, _⟩ := T; exact Nat.ne_of_lt (Heap.lt_size ho)
  have e2 : l < s.heap.objs.size := by obtain ⟨o, ho, _⟩ := T; exact Heap.lt_size ho
  unfold unpackItems
  refine wpAny_bind ?_
  unfold notIterableAtAll
  refine wpAny_bind (wpAny_specialOf T.typeIs slot_tuple_iter.lookup (wpAny_pure ?_))
  simp only [Bool.false_eq_true, if_false]
  refine wpAny_bind (wpAny_holding (iter_tuple T (wpAny_bind (wpAny_holding (draw_tuple e1 i 0 _ _ ⟨_, Heap.get?_push_size _ rfl, rfl, rfl⟩ (T.push _) (by omega) fun h₁ it₁ k₁ => ?_)))))
  have T₁ : IsTup h₁ l xs := (T.push _).extBut k₁.extBut e1
  rw [Nat.zero_add] at it₁
  have it₂ := it₁
  obtain ⟨oi, hoi, _⟩ := it₂
  have T₂ := T₁
  obtain ⟨ol, hol, _⟩ := T₂
  rw [List.drop_zero]
  have fl : (xs.toList.take i).length = i := by rw [List.length_take, Array.length_toList]; omega
  rw [if_neg (show ¬ ((xs.toList.take i).length < i) by rw [fl]; omega)]
  have rl : (xs.toList.drop i).length = xs.size - i := by rw [List.length_drop, Array.length_toList]
  have md : (xs.toList.drop i).length - (n - 1 - i) = xs.size + 1 - n := by rw [rl]; omega
  refine wpAny_bind (wpAny_holding (PySem.W.kun_collect (s := { s with heap := h₁ }) (T := "tuple_iterator") (.inr (.inr (.inr rfl))) (Walks.tuple (A := A.in1) hh s.heap.objs.size l e1 xs) (fun j u st => st.1.typeIs) (k := i) (by omega) ⟨it₁, T₁⟩ (Heap.lt_size hoi) (Heap.lt_size hol) (fun h₂ tk k₂ => ?_) (by rw [sizeLine_eq]; omega)))
  show wpAny _ _ (if (xs.toList.drop i).length < n - 1 - i then _ else _) _ _ _
  rw [if_neg (by rw [rl]; omega)]
  show wpAny _ _ (newList ((xs.toList.drop i).take ((xs.toList.drop i).length - (n - 1 - i))) >>= fun d => pure (xs.toList.take i ++ [d] ++ (xs.toList.drop i).drop ((xs.toList.drop i).length - (n - 1 - i)))) _ _ _
  rw [md]
  have keep : ∀ b o, s.heap.get? b = some o → h₂.get? b = some o := fun b o e => k₂ b o (Nat.ne_of_lt (Heap.lt_size e)) (k₁.extBut b o (Nat.ne_of_lt (Heap.lt_size e)) (Heap.get?_push_of_some _ e))
  exact wpAny_bind (wpAny_newList (wpAny_pure (q h₂ tk keep)) (by rw [List.length_take, rl, sizeLine_eq]; omega))
theorem assign_star {env : Env} {elts : List Expr} {k : Nat} {pos : Pos} {l : Addr} {xs : Array Value} {n i : Nat} {Q : Unit → Shared → Prop} (T : IsTup s.heap l xs) (hh : A.handled = none) (hl : (assignEach elts env).length = n) (hs : (assignEach elts env).findIdx? (·.1) = some i) (hi : i < n) (hn : n ≤ xs.size + 1) (hz : xs.size ≤ 16384)
    (q : ∀ (h' : Heap) (tk : Nat), (∀ b o, s.heap.get? b = some o → h'.get? b = some o) → wpAny (model prog w) A (assignInOrder ((assignEach elts env).map (·.2)) (xs.toList.take i ++ [.ref h'.objs.size] ++ (xs.toList.drop i).drop (xs.size + 1 - n))) Q E { s with heap := h'.push (seqObj "list" ((xs.toList.drop i).take (xs.size + 1 - n)).toArray 0), toks := tk }) :
    wpAny (model prog w) A (assign (.Tuple elts k pos) env (.ref l)) Q E s := by
  rw [assign_Tuple]
  refine wpAny_bind (wpAny_standAt ?_)
  unfold unpack
  rw [hl, hs]
  exact wpAny_bind (wpAny_holding (star_items T hh hi hn hz q))
end
section
variable {X : Cx}
/-- a, *b = a tuple -/
def gTupS (K : PySem.W.Frag) (n i : Nat) (t : TGs) : TG := fun v σ H Q => ∃ a xs, v = .ref a ∧ SqT K H a xs ∧ n ≤ xs.length + 1 ∧ xs.length ≤ 16384 ∧ ∀ D, H D = none → t (xs.take i ++ [.ref D] ++ (xs.drop i).drop (xs.length + 1 - n)) σ (upd H D (.lst ((xs.drop i).take (xs.length + 1 - n)))) Q
theorem vals_take : ∀ {xs : List V} {us : List Value} (n : Nat), Vals xs us → Vals (xs.take n) (us.take n)
  | _, _, 0, _ => .nil
  | _, _, n + 1, .nil => .nil
  | _, _, n + 1, .cons r t => .cons r (vals_take n t)
theorem vals_drop : ∀ {xs : List V} {us : List Value} (n : Nat), Vals xs us → Vals (xs.drop n) (us.drop n)
  | _, _, 0, h => h
  | _, _, n + 1, .nil => .nil
  | _, _, n + 1, .cons r t => vals_drop n t
theorem vals_app : ∀ {xs ys : List V} {us ws : List Value}, Vals xs us → Vals ys ws → Vals (xs ++ ys) (us ++ ws)
  | _, _, _, _, .nil, h => h
  | _, _, _, _, .cons r t, h => .cons r (vals_app t h)
theorem pg_tupS {es : List Expr} {k : Nat} {t : TGs} {n i : Nat} {pos : Pos} (hc : X.calm = true) (h : PGs X es t) (hi : i < n) (hn : (assignEach es X.env).length = n := by rfl) (hst : (assignEach es X.env).findIdx? (·.1) = some i := by rfl) : PG X (.Tuple es k pos) (gTupS X.K n i t) := by
  refine ⟨fun pins s σ H v u Q I r hw => ?_⟩
  obtain ⟨a, xs, e1, hq, hl, hz, hw⟩ := hw
  subst e1
  cases r
  obtain ⟨its, rv, ht, _⟩ := I.tuple hq
  have len := rv.length
  refine assign_star ht (I.ok.hd hc) hn hst hi (by simp; omega) (by simp; omega) fun h' tk keep => ?_
  have I1 : Inv X pins σ H { s with heap := h', toks := tk } := I.kept keep
  have hD : H h'.objs.size = none := I1.hok.fresh (Nat.le_refl _)
  have hget : (h'.push (seqObj "list" ((its.drop i).take (its.length + 1 - n)).toArray 0)).get? h'.objs.size = some (seqObj "list" ((its.drop i).take (its.length + 1 - n)).toArray 0) := Heap.get?_push_size _ rfl
  have lz : ((xs.drop i).take (xs.length + 1 - n)).length ≤ sizeLine := by rw [List.length_take, List.length_drop, sizeLine_eq]; omega
  have I2 : Inv X pins σ (upd H h'.objs.size (.lst ((xs.drop i).take (xs.length + 1 - n)))) { s with heap := h'.push (seqObj "list" ((its.drop i).take (its.length + 1 - n)).toArray 0), toks := tk } :=
    I1.laid (t' := tk) (fun b o e => Heap.get?_push_of_some _ e) (Nat.le_refl _) ⟨lz, (its.drop i).take (its.length + 1 - n), 0, by rw [← len]; exact vals_take _ (vals_drop _ rv), hget⟩
  have sz : its.toArray.size = its.length := by simp
  have q := h.run pins _ σ _ (xs.take i ++ [.ref h'.objs.size] ++ (xs.drop i).drop (xs.length + 1 - n)) (its.take i ++ [.ref h'.objs.size] ++ (its.drop i).drop (its.length + 1 - n)) Q I2 (by rw [len]; exact vals_app (vals_app (vals_take _ rv) (.cons rfl .nil)) (vals_drop _ (vals_drop _ rv))) (hw _ hD)
  rw [sz]
  exact q
theorem pgs_star {e : Expr} {es : List Expr} {p : Pos} {t : TG} {u : TGs} (h1 : PG X e t) (h2 : PGs X es u) (hs : (assignEach (.Starred e p :: es) X.env).map (·.2) = assign e X.env :: (assignEach es X.env).map (·.2) := by rfl) : PGs X (.Starred e p :: es) (L2.gCons t u) := by
  refine ⟨fun pins s σ H vs us Q I r h => ?_⟩
  obtain ⟨v, vr, e1, h⟩ := h
  subst e1
  cases r with
  | cons r rr =>
    rw [hs]
    exact assignInOrder_cons (thn (h1.run pins s σ H _ _ _ I r h) fun _ s1 ⟨σ1, H1, I1, q1⟩ => h2.run pins s1 σ1 H1 vr _ Q I1 rr q1)
end
section
variable {L : Lay} {P : Pa} {W : WX} {X : Cx} {E : L2.St → XK} {pos : Pos}
theorem sE_gstr {x z : Str} {t : Tok} (hg : Gl X x) (hm : X.mg x = some (.str z t)) (hd : (x == ("__debug__" : Str)) = false := by decide): SE L P E X (.Name x pos) (mC (.str z)) :=
  PE.weak (pe_glob (v := .str z) hg hm ⟨t, rfl⟩ hd) fun σ H Q ⟨τ, R, h⟩ => h (.str z) H .refl R (Rp.str_iff.mpr rfl)
theorem sE_gint {x : Str} {z : Int} {t : Tok} (hg : Gl X x) (hm : X.mg x = some (.int z t)) (hd : (x == ("__debug__" : Str)) = false := by decide): SE L P E X (.Name x pos) (mC (.int z)) :=
  PE.weak (pe_glob (v := .int z) hg hm ⟨t, rfl⟩ hd) fun σ H Q ⟨τ, R, h⟩ => h (.int z) H .refl R (Rp.int_iff.mpr rfl)
/-- a, *b: the middle as a list -/
def gTS (n i : Nat) (gs : MGs) : MG := fun d τ =>
  match d with
  | .tup ds => if n ≤ ds.length + 1 ∧ ds.length ≤ 16384 then gs (ds.take i ++ [.lst ((ds.drop i).take (ds.length + 1 - n))] ++ (ds.drop i).drop (ds.length + 1 - n)) τ else none
  | _ => none
theorem sG_tupS {es : List Expr} {k : Nat} {gs : MGs} {n i : Nat} (hK : X.K = L.K) (hc : X.calm = true) (h : SGs L P X es gs) (hi : i < n)
    (hn : (assignEach es X.env).length = n := by rfl) (hst : (assignEach es X.env).findIdx? (·.1) = some i := by rfl) : SG L P X (.Tuple es k pos) (gTS n i gs) :=
  PG.weak (pg_tupS hc h hi hn hst) fun v σ H Q ⟨τ, d, τ', R, r, e, q⟩ => by
    cases d with
    | tup ds =>
      obtain ⟨a, vs, rfl, s, rr⟩ := Rp.tup_iff.mp r
      have e : (if n ≤ ds.length + 1 ∧ ds.length ≤ 16384 then gs (ds.take i ++ [.lst ((ds.drop i).take (ds.length + 1 - n))] ++ (ds.drop i).drop (ds.length + 1 - n)) τ else none) = some τ' := e
      by_cases hl : n ≤ ds.length + 1 ∧ ds.length ≤ 16384
      · rw [if_pos hl] at e
        have len := rr.length
        refine ⟨a, vs, rfl, by rw [hK]; exact SqT.same hid_le s, by rw [len]; exact hl.1, by rw [len]; exact hl.2, fun D hD => ?_⟩
        rw [len]
        have hA : ∀ q, Hd P σ τ q → ∃ o, H q = some o := fun q hq => R.hd_there hq
        have sm : Same (hid H (Hd P σ τ)) (hid (upd H D (.lst ((vs.drop i).take (ds.length + 1 - n)))) (Hd P σ τ)) := hid_mono (same_upd hD) fun _ z => z
        have ma := ((rr.drop i).take (ds.length + 1 - n))
        refine ⟨τ, _, τ', R.same (same_upd hD), ((Rps.same sm (rr.take i)).app (.cons (new_lst hA hD ma) .nil)).app (Rps.same sm ((rr.drop i).drop _)), e, fun σ' H' t R' => q σ' H' ((Tr.of (same_upd hD)).trans t) R'⟩
      · rw [if_neg hl] at e; cases e
    | _ => cases e
theorem sGs_star {e : Expr} {es : List Expr} {p : Pos} {g : MG} {gs : MGs} (h1 : SG L P X e g) (h2 : SGs L P X es gs) (hs : (assignEach (.Starred e p :: es) X.env).map (·.2) = assign e X.env :: (assignEach es X.env).map (·.2) := by rfl) : SGs L P X (.Starred e p :: es) (Sm.gCons g gs) :=
  PGs.weak (pgs_star h1 h2 hs) fun us σ H Q ⟨τ, ds, τ', R, r, e, q⟩ => by
    cases ds with
    | nil => cases e
    | cons d ds =>
      unfold Rps at r
      obtain ⟨v, vr, rfl, rd, rr⟩ := r
      obtain ⟨τ1, e1, e2⟩ := Option.bind_eq_some_iff.mp e
      exact ⟨v, vr, rfl, τ, d, τ1, R, rd, e1, fun σ1 H1 t1 R1 => ⟨τ1, ds, τ', R1, Rps.same (R.fz t1) rr, e2, fun σ' H' t2 R2 => q σ' H' (t1.trans t2) R2⟩⟩
end
/-! x in a list or a tuple -/
section
variable {L : Lay} {X : Cx}
def rInT (K : PySem.W.Frag) (neg : Bool) : R2 := fun x y H Q => ∃ d ds, Dp K H x d ∧ Dp K H y (.tuple ds) ∧ SeqAt.shaped d = true ∧ SeqAt.shaped (.list ds) = true ∧ Q (.bl (if neg = true then !(ds.any fun z => PyData.eqv z d) else ds.any fun z => PyData.eqv z d)) H
theorem op_inT (hu : X.A.units + 65 < cLine) : OpR X (compareOp .In) (rInT X.K false) := by
  intro pins s σ H x y v u Q I rx ry h
  obtain ⟨d, ds, hd, he, sd, se, q⟩ := h
  obtain ⟨as, r1⟩ := Dp.reads I d x v hd rx
  obtain ⟨bs, r2⟩ := Dp.reads I (.tuple ds) y u he ry
  exact SeqAt.in_tuple_reads r2 r1 (SeqAt.canLay_of_shaped se) (SeqAt.canLay_of_shaped sd) (room_in_shaped sd hu) ⟨.bl _, H, I, rfl, q⟩
theorem op_notInT (hu : X.A.units + 65 < cLine) : OpR X (compareOp .NotIn) (rInT X.K true) := by
  intro pins s σ H x y v u Q I rx ry h
  obtain ⟨d, ds, hd, he, sd, se, q⟩ := h
  obtain ⟨as, r1⟩ := Dp.reads I d x v hd rx
  obtain ⟨bs, r2⟩ := Dp.reads I (.tuple ds) y u he ry
  exact SeqAt.notIn_tuple_reads r2 r1 (SeqAt.canLay_of_shaped se) (SeqAt.canLay_of_shaped sd) (room_in_shaped sd hu) ⟨.bl _, H, I, rfl, q⟩
def dIn2 (a b : D) : Option D := match b with
  | .tup ys => dIn a (.lst ys)
  | b => dIn a b
def dNotIn2 (a b : D) : Option D := match b with
  | .tup ys => dNotIn a (.lst ys)
  | b => dNotIn a b
theorem inT_some {a : D} {ys : List D} {k : Bool} (h : inD a (.lst ys) = some k) : ∃ p ps, a.py = some p ∧ D.py (.tup ys) = some (.tuple ps) ∧ SeqAt.shaped p = true ∧ SeqAt.shaped (.list ps) = true ∧ k = ps.any fun z => PyData.eqv z p := by
  obtain ⟨ys', p, ps, e1, e2, e3, s1, s2, e4⟩ := inD_some h
  cases e1
  refine ⟨p, ps, e2, ?_, s1, s2, e4⟩
  unfold D.py at e3 ⊢
  obtain ⟨qs, e5, e6⟩ := Option.map_eq_some_iff.mp e3
  cases e6
  rw [e5]; rfl
theorem os_in2 : OpS L (fun x y H Q => rInD L.K x y H Q ∨ rInT L.K false x y H Q) dIn2 := by
  intro a b d x y H A Q e ra rb hA q
  cases b with
  | tup ys =>
    obtain ⟨k, e1, rfl⟩ := Option.map_eq_some_iff.mp (show (inD a (.lst ys)).map D.bl = some d from e)
    obtain ⟨p, ps, e2, e3, s1, s2, rfl⟩ := inT_some e1
    exact .inr ⟨p, ps, dp_bp hid_le ra e2, dp_bp hid_le rb e3, s1, s2, q _ H (.refl _) .mk_bl⟩
  | _ => exact .inl (os_in _ _ _ _ _ _ _ _ e ra rb hA q)
theorem os_notIn2 : OpS L (fun x y H Q => rNotInD L.K x y H Q ∨ rInT L.K true x y H Q) dNotIn2 := by
  intro a b d x y H A Q e ra rb hA q
  cases b with
  | tup ys =>
    obtain ⟨k, e1, rfl⟩ := Option.map_eq_some_iff.mp (show (inD a (.lst ys)).map (fun k => D.bl (!k)) = some d from e)
    obtain ⟨p, ps, e2, e3, s1, s2, rfl⟩ := inT_some e1
    exact .inr ⟨p, ps, dp_bp hid_le ra e2, dp_bp hid_le rb e3, s1, s2, q _ H (.refl _) .mk_bl⟩
  | _ => exact .inl (os_notIn _ _ _ _ _ _ _ _ e ra rb hA q)
theorem op_in2 (hu : X.A.units + 65 < cLine) : OpR X (compareOp .In) (fun x y H Q => rInD X.K x y H Q ∨ rInT X.K false x y H Q) := (op_inD hu).or (op_inT hu)
theorem op_notIn2 (hu : X.A.units + 65 < cLine) : OpR X (compareOp .NotIn) (fun x y H Q => rNotInD X.K x y H Q ∨ rInT X.K true x y H Q) := (op_notInD hu).or (op_notInT hu)
end
/-! the least row -/
theorem minD_rows : ∀ (xs : List (List Int)) (x : List Int), ∃ m ∈ x :: xs, PySem.W.minD (pRow x) (xs.map pRow) = pRow m ∧ ∀ r ∈ x :: xs, m ≤ r
  | [], x => ⟨x, List.mem_cons_self, rfl, fun r hr => by rcases List.mem_cons.mp hr with rfl | h; exact List.le_refl _; cases h⟩
  | y :: ys, x => by
    have e : PySem.W.minD (pRow x) ((y :: ys).map pRow) = PySem.W.minD (if PySem.W.dataLt (pRow y) (pRow x) = true then pRow y else pRow x) (ys.map pRow) := rfl
    rw [lt_rows] at e
    by_cases h : y < x
    · rw [if_pos (decide_eq_true h)] at e
      obtain ⟨m, hm, e2, h2⟩ := minD_rows ys y
      refine ⟨m, List.mem_cons_of_mem _ hm, e.trans e2, fun r hr => ?_⟩
      rcases List.mem_cons.mp hr with rfl | hr
      · exact List.le_trans (h2 y List.mem_cons_self) (List.le_of_lt h)
      · exact h2 r hr
    · rw [if_neg (by rw [decide_eq_true_iff]; exact h)] at e
      obtain ⟨m, hm, e2, h2⟩ := minD_rows ys x
      refine ⟨m, ?_, e.trans e2, fun r hr => ?_⟩
      · rcases List.mem_cons.mp hm with rfl | hm
        · exact List.mem_cons_self
        · exact List.mem_cons_of_mem _ (List.mem_cons_of_mem _ hm)
      · rcases List.mem_cons.mp hr with rfl | hr
        · exact h2 r List.mem_cons_self
        · rcases List.mem_cons.mp hr with rfl | hr
          · exact List.le_trans (h2 x List.mem_cons_self) (List.not_lt.mp h)
          · exact h2 r (List.mem_cons_of_mem _ hr)
theorem min_rows {rs : List (List Int)} (h : rs ≠ []) : ∃ m ∈ rs, dMin1 [.lst (rs.map tInts)] = some (tInts m) ∧ ∀ r ∈ rs, m ≤ r := by
  cases rs with
  | nil => exact absurd rfl h
  | cons x xs =>
    obtain ⟨m, hm, e, h2⟩ := minD_rows xs x
    refine ⟨m, hm, ?_, h2⟩
    have e0 : dMin1 [.lst ((x :: xs).map tInts)] = minDD ((x :: xs).map tInts) := rfl
    have ok : okMax ((x :: xs).map pRow) = true := by
      unfold okMax
      have d := depth_rows (x :: xs)
      exact Bool.and_eq_true_iff.mpr ⟨Bool.and_eq_true_iff.mpr ⟨likeB_of alike_rows _, all_map_of (fun _ => rfl) _⟩, decide_eq_true (Nat.le_trans d (by decide))⟩
    rw [e0]
    unfold minDD
    rw [pys_rows]
    show (if okMax ((x :: xs).map pRow) = true then some (ofPy (PySem.W.minD (pRow x) (xs.map pRow))) else none) = _
    rw [if_pos ok, e, ofPy_row]
/-! all rows of numbers below n -/
def rowsA : Nat → List (List Int)
  | 0 => [[]]
  | n + 1 => rowsA n ++ (rowsA n).map fun r => r ++ [(n : Int)]
/-! texts -/
@[simp] theorem notIn2_ints {i : Int} {xs : List Int} : dNotIn2 (.int i) (.tup (xs.map .int)) = some (.bl (!decide (i ∈ xs))) := notIn_ints
@[simp] theorem in2_ints {i : Int} {xs : List Int} : dIn2 (.int i) (.tup (xs.map .int)) = some (.bl (decide (i ∈ xs))) := in_ints
end Sm
set_option Elab.async false
set_option linter.all false
set_option maxRecDepth 100000
set_option maxHeartbeats 400000
namespace Sm
open PySem PySem.Spec PyProof.Rows L2
def b_set_of : MS := (mRet (mFn dTuple (mCons (mFnF nSorted3 (mCons (mFn dSet2 (mCons (mVar 0) mNil)) mNil)) mNil)))
def f_set_of : List D → RF := mkF 1 [false] b_set_of
def b_tupled (self_ : List D → RF) : MS := (mRet (mIf (mB (mFn (dIsi2 "list" "tuple") (mCons (mVar 0) mNil))) (mFn dTuple (mCons (mLc (mOn asS (mVar 0)) (gN 1) mYes (mCall [false] self_ 1 0 [0] [] (aV (mVar 1) aNil) mNil) [1]) mNil)) (mVar 0)))
def ff_tupled : Nat → List D → RF
  | 0 => fun _ => .fail
  | n + 1 => mkF 2 [false] (b_tupled (ff_tupled n))
abbrev f_tupled : List D → RF := ff_tupled 6
def b_holds : MS := (mRet (mCh dLe dLe (mPk 0 dIx (mC (.int 0))) (mVar 1) (mPk 0 dIx (mC (.int 1)))))
def f_holds : List D → RF := mkF 2 [false, false] b_holds
def b_is_met : MS := (mRet (mFn dAny (mCons (mLc (mOn asS (mVar 1)) (gN 2) mYes (mCall [false, false] f_holds 2 0 [0, 1] [] (aV (mVar 0) (aV (mVar 2) aNil)) mNil) [2]) mNil)))
def f_is_met : List D → RF := mkF 3 [false, false] b_is_met
def b_goes_0 : MS := (mAsg (gTS 2 1 (Sm.gCons (gN 1) (Sm.gCons (gN 2) Sm.gNil))) (mCall [false] f_tupled 1 0 [0] [] (aV (mVar 0) aNil) mNil))
def b_goes_1 : MS := (mIfS (mB (mOp dEq (mVar 1) (mC (.str "new")))) (mRet (mTup mNil)) mNx)
def b_goes_2 : MS := (mRet (mIf (mB (mOp dEq (mVar 1) (mC (.str "cross")))) (mCall [false] f_set_of 1 0 [0] [] (aV (mVar 2) aNil) mNil) (mTup (mCons (mPk 2 dIx (mC (.int 0))) mNil))))
def b_goes : MS := (mSeq b_goes_0 (mSeq b_goes_1 b_goes_2))
def f_goes : List D → RF := mkF 3 [false] b_goes
def b_comes_0 : MS := (mAsg (gTS 3 2 (Sm.gCons (gN 1) (Sm.gCons (gN 2) (Sm.gCons (gN 3) Sm.gNil)))) (mCall [false] f_tupled 1 0 [0] [] (aV (mVar 0) aNil) mNil))
def b_comes_1 : MS := (mIfS (mB (mOp dEq (mVar 1) (mC (.str "new")))) (mRet (mTup (mCons (mVar 2) mNil))) mNx)
def b_comes_2 : MS := (mIfS (mB (mOp dEq (mVar 1) (mC (.str "split")))) (mRet (mTup (mCons (mTup (mCons (mPk 2 dIx (mC (.int 0))) (mCons (mPk 3 dIx (mC (.int 0))) mNil))) (mCons (mTup (mCons (mOp dAdd (mPk 3 dIx (mC (.int 0))) (mC (.int 1))) (mCons (mPk 2 dIx (mC (.int 1))) mNil))) mNil)))) mNx)
def b_comes_3 : MS := (mRet (mIf (mB (mOp dEq (mVar 1) (mC (.str "cross")))) (mTup (mCons (mTup (mCons (mPk 2 dIx (mC (.int 0))) (mCons (mOp dIx (mPk 3 dIx (mC (.int 0))) (mC (.int 1))) mNil))) (mCons (mTup (mCons (mOp dIx (mPk 3 dIx (mC (.int 0))) (mC (.int 0))) (mCons (mPk 2 dIx (mC (.int 1))) mNil))) mNil))) (mTup (mCons (mPk 3 dIx (mC (.int 0))) mNil))))
def b_comes : MS := (mSeq b_comes_0 (mSeq b_comes_1 (mSeq b_comes_2 b_comes_3)))
def f_comes : List D → RF := mkF 4 [false] b_comes
def b_more_met_0 : MS := (mSet 2 (mFn dLen (mCons (mLc (mOn asS (mCall [false] f_goes 1 0 [0] [] (aV (mVar 0) aNil) mNil)) (gN 3) (mB (mCall [false, false] f_is_met 2 0 [0, 1] [] (aV (mVar 3) (aV (mVar 1) aNil)) mNil)) (mVar 3) [3]) mNil)))
def b_more_met_1 : MS := (mRet (mOp dSub (mFn dLen (mCons (mLc (mOn asS (mCall [false] f_comes 1 0 [0] [] (aV (mVar 0) aNil) mNil)) (gN 3) (mB (mCall [false, false] f_is_met 2 0 [0, 1] [] (aV (mVar 3) (aV (mVar 1) aNil)) mNil)) (mVar 3) [3]) mNil)) (mVar 2)))
def b_more_met : MS := (mSeq b_more_met_0 b_more_met_1)
def f_more_met : List D → RF := mkF 4 [false, false] b_more_met
def b_ticks_for_0 : MS := (mAsg (gTS 3 2 (Sm.gCons (gN 1) (Sm.gCons (gN 2) (Sm.gCons (gN 3) Sm.gNil)))) (mCall [false] f_tupled 1 0 [0] [] (aV (mVar 0) aNil) mNil))
def b_ticks_for_1 : MS := (mIfS (mB (mOp dEq (mVar 1) (mC (.str "new")))) (mRet (mTup (mCons (mPk 2 dIx (mC (.int 0))) mNil))) mNx)
def b_ticks_for_2 : MS := (mIfS (mB (mOp dEq (mVar 1) (mC (.str "split")))) (mRet (mTup (mCons (mPk 2 dIx (mC (.int 0))) (mCons (mOp dAdd (mPk 3 dIx (mC (.int 0))) (mC (.int 1))) mNil)))) mNx)
def b_ticks_for_3 : MS := (mIfS (mB (mOp dEq (mVar 1) (mC (.str "cross")))) (mRet (mTup (mCons (mPk 2 dIx (mC (.int 0))) (mCons (mOp dAdd (mOp dIx (mPk 3 dIx (mC (.int 0))) (mC (.int 1))) (mC (.int 1))) mNil)))) mNx)
def b_ticks_for_4 : MS := (mRet (mIf (mB (mOp dLt (mOp dIx (mPk 3 dIx (mC (.int 0))) (mC (.int 0))) (mPk 2 dIx (mC (.int 0))))) (mTup (mCons (mOp dIx (mPk 3 dIx (mC (.int 0))) (mC (.int 0))) mNil)) (mTup (mCons (mOp dAdd (mPk 2 dIx (mC (.int 1))) (mC (.int 1))) mNil))))
def b_ticks_for : MS := (mSeq b_ticks_for_0 (mSeq b_ticks_for_1 (mSeq b_ticks_for_2 (mSeq b_ticks_for_3 b_ticks_for_4))))
def f_ticks_for : List D → RF := mkF 4 [false] b_ticks_for
abbrev b_box : MS := b_boxC 61734
abbrev f_box : List D → RF := f_boxC 61734
def b_in : MS := (mRet (mOp dNe (mLc (mOn asS (mVar 1)) (gN 2) (mB (mCh dLe dLe (mPk 0 dIx (mC (.int 0))) (mVar 2) (mPk 0 dIx (mC (.int 1))))) (mVar 2) [2]) (mLst mNil)))
def f_in : List D → RF := mkF 3 [false, false] b_in
def b_rows_0 : MS := (mSet 1 (mLst (mCons (mTup mNil) mNil)))
def b_rows_1 : MS := (mFor (mOns rng1 (mCons (mVar 0) mNil)) (gN 2) (mSet 1 (mOp dAdd (mVar 1) (mLc (mOn asS (mVar 1)) (gN 3) mYes (mOp dAdd (mVar 3) (mTup (mCons (mVar 2) mNil))) [3]))))
def b_rows_2 : MS := (mRet (mVar 1))
def b_rows : MS := (mSeq b_rows_0 (mSeq b_rows_1 b_rows_2))
def f_rows : List D → RF := mkF 4 [false] b_rows
def b_gone_0 : MS := (mIfS (mB (mOp dEq (mPk 0 dIx (mC (.int 0))) (mC (.str "new")))) (mRet (mLst mNil)) mNx)
def b_gone_1 : MS := (mRet (mIf (mB (mOp dEq (mPk 0 dIx (mC (.int 0))) (mC (.str "cross")))) (mLst (mCons (mPk 0 dIx (mC (.int 1))) (mCons (mPk 0 dIx (mC (.int 2))) mNil))) (mLst (mCons (mPk 0 dIx (mC (.int 1))) mNil))))
def b_gone : MS := (mSeq b_gone_0 b_gone_1)
def f_gone : List D → RF := mkF 1 [false] b_gone
def b_fresh_0 : MS := (mIfS (mB (mOp dEq (mPk 0 dIx (mC (.int 0))) (mC (.str "new")))) (mRet (mLst (mCons (mPk 0 dIx (mC (.int 1))) mNil))) mNx)
def b_fresh_1 : MS := (mIfS (mB (mOp dEq (mPk 0 dIx (mC (.int 0))) (mC (.str "longer")))) (mRet (mLst (mCons (mPk 0 dIx (mC (.int 2))) mNil))) mNx)
def b_fresh_2 : MS := (mAsg (gT 2 (Sm.gCons (gN 1) (Sm.gCons (gN 2) Sm.gNil))) (mPk 0 dIx (mC (.int 1))))
def b_fresh_3 : MS := (mIfS (mB (mOp dEq (mPk 0 dIx (mC (.int 0))) (mC (.str "split")))) (mRet (mLst (mCons (mTup (mCons (mVar 1) (mCons (mPk 0 dIx (mC (.int 2))) mNil))) (mCons (mTup (mCons (mOp dAdd (mPk 0 dIx (mC (.int 2))) (mC (.int 1))) (mCons (mVar 2) mNil))) mNil)))) mNx)
def b_fresh_4 : MS := (mRet (mLst (mCons (mTup (mCons (mVar 1) (mCons (mOp dIx (mPk 0 dIx (mC (.int 2))) (mC (.int 1))) mNil))) (mCons (mTup (mCons (mOp dIx (mPk 0 dIx (mC (.int 2))) (mC (.int 0))) (mCons (mVar 2) mNil))) mNil))))
def b_fresh : MS := (mSeq b_fresh_0 (mSeq b_fresh_1 (mSeq b_fresh_2 (mSeq b_fresh_3 b_fresh_4))))
def f_fresh : List D → RF := mkF 3 [false] b_fresh
def b_deed_0 : MS := (mPar 2 3 (mCall [true, false] f_take 2 0 [0, 1] [] (aIo 0 (aV (mC (.int 4)) aNil)) mNil) (mCall [true, false] f_stay 2 0 [0, 1] [] (aIo 0 (aV (mVar 1) aNil)) mNil))
def b_deed_1 : MS := (mAsg (gT 2 (Sm.gCons (gN 4) (Sm.gCons (gN 5) Sm.gNil))) (mVar 3))
def b_deed_2 : MS := (mIfS (mAnd (mB (mOp dEq (mVar 2) (mC (.int 1)))) (mOr (mB (mOp dGt (mVar 4) (mC (.int 0)))) (mB (mOp dLt (mVar 5) (mOp dSub (mVar 1) (mC (.int 1))))))) (mSeq (mSet 6 (mCall [true, false] f_take 2 0 [0, 1] [] (aIo 0 (aV (mOp dAdd (mVar 4) (mC (.int 1))) aNil)) mNil))
    (mSeq (mSet 7 (mOp dAdd (mVar 5) (mCall [true, false] f_take 2 0 [0, 1] [] (aIo 0 (aV (mOp dSub (mVar 1) (mVar 5)) aNil)) mNil)))
    (mSeq (mSet 7 (mOp dAdd (mVar 7) (mFn dInt (mCons (mAndV (mOp dEq (mTup (mCons (mVar 6) (mCons (mVar 7) mNil))) (mVar 3)) (mOp dLt (mVar 7) (mOp dSub (mVar 1) (mC (.int 1))))) mNil))))
    (mSeq (mSet 6 (mOp dSub (mVar 6) (mFn dInt (mCons (mOp dEq (mTup (mCons (mVar 6) (mCons (mVar 7) mNil))) (mVar 3)) mNil))))
    (mRet (mTup (mCons (mC (.str "longer")) (mCons (mVar 3) (mCons (mTup (mCons (mVar 6) (mCons (mVar 7) mNil))) mNil))))))))) mNx)
def b_deed_3 : MS := (mIfS (mAnd (mB (mOp dEq (mVar 2) (mC (.int 2)))) (mB (mOp dLt (mVar 4) (mVar 5)))) (mRet (mTup (mCons (mC (.str "split")) (mCons (mVar 3) (mCons (mOp dAdd (mVar 4) (mCall [true, false] f_take 2 0 [0, 1] [] (aIo 0 (aV (mOp dSub (mVar 5) (mVar 4)) aNil)) mNil)) mNil))))) mNx)
def b_deed_4 : MS := (mIfS (mAnd (mB (mOp dEq (mVar 2) (mC (.int 3)))) (mB (mOp dGt (mOp dSub (mVar 5) (mVar 4)) (mC (.int 1))))) (mSeq (mSetO 8 (mLc (mOns rng1 (mCons (mC (.int 2)) mNil)) (gN 9) mYes (mOp dAdd (mOp dAdd (mVar 4) (mC (.int 1))) (mCall [true, false] f_take 2 0 [0, 1] [] (aIo 0 (aV (mOp dSub (mOp dSub (mVar 5) (mVar 4)) (mC (.int 1))) aNil)) mNil)) [9]))
    (mRet (mTup (mCons (mC (.str "cross")) (mCons (mVar 3) (mCons (mTup (mCons (mFn dMin1 (mCons (mVar 8) mNil)) (mCons (mFn dMax1 (mCons (mVar 8) mNil)) mNil))) mNil)))))) mNx)
def b_deed_5 : MS := (mRet (mTup (mCons (mC (.str "new")) (mCons (mVar 3) mNil))))
def b_deed : MS := (mSeq b_deed_0 (mSeq b_deed_1 (mSeq b_deed_2 (mSeq b_deed_3 (mSeq b_deed_4 b_deed_5)))))
def f_deed : List D → RF := mkF 10 [true, false] b_deed
def b_more_0 : MS := (mSet 2 (mFn dLen (mCons (mLc (mOn asS (mCall [false] f_fresh 1 0 [0] [] (aV (mVar 0) aNil) mNil)) (gN 3) (mB (mCall [false, false] f_in 2 0 [0, 1] [] (aV (mVar 3) (aV (mVar 1) aNil)) mNil)) (mVar 3) [3]) mNil)))
def b_more_1 : MS := (mRet (mOp dSub (mVar 2) (mFn dLen (mCons (mLc (mOn asS (mCall [false] f_gone 1 0 [0] [] (aV (mVar 0) aNil) mNil)) (gN 3) (mB (mCall [false, false] f_in 2 0 [0, 1] [] (aV (mVar 3) (aV (mVar 1) aNil)) mNil)) (mVar 3) [3]) mNil))))
def b_more : MS := (mSeq b_more_0 b_more_1)
def f_more : List D → RF := mkF 4 [false, false] b_more
def b_by_hand_right_0 : MS := (mSet 0 (mOp dPow (mC (.int 10)) (mC (.int 40))))
def b_by_hand_right_1 : MS := (mAsg (gT 2 (Sm.gCons (gN 1) (Sm.gCons (gN 2) Sm.gNil))) (mTup (mCons (mTup (mCons (mC (.str "cross")) (mCons (mTup (mCons (mC (.int 0)) (mCons (mVar 0) mNil))) (mCons (mTup (mCons (mC (.int 5)) (mCons (mOp dSub (mVar 0) (mC (.int 7))) mNil))) mNil)))) (mCons (mFn dTuple (mCons (mLc (mOns rng1 (mCons (mC (.int 60)) mNil)) (gN 8) mYes (mOp dMul (mC (.int 2)) (mVar 8)) [8]) mNil)) mNil))))
def b_by_hand_right_2 : MS := (mSet 3 (mTup (mCons (mTup mNil) (mCons (mTup (mCons (mC (.int 1)) mNil)) (mCons (mTup (mCons (mC (.int 2)) mNil)) (mCons (mTup (mCons (mC (.int 1)) (mCons (mC (.int 3)) mNil))) (mCons (mTup (mCons (mC (.int 1)) (mCons (mC (.int 2)) (mCons (mC (.int 3)) mNil)))) (mCons (mTup (mCons (mC (.int 5)) mNil)) (mCons (mTup (mCons (mC (.int 0)) (mCons (mC (.int 4)) mNil))) mNil)))))))))
def b_by_hand_right_3 : MS := (mSetO 4 (mLst (mCons (mLc (mOn asS (mVar 3)) (gN 7) mYes (mCall [false, false] f_more_met 2 0 [0, 1] [] (aV (mTup (mCons (mC (.str "cross")) (mCons (mTup (mCons (mC (.int 1)) (mCons (mC (.int 3)) mNil))) (mCons (mTup (mCons (mC (.int 2)) (mCons (mC (.int 2)) mNil))) mNil)))) (aV (mVar 7) aNil)) mNil) [7]) mNil)))
def b_by_hand_right_4 : MS := (mSetO 5 (mLst (mCons (mLst (mCons (mC (.int 0)) (mCons (mC (.int 0)) (mCons (mC (.int 0)) (mCons (mC (.int 1)) (mCons (mC (.int 0)) (mCons (mC (.int 0)) (mCons (mC (.int 0)) mNil)))))))) mNil)))
def b_by_hand_right_5 : MS := (mSet 3 (mTup (mCons (mTup (mCons (mC (.int 2)) mNil)) (mCons (mTup (mCons (mC (.int 4)) mNil)) (mCons (mTup (mCons (mC (.int 3)) (mCons (mC (.int 4)) mNil))) (mCons (mTup (mCons (mC (.int 2)) (mCons (mC (.int 3)) mNil))) (mCons (mTup (mCons (mC (.int 2)) (mCons (mC (.int 5)) mNil))) (mCons (mTup (mCons (mC (.int 1)) (mCons (mC (.int 6)) mNil))) (mCons (mTup mNil) mNil)))))))))
def b_by_hand_right_6 : MS := (mDrop (mApp 4 (mLc (mOn asS (mVar 3)) (gN 7) mYes (mCall [false, false] f_more_met 2 0 [0, 1] [] (aV (mTup (mCons (mC (.str "split")) (mCons (mTup (mCons (mC (.int 2)) (mCons (mC (.int 5)) mNil))) (mCons (mC (.int 3)) mNil)))) (aV (mVar 7) aNil)) mNil) [7])))
def b_by_hand_right_7 : MS := (mDrop (mApp 5 (mLst (mCons (mC (.int 0)) (mCons (mC (.int 0)) (mCons (mC (.int 1)) (mCons (mC (.int 0)) (mCons (mC (.int 1)) (mCons (mC (.int 0)) (mCons (mC (.int 0)) mNil))))))))))
def b_by_hand_right_8 : MS := (mSet 3 (mTup (mCons (mTup (mCons (mC (.int 1)) mNil)) (mCons (mTup (mCons (mC (.int 7)) mNil)) (mCons (mTup (mCons (mC (.int 6)) (mCons (mC (.int 7)) mNil))) (mCons (mTup (mCons (mC (.int 2)) mNil)) (mCons (mTup (mCons (mC (.int 1)) (mCons (mC (.int 4)) mNil))) (mCons (mTup (mCons (mC (.int 8)) mNil)) (mCons (mTup mNil) mNil)))))))))
def b_by_hand_right_9 : MS := (mDrop (mApp 4 (mLc (mOn asS (mVar 3)) (gN 7) mYes (mCall [false, false] f_more_met 2 0 [0, 1] [] (aV (mTup (mCons (mC (.str "longer")) (mCons (mTup (mCons (mC (.int 2)) (mCons (mC (.int 5)) mNil))) (mCons (mTup (mCons (mC (.int 1)) (mCons (mC (.int 7)) mNil))) mNil)))) (aV (mVar 7) aNil)) mNil) [7])))
def b_by_hand_right_10 : MS := (mDrop (mApp 5 (mLst (mCons (mC (.int 1)) (mCons (mC (.int 1)) (mCons (mC (.int 1)) (mCons (mC (.int 0)) (mCons (mC (.int 0)) (mCons (mC (.int 0)) (mCons (mC (.int 0)) mNil))))))))))
def b_by_hand_right_11 : MS := (mDrop (mApp 4 (mLc (mOn asS (mTup (mCons (mTup (mCons (mC (.int 1)) (mCons (mC (.int 6)) mNil))) (mCons (mTup (mCons (mC (.int 2)) (mCons (mC (.int 3)) mNil))) (mCons (mTup (mCons (mC (.int 5)) mNil)) (mCons (mTup mNil) mNil)))))) (gN 7) mYes (mCall [false, false] f_more_met 2 0 [0, 1] [] (aV (mTup (mCons (mC (.str "new")) (mCons (mTup (mCons (mC (.int 2)) (mCons (mC (.int 5)) mNil))) mNil))) (aV (mVar 7) aNil)) mNil) [7])))
def b_by_hand_right_12 : MS := (mDrop (mApp 5 (mLst (mCons (mC (.int 0)) (mCons (mC (.int 1)) (mCons (mC (.int 1)) (mCons (mC (.int 0)) mNil)))))))
def b_by_hand_right_13 : MS := (mSet 3 (mTup (mCons (mTup (mCons (mC (.int 0)) (mCons (mVar 0) mNil))) (mCons (mTup (mCons (mC (.int 4)) (mCons (mOp dSub (mVar 0) (mC (.int 6))) mNil))) (mCons (mTup (mCons (mC (.int 4)) (mCons (mOp dSub (mVar 0) (mC (.int 7))) mNil))) (mCons (mVar 2) (mCons (mTup (mCons (mC (.int 4)) (mCons (mOp dSub (mVar 0) (mC (.int 6))) (mCons (mVar 0) mNil)))) mNil)))))))
def b_by_hand_right_14 : MS := (mDrop (mApp 4 (mLc (mOn asS (mVar 3)) (gN 7) mYes (mCall [false, false] f_more_met 2 0 [0, 1] [] (aV (mVar 1) (aV (mVar 7) aNil)) mNil) [7])))
def b_by_hand_right_15 : MS := (mDrop (mApp 5 (mLst (mCons (mC (.int 1)) (mCons (mC (.int 1)) (mCons (mC (.int 0)) (mCons (mC (.int 0)) (mCons (mC (.int 1)) mNil))))))))
def b_by_hand_right_16 : MS := (mSet 6 (mTup (mCons (mTup (mCons (mC (.str "cross")) (mCons (mTup (mCons (mC (.int 1)) (mCons (mC (.int 3)) mNil))) (mCons (mTup (mCons (mC (.int 2)) (mCons (mC (.int 2)) mNil))) mNil)))) (mCons (mTup (mCons (mC (.str "cross")) (mCons (mTup (mCons (mC (.int 2)) (mCons (mC (.int 9)) mNil))) (mCons (mTup (mCons (mC (.int 4)) (mCons (mC (.int 6)) mNil))) mNil)))) (mCons (mVar 1) (mCons (mTup (mCons (mC (.str "new")) (mCons (mTup (mCons (mC (.int 2)) (mCons (mC (.int 5)) mNil))) mNil))) mNil))))))
def b_by_hand_right_17 : MS := (mDrop (mApp 4 (mLc (mOn asS (mVar 6)) (gN 7) mYes (mCall [false] f_ticks_for 1 0 [0] [] (aV (mVar 7) aNil) mNil) [7])))
def b_by_hand_right_18 : MS := (mDrop (mApp 5 (mLst (mCons (mTup (mCons (mC (.int 1)) (mCons (mC (.int 3)) mNil))) (mCons (mTup (mCons (mC (.int 2)) (mCons (mC (.int 7)) mNil))) (mCons (mTup (mCons (mC (.int 0)) (mCons (mOp dSub (mVar 0) (mC (.int 6))) mNil))) (mCons (mTup (mCons (mC (.int 2)) mNil)) mNil)))))))
def b_by_hand_right_19 : MS := (mSet 6 (mTup (mCons (mTup (mCons (mC (.str "longer")) (mCons (mTup (mCons (mC (.int 2)) (mCons (mC (.int 5)) mNil))) (mCons (mTup (mCons (mC (.int 2)) (mCons (mC (.int 7)) mNil))) mNil)))) (mCons (mTup (mCons (mC (.str "longer")) (mCons (mTup (mCons (mC (.int 2)) (mCons (mC (.int 5)) mNil))) (mCons (mTup (mCons (mC (.int 0)) (mCons (mC (.int 7)) mNil))) mNil)))) (mCons (mTup (mCons (mC (.str "longer")) (mCons (mTup (mCons (mC (.int 2)) (mCons (mC (.int 5)) mNil))) (mCons (mTup (mCons (mC (.int 1)) (mCons (mC (.int 5)) mNil))) mNil)))) mNil)))))
def b_by_hand_right_20 : MS := (mDrop (mApp 4 (mLc (mOn asS (mVar 6)) (gN 7) mYes (mCall [false] f_ticks_for 1 0 [0] [] (aV (mVar 7) aNil) mNil) [7])))
def b_by_hand_right_21 : MS := (mDrop (mApp 5 (mLst (mCons (mTup (mCons (mC (.int 6)) mNil)) (mCons (mTup (mCons (mC (.int 0)) mNil)) (mCons (mTup (mCons (mC (.int 1)) mNil)) mNil))))))
def b_by_hand_right_22 : MS := (mSet 6 (mTup (mCons (mTup (mCons (mC (.str "split")) (mCons (mTup (mCons (mC (.int 2)) (mCons (mC (.int 5)) mNil))) (mCons (mC (.int 4)) mNil)))) (mCons (mTup (mCons (mC (.str "split")) (mCons (mTup (mCons (mC (.int 2)) (mCons (mC (.int 5)) mNil))) (mCons (mC (.int 2)) mNil)))) (mCons (mTup (mCons (mC (.str "split")) (mCons (mTup (mCons (mC (.int 0)) (mCons (mVar 0) mNil))) (mCons (mOp dSub (mVar 0) (mC (.int 1))) mNil)))) mNil)))))
def b_by_hand_right_23 : MS := (mDrop (mApp 4 (mLc (mOn asS (mVar 6)) (gN 7) mYes (mCall [false] f_ticks_for 1 0 [0] [] (aV (mVar 7) aNil) mNil) [7])))
def b_by_hand_right_24 : MS := (mDrop (mApp 5 (mLst (mCons (mTup (mCons (mC (.int 2)) (mCons (mC (.int 5)) mNil))) (mCons (mTup (mCons (mC (.int 2)) (mCons (mC (.int 3)) mNil))) (mCons (mTup (mCons (mC (.int 0)) (mCons (mVar 0) mNil))) mNil))))))
def b_by_hand_right_25 : MS := (mSetO 4 (mPk 4 dAddF (mLst (mCons (mCall [false, false] f_more_met 0 2 [1, 0] [] aNil (mCons (mLst (mCons (mC (.int 1)) (mCons (mC (.int 3)) mNil))) (mCons (mLst (mCons (mC (.str "cross")) (mCons (mLst (mCons (mC (.int 1)) (mCons (mC (.int 3)) mNil))) (mCons (mLst (mCons (mC (.int 2)) (mCons (mC (.int 2)) mNil))) mNil)))) mNil))) mNil))))
def b_by_hand_right_26 : MS := (mSetO 4 (mPk 4 dAddF (mLst (mCons (mCall [false] f_ticks_for 0 1 [0] [] aNil (mCons (mLst (mCons (mC (.str "split")) (mCons (mLst (mCons (mC (.int 2)) (mCons (mC (.int 5)) mNil))) (mCons (mC (.int 4)) mNil)))) mNil)) mNil))))
def b_by_hand_right_27 : MS := (mRet (mCall [false, false] f_same 2 0 [0, 1] [] (aV (mVar 4) (aV (mPk 5 dAdd (mLst (mCons (mC (.int 1)) (mCons (mTup (mCons (mC (.int 2)) (mCons (mC (.int 5)) mNil))) mNil)))) aNil)) mNil))
def b_by_hand_right : MS := (mSeq b_by_hand_right_0 (mSeq b_by_hand_right_1 (mSeq b_by_hand_right_2 (mSeq b_by_hand_right_3 (mSeq b_by_hand_right_4 (mSeq b_by_hand_right_5 (mSeq b_by_hand_right_6 (mSeq b_by_hand_right_7 (mSeq b_by_hand_right_8 (mSeq b_by_hand_right_9 (mSeq b_by_hand_right_10 (mSeq b_by_hand_right_11 (mSeq b_by_hand_right_12 (mSeq b_by_hand_right_13 (mSeq b_by_hand_right_14 (mSeq b_by_hand_right_15 (mSeq b_by_hand_right_16 (mSeq b_by_hand_right_17 (mSeq b_by_hand_right_18 (mSeq b_by_hand_right_19 (mSeq b_by_hand_right_20 (mSeq b_by_hand_right_21 (mSeq b_by_hand_right_22 (mSeq b_by_hand_right_23 (mSeq b_by_hand_right_24 (mSeq b_by_hand_right_25 (mSeq b_by_hand_right_26 b_by_hand_right_27)))))))))))))))))))))))))))
def f_by_hand_right : List D → RF := mkF 9 [] b_by_hand_right
def b_right_0 : MS := (mSet 1 (mCall [true, false] f_deed 2 0 [0, 1] [] (aIo 0 (aV (mC (.int 6)) aNil)) mNil))
def b_right_1 : MS := (mPar 2 3 (mCall [false] f_lists 1 0 [0] [] (aV (mVar 1) aNil) mNil) (mCall [false] f_rows 1 0 [0] [] (aV (mC (.int 7)) aNil) mNil))
def b_right_2 : MS := (mSetO 4 (mLc (mOn asS (mVar 3)) (gN 9) mYes (mCall [false, false] f_more 2 0 [0, 1] [] (aV (mVar 1) (aV (mVar 9) aNil)) mNil) [9]))
def b_right_3 : MS := (mIfS (mNot (mB (mCall [false, false] f_same 2 0 [0, 1] [] (aV (mLc (mOn asS (mVar 3)) (gN 9) mYes (mCall [false, false] f_more_met 2 0 [0, 1] [] (aV (mVar 1) (aV (mVar 9) aNil)) mNil) [9]) (aV (mVar 4) aNil)) mNil))) (mRet (mC (.bl false))) mNx)
def b_right_4 : MS := (mIfS (mB (mOp dNe (mLc (mOn asS (mVar 4)) (gN 9) (mB (mOp dNotIn2 (mVar 9) (mTup (mCons (mC (.int 0)) (mCons (mC (.int 1)) mNil))))) (mVar 9) [9]) (mLst mNil))) (mRet (mC (.bl false))) mNx)
def b_right_5 : MS := (mSetO 5 (mLc (mOn asS (mVar 3)) (gN 9) (mB (mOp dEq (mCall [false, false] f_more 2 0 [0, 1] [] (aV (mVar 1) (aV (mVar 9) aNil)) mNil) (mC (.int 1)))) (mVar 9) [9]))
def b_right_6 : MS := (mSet 6 (mFn dMin1 (mCons (mLc (mOn asS (mVar 5)) (gN 9) mYes (mFn dLen (mCons (mVar 9) mNil)) [9]) mNil)))
def b_right_7 : MS := (mSet 7 (mFn dMin1 (mCons (mLc (mOn asS (mVar 5)) (gN 9) (mB (mOp dEq (mFn dLen (mCons (mVar 9) mNil)) (mVar 6))) (mVar 9) [9]) mNil)))
def b_right_8 : MS := (mSet 8 (mLst (mCons (mCall [false] f_ticks_for 1 0 [0] [] (aV (mVar 1) aNil) mNil) (mCons (mCall [false] f_ticks_for 1 0 [0] [] (aV (mVar 2) aNil) mNil) (mCons (mCall [false, false] f_more_met 2 0 [0, 1] [] (aV (mVar 2) (aV (mFnF nList (mCons (mVar 7) mNil)) aNil)) mNil) mNil)))))
def b_right_9 : MS := (mRet (mAndV (mCall [false, false] f_same 2 0 [0, 1] [] (aV (mVar 8) (aV (mLst (mCons (mVar 7) (mCons (mVar 7) (mCons (mC (.int 1)) mNil)))) aNil)) mNil) (mOp dEq (mVar 2) (mCall [false] f_lists 1 0 [0] [] (aV (mVar 1) aNil) mNil))))
def b_right : MS := (mSeq b_right_0 (mSeq b_right_1 (mSeq b_right_2 (mSeq b_right_3 (mSeq b_right_4 (mSeq b_right_5 (mSeq b_right_6 (mSeq b_right_7 (mSeq b_right_8 b_right_9)))))))))
def f_right : List D → RF := mkF 10 [true] b_right
def b_law : MS := (mSeq (mIfS (mNot (mB (mCall [] f_by_hand_right 0 0 [] [] aNil mNil))) (mRet (mC (.bl false))) mNx)
    (mSeq (mSet 1 (mCall [false, false] f_cells 2 0 [0, 1] [] (aV (mVar 0) (aV (mC (.int 3)) aNil)) mNil))
    (mSeq (mFor (mOns rng1 (mCons (mFn dLen (mCons (mVar 1) mNil)) mNil)) (gN 2) (mSeq (mSetO 3 (mCallF [false, false] f_box 2 [0, 1] [] (aV (mVar 1) (aV (mVar 2) aNil))))
    (mIfS (mNot (mB (mFn dAll (mCons (mLc (mOns rng1 (mCons (mC (.int 6)) mNil)) (gN 4) mYes (mCall [true] f_right 1 0 [0] [] (aIo 3 aNil) mNil) [4]) mNil)))) (mRet (mC (.bl false))) mNx)))
    (mRet (mC (.bl true))))))
def f_law : List D → RF := mkF 5 [false] b_law
theorem law_is : f_law = mkF 5 [false] (lawA f_by_hand_right f_box f_right 6) := rfl
end Sm
set_option Elab.async false
set_option linter.all false
set_option maxRecDepth 100000
set_option maxHeartbeats 400000
namespace Sm
open PySem PySem.Spec PyProof.Rows L2
def topS (i : Nat) : Stmt := PySem.Challenge.pw_staysmet_k34_who_is_met_behind_a_move.main.body.getD i (.Pass ⟨0, 0, 0, 0⟩)
abbrev s_set_of : Stmt := topS 1
abbrev s_tupled : Stmt := topS 2
abbrev s_holds : Stmt := topS 4
abbrev s_is_met : Stmt := topS 5
abbrev s_goes : Stmt := topS 10
abbrev s_comes : Stmt := topS 11
abbrev s_more_met : Stmt := topS 12
abbrev s_ticks_for : Stmt := topS 13
abbrev s_box : Stmt := topS 15
abbrev s_take : Stmt := topS 16
abbrev s_cells : Stmt := topS 17
abbrev s_same : Stmt := topS 18
abbrev s_lists : Stmt := topS 19
abbrev s_stay : Stmt := topS 20
abbrev s_in : Stmt := topS 21
abbrev s_rows : Stmt := topS 22
abbrev s_gone : Stmt := topS 23
abbrev s_fresh : Stmt := topS 24
abbrev s_deed : Stmt := topS 25
abbrev s_more : Stmt := topS 26
abbrev s_by_hand_right : Stmt := topS 27
abbrev s_right : Stmt := topS 28
abbrev s_law : Stmt := topS 29
/-- what the top has written -/
structure Top (L : Lay) (mg : Str → Option Value) where
  a_set_of : Addr
  d_set_of : FuncData
  F_set_of : Fun L.K "set_of" "set_of" s_set_of a_set_of d_set_of
  m_set_of : mg "set_of" = some (.ref a_set_of)
  a_tupled : Addr
  d_tupled : FuncData
  F_tupled : Fun L.K "tupled" "tupled" s_tupled a_tupled d_tupled
  m_tupled : mg "tupled" = some (.ref a_tupled)
  a_holds : Addr
  d_holds : FuncData
  F_holds : Fun L.K "holds" "holds" s_holds a_holds d_holds
  m_holds : mg "holds" = some (.ref a_holds)
  a_is_met : Addr
  d_is_met : FuncData
  F_is_met : Fun L.K "is_met" "is_met" s_is_met a_is_met d_is_met
  m_is_met : mg "is_met" = some (.ref a_is_met)
  a_goes : Addr
  d_goes : FuncData
  F_goes : Fun L.K "goes" "goes" s_goes a_goes d_goes
  m_goes : mg "goes" = some (.ref a_goes)
  a_comes : Addr
  d_comes : FuncData
  F_comes : Fun L.K "comes" "comes" s_comes a_comes d_comes
  m_comes : mg "comes" = some (.ref a_comes)
  a_more_met : Addr
  d_more_met : FuncData
  F_more_met : Fun L.K "more_met" "more_met" s_more_met a_more_met d_more_met
  m_more_met : mg "more_met" = some (.ref a_more_met)
  a_ticks_for : Addr
  d_ticks_for : FuncData
  F_ticks_for : Fun L.K "ticks_for" "ticks_for" s_ticks_for a_ticks_for d_ticks_for
  m_ticks_for : mg "ticks_for" = some (.ref a_ticks_for)
  a_box : Addr
  d_box : FuncData
  F_box : Fun L.K "_law_box" "_law_box" s_box a_box d_box
  m_box : mg "_law_box" = some (.ref a_box)
  a_take : Addr
  d_take : FuncData
  F_take : Fun L.K "_law_take" "_law_take" s_take a_take d_take
  m_take : mg "_law_take" = some (.ref a_take)
  a_cells : Addr
  d_cells : FuncData
  F_cells : Fun L.K "_law_cells" "_law_cells" s_cells a_cells d_cells
  m_cells : mg "_law_cells" = some (.ref a_cells)
  a_same : Addr
  d_same : FuncData
  F_same : Fun L.K "_law_same" "_law_same" s_same a_same d_same
  m_same : mg "_law_same" = some (.ref a_same)
  a_lists : Addr
  d_lists : FuncData
  F_lists : Fun L.K "_law_lists" "_law_lists" s_lists a_lists d_lists
  m_lists : mg "_law_lists" = some (.ref a_lists)
  a_stay : Addr
  d_stay : FuncData
  F_stay : Fun L.K "_law_stay" "_law_stay" s_stay a_stay d_stay
  m_stay : mg "_law_stay" = some (.ref a_stay)
  a_in : Addr
  d_in : FuncData
  F_in : Fun L.K "_law_in" "_law_in" s_in a_in d_in
  m_in : mg "_law_in" = some (.ref a_in)
  a_rows : Addr
  d_rows : FuncData
  F_rows : Fun L.K "_law_rows" "_law_rows" s_rows a_rows d_rows
  m_rows : mg "_law_rows" = some (.ref a_rows)
  a_gone : Addr
  d_gone : FuncData
  F_gone : Fun L.K "_law_gone" "_law_gone" s_gone a_gone d_gone
  m_gone : mg "_law_gone" = some (.ref a_gone)
  a_fresh : Addr
  d_fresh : FuncData
  F_fresh : Fun L.K "_law_fresh" "_law_fresh" s_fresh a_fresh d_fresh
  m_fresh : mg "_law_fresh" = some (.ref a_fresh)
  a_deed : Addr
  d_deed : FuncData
  F_deed : Fun L.K "_law_deed" "_law_deed" s_deed a_deed d_deed
  m_deed : mg "_law_deed" = some (.ref a_deed)
  a_more : Addr
  d_more : FuncData
  F_more : Fun L.K "_law_more" "_law_more" s_more a_more d_more
  m_more : mg "_law_more" = some (.ref a_more)
  a_by_hand_right : Addr
  d_by_hand_right : FuncData
  F_by_hand_right : Fun L.K "_law_by_hand_right" "_law_by_hand_right" s_by_hand_right a_by_hand_right d_by_hand_right
  m_by_hand_right : mg "_law_by_hand_right" = some (.ref a_by_hand_right)
  a_right : Addr
  d_right : FuncData
  F_right : Fun L.K "_law_right" "_law_right" s_right a_right d_right
  m_right : mg "_law_right" = some (.ref a_right)
  a_law : Addr
  d_law : FuncData
  F_law : Fun L.K "law" "law" s_law a_law d_law
  m_law : mg "law" = some (.ref a_law)
  z_abs : mg "abs" = none
  z_all : mg "all" = none
  z_any : mg "any" = none
  z_bool : mg "bool" = none
  z_enumerate : mg "enumerate" = none
  z_int : mg "int" = none
  z_isinstance : mg "isinstance" = none
  z_len : mg "len" = none
  z_list : mg "list" = none
  z_max : mg "max" = none
  z_min : mg "min" = none
  z_range : mg "range" = none
  z_set : mg "set" = none
  z_sorted : mg "sorted" = none
  z_str : mg "str" = none
  z_tuple : mg "tuple" = none
  z_zip : mg "zip" = none
  t_CROSS : Tok
  v_CROSS : mg "CROSS" = some (.str "cross" t_CROSS)
  t_NEW : Tok
  v_NEW : mg "NEW" = some (.str "new" t_NEW)
  t_SPLIT : Tok
  v_SPLIT : mg "SPLIT" = some (.str "split" t_SPLIT)
section
variable {L : Lay} {mg : Str → Option Value} {w : World} {base : Heap}
theorem bd_tupled_1 (g : Top L mg) : Bd L g.d_tupled ["value"] 1 [] [0] [] := bd_of g.F_tupled 1 [] [0] fun _ _ _ _ _ _ us ws h1 h2 => match us, ws, h1, h2 with | [_], [], _, _ => rfl
theorem bd_holds_2 (g : Top L mg) : Bd L g.d_holds ["stay", "tick"] 2 [] [0, 1] [] := bd_of g.F_holds 2 [] [0, 1] fun _ _ _ _ _ _ us ws h1 h2 => match us, ws, h1, h2 with | [_, _], [], _, _ => rfl
theorem bd_set_of_1 (g : Top L mg) : Bd L g.d_set_of ["some"] 1 [] [0] [] := bd_of g.F_set_of 1 [] [0] fun _ _ _ _ _ _ us ws h1 h2 => match us, ws, h1, h2 with | [_], [], _, _ => rfl
theorem bd_comes_1 (g : Top L mg) : Bd L g.d_comes ["move"] 1 [] [0] [] := bd_of g.F_comes 1 [] [0] fun _ _ _ _ _ _ us ws h1 h2 => match us, ws, h1, h2 with | [_], [], _, _ => rfl
theorem bd_is_met_2 (g : Top L mg) : Bd L g.d_is_met ["stay", "timetable"] 2 [] [0, 1] [] := bd_of g.F_is_met 2 [] [0, 1] fun _ _ _ _ _ _ us ws h1 h2 => match us, ws, h1, h2 with | [_, _], [], _, _ => rfl
theorem bd_goes_1 (g : Top L mg) : Bd L g.d_goes ["move"] 1 [] [0] [] := bd_of g.F_goes 1 [] [0] fun _ _ _ _ _ _ us ws h1 h2 => match us, ws, h1, h2 with | [_], [], _, _ => rfl
theorem bd_same_2 (g : Top L mg) : Bd L g.d_same ["_law_got", "_law_due"] 2 [] [0, 1] [] := bd_of g.F_same 2 [] [0, 1] fun _ _ _ _ _ _ us ws h1 h2 => match us, ws, h1, h2 with | [_, _], [], _, _ => rfl
theorem bd_lists_1 (g : Top L mg) : Bd L g.d_lists ["_law_matter"] 1 [] [0] [] := bd_of g.F_lists 1 [] [0] fun _ _ _ _ _ _ us ws h1 h2 => match us, ws, h1, h2 with | [_], [], _, _ => rfl
theorem bd_take_2 (g : Top L mg) : Bd L g.d_take ["_law_box_here", "_law_size_so"] 2 [] [0, 1] [] := bd_of g.F_take 2 [] [0, 1] fun _ _ _ _ _ _ us ws h1 h2 => match us, ws, h1, h2 with | [_, _], [], _, _ => rfl
theorem bd_stay_2 (g : Top L mg) : Bd L g.d_stay ["_law_box_here", "_law_high_so"] 2 [] [0, 1] [] := bd_of g.F_stay 2 [] [0, 1] fun _ _ _ _ _ _ us ws h1 h2 => match us, ws, h1, h2 with | [_, _], [], _, _ => rfl
theorem bd_gone_1 (g : Top L mg) : Bd L g.d_gone ["_law_deed_here"] 1 [] [0] [] := bd_of g.F_gone 1 [] [0] fun _ _ _ _ _ _ us ws h1 h2 => match us, ws, h1, h2 with | [_], [], _, _ => rfl
theorem bd_in_2 (g : Top L mg) : Bd L g.d_in ["_law_own", "_law_row_so"] 2 [] [0, 1] [] := bd_of g.F_in 2 [] [0, 1] fun _ _ _ _ _ _ us ws h1 h2 => match us, ws, h1, h2 with | [_, _], [], _, _ => rfl
theorem bd_fresh_1 (g : Top L mg) : Bd L g.d_fresh ["_law_deed_here"] 1 [] [0] [] := bd_of g.F_fresh 1 [] [0] fun _ _ _ _ _ _ us ws h1 h2 => match us, ws, h1, h2 with | [_], [], _, _ => rfl
theorem bd_ticks_for_0_move (g : Top L mg) : Bd L g.d_ticks_for ["move"] 0 ["move"] [0] [] := bd_of g.F_ticks_for 0 ["move"] [0] fun _ _ _ _ _ _ us ws h1 h2 => match us, ws, h1, h2 with | [], [_], _, _ => rfl
theorem bd_more_met_0_timetable_move (g : Top L mg) : Bd L g.d_more_met ["move", "timetable"] 0 ["timetable", "move"] [1, 0] [] := bd_of g.F_more_met 0 ["timetable", "move"] [1, 0] fun _ _ _ _ _ _ us ws h1 h2 => match us, ws, h1, h2 with | [], [_, _], _, _ => rfl
theorem bd_ticks_for_1 (g : Top L mg) : Bd L g.d_ticks_for ["move"] 1 [] [0] [] := bd_of g.F_ticks_for 1 [] [0] fun _ _ _ _ _ _ us ws h1 h2 => match us, ws, h1, h2 with | [_], [], _, _ => rfl
theorem bd_more_met_2 (g : Top L mg) : Bd L g.d_more_met ["move", "timetable"] 2 [] [0, 1] [] := bd_of g.F_more_met 2 [] [0, 1] fun _ _ _ _ _ _ us ws h1 h2 => match us, ws, h1, h2 with | [_, _], [], _, _ => rfl
theorem bd_more_2 (g : Top L mg) : Bd L g.d_more ["_law_deed_here", "_law_row_so"] 2 [] [0, 1] [] := bd_of g.F_more 2 [] [0, 1] fun _ _ _ _ _ _ us ws h1 h2 => match us, ws, h1, h2 with | [_, _], [], _, _ => rfl
theorem bd_rows_1 (g : Top L mg) : Bd L g.d_rows ["_law_high_so"] 1 [] [0] [] := bd_of g.F_rows 1 [] [0] fun _ _ _ _ _ _ us ws h1 h2 => match us, ws, h1, h2 with | [_], [], _, _ => rfl
theorem bd_deed_2 (g : Top L mg) : Bd L g.d_deed ["_law_box_here", "_law_high_so"] 2 [] [0, 1] [] := bd_of g.F_deed 2 [] [0, 1] fun _ _ _ _ _ _ us ws h1 h2 => match us, ws, h1, h2 with | [_, _], [], _, _ => rfl
theorem bd_right_1 (g : Top L mg) : Bd L g.d_right ["_law_box_here"] 1 [] [0] [] := bd_of g.F_right 1 [] [0] fun _ _ _ _ _ _ us ws h1 h2 => match us, ws, h1, h2 with | [_], [], _, _ => rfl
theorem bd_box_2 (g : Top L mg) : Bd L g.d_box ["_law_script", "_law_k"] 2 [] [0, 1] [] := bd_of g.F_box 2 [] [0, 1] fun _ _ _ _ _ _ us ws h1 h2 => match us, ws, h1, h2 with | [_, _], [], _, _ => rfl
theorem bd_cells_2 (g : Top L mg) : Bd L g.d_cells ["_law_script", "_law_top_so"] 2 [] [0, 1] [] := bd_of g.F_cells 2 [] [0, 1] fun _ _ _ _ _ _ us ws h1 h2 => match us, ws, h1, h2 with | [_, _], [], _, _ => rfl
theorem bd_by_hand_right_0 (g : Top L mg) : Bd L g.d_by_hand_right [] 0 [] [] [] := bd_of g.F_by_hand_right 0 [] [] fun _ _ _ _ _ _ us ws h1 h2 => match us, ws, h1, h2 with | [], [], _, _ => rfl
/-! ### set_of -/
theorem sc_set_of : FnScope ["some"] ["some"] (defScope s_set_of) := ⟨rfl, rfl, rfl, by decide +kernel, rfl, by decide +kernel, by decide +kernel⟩
theorem ok_set_of (g : Top L mg) : FnOk L.pr L.w L.K mg base (L2.CX L.pr L.w) 1 g.a_set_of g.d_set_of ["some"] (spF L [false] f_set_of) := by
    have scope := sc_set_of
    exact fn_ok (N := ["some"]) (b := b_set_of) g.F_set_of sc_set_of rfl (by decide) fun cdv A outer s H E P hr =>
      (sS_one (sS_ret (sE_callTy call_tuple_of fs_tuple (by rfl) g.z_tuple bt_tuple (sA_cons (SE.of (sF_callB (cr_sorted3 rfl (of65 (room65 hr))) (ff_sorted3 (L := L)) (by rfl) g.z_sorted bt_sorted (sA_cons (sE_callTy (cr_set2 rfl (of65 (room65 hr))) (fs_set2 (L := L)) (by rfl) g.z_set bt_set (sA_cons (sE_var 0) sA_nil)) sA_nil))) sA_nil))))
/-! ### tupled -/
theorem sc_tupled : FnScope ["value", "part"] ["value"] (defScope s_tupled) := ⟨rfl, rfl, rfl, by decide +kernel, rfl, by decide +kernel, by decide +kernel⟩
theorem okn_tupled (g : Top L mg) : ∀ n : Nat, FnOk L.pr L.w L.K mg base (L2.CX L.pr L.w) (n + 0) g.a_tupled g.d_tupled ["value"] (spF L [false] (ff_tupled n))
  | 0 => fn_fail
  | n + 1 => by
    have self := okn_tupled g n
    have scope := sc_tupled
    rw [show n + 1 + 0 = (n + 0) + 1 by omega]
    exact fn_ok (N := ["value", "part"]) (b := b_tupled (ff_tupled n)) g.F_tupled sc_tupled rfl (by decide) fun cdv A outer s H E P hr =>
      (sS_one (sS_ret (sE_if (sT_val (sE_isi2 (t := "list") (t' := "tuple") rfl (by rfl) g.z_isinstance (pe_bltn (by rfl) g.z_list (by decide +kernel) rfl) (pe_bltn (by rfl) g.z_tuple (by decide +kernel) rfl) (sE_var 0))) (sE_callTy call_tuple_of fs_tuple (by rfl) g.z_tuple bt_tuple (sA_cons (SE.of (sF_lc (own := [("part", 1)]) rfl scope.nd (sI_seq rfl (sE_var 0)) (blkOk_by (by kernel_rfl)) (fun _ _ _ _ _ _ => (sC_name scope.nd (i := 1) (by rfl) (.inl rfl) (by decide))) (fun _ _ _ _ _ _ => sTs_nil) (fun _ _ _ _ _ _ => (sE_call rfl self hr (by rfl) g.m_tupled g.F_tupled.kp (bd_tupled_1 g) passNo (sAr_v (sE_var 1) sAr_nil))))) sA_nil)) (sE_var 0))))
theorem ok_tupled (g : Top L mg) : FnOk L.pr L.w L.K mg base (L2.CX L.pr L.w) 6 g.a_tupled g.d_tupled ["value"] (spF L [false] f_tupled) := okn_tupled g 6
/-! ### holds -/
theorem sc_holds : FnScope ["stay", "tick"] ["stay", "tick"] (defScope s_holds) := ⟨rfl, rfl, rfl, by decide +kernel, rfl, by decide +kernel, by decide +kernel⟩
theorem ok_holds (g : Top L mg) : FnOk L.pr L.w L.K mg base (L2.CX L.pr L.w) 1 g.a_holds g.d_holds ["stay", "tick"] (spF L [false, false] f_holds) := by
    have scope := sc_holds
    exact fn_ok (N := ["stay", "tick"]) (b := b_holds) g.F_holds sc_holds rfl (by decide) fun cdv A outer s H E P hr =>
      (sS_one (sS_ret (sE_chain op_le op_le os_le os_le (sE_ixP 0 rfl sE_int) (sE_var 1) (sE_ixP 0 rfl sE_int))))
/-! ### is_met -/
theorem sc_is_met : FnScope ["stay", "timetable", "tick"] ["stay", "timetable"] (defScope s_is_met) := ⟨rfl, rfl, rfl, by decide +kernel, rfl, by decide +kernel, by decide +kernel⟩
theorem ok_is_met (g : Top L mg) : FnOk L.pr L.w L.K mg base (L2.CX L.pr L.w) 2 g.a_is_met g.d_is_met ["stay", "timetable"] (spF L [false, false] f_is_met) := by
    have scope := sc_is_met
    exact fn_ok (N := ["stay", "timetable", "tick"]) (b := b_is_met) g.F_is_met sc_is_met rfl (by decide) fun cdv A outer s H E P hr =>
      (sS_one (sS_ret (sE_callB (cr_any rfl) fs_any (by rfl) g.z_any bt_any (sA_cons (SE.of (sF_lc (own := [("tick", 2)]) rfl scope.nd (sI_seq rfl (sE_var 1)) (blkOk_by (by kernel_rfl)) (fun _ _ _ _ _ _ => (sC_name scope.nd (i := 2) (by rfl) (.inl rfl) (by decide))) (fun _ _ _ _ _ _ => sTs_nil) (fun _ _ _ _ _ _ => (sE_call rfl ((ok_holds g).mono (by decide)) hr (by rfl) g.m_holds g.F_holds.kp (bd_holds_2 g) passNo (sAr_v (sE_var 0) (sAr_v (sE_var 2) sAr_nil)))))) sA_nil))))
/-! ### goes -/
theorem sc_goes : FnScope ["move", "word", "rest"] ["move"] (defScope s_goes) := ⟨rfl, rfl, rfl, by decide +kernel, rfl, by decide +kernel, by decide +kernel⟩
theorem ok_goes (g : Top L mg) : FnOk L.pr L.w L.K mg base (L2.CX L.pr L.w) 7 g.a_goes g.d_goes ["move"] (spF L [false] f_goes) := by
    have scope := sc_goes
    exact fn_ok (N := ["move", "word", "rest"]) (b := b_goes) g.F_goes sc_goes rfl (by decide) fun cdv A outer s H E P hr =>
      (sS_cons (sS_asg (sE_call rfl ((ok_tupled g).mono (by decide)) hr (by rfl) g.m_tupled g.F_tupled.kp (bd_tupled_1 g) passB (sAr_v (sE_var 0) sAr_nil)) (sG_tupS (i := 1) rfl rfl (sGs_cons (sG_name (i := 1) scope.nd (by rfl) (.inl rfl)) (sGs_star (sG_name (i := 2) scope.nd (by rfl) (.inl rfl)) sGs_nil)) (by decide)))
      (sS_cons (sS_if (sT_cmp (op_eqD hr.units) os_eq (sE_var 1) (sE_gstr rfl g.v_NEW) (nomark _)) (sS_one (sS_ret (sE_tup sA_nil))) sS_nil)
      (sS_one (sS_ret (sE_if (sT_cmp (op_eqD hr.units) os_eq (sE_var 1) (sE_gstr rfl g.v_CROSS) (nomark _)) (sE_call rfl ((ok_set_of g).mono (by decide)) hr (by rfl) g.m_set_of g.F_set_of.kp (bd_set_of_1 g) passB (sAr_v (sE_var 2) sAr_nil)) (sE_tup (sA_cons (sE_ixP 2 rfl sE_int) sA_nil)))))))
/-! ### comes -/
theorem sc_comes : FnScope ["move", "word", "stay", "rest"] ["move"] (defScope s_comes) := ⟨rfl, rfl, rfl, by decide +kernel, rfl, by decide +kernel, by decide +kernel⟩
theorem ok_comes (g : Top L mg) : FnOk L.pr L.w L.K mg base (L2.CX L.pr L.w) 7 g.a_comes g.d_comes ["move"] (spF L [false] f_comes) := by
    have scope := sc_comes
    exact fn_ok (N := ["move", "word", "stay", "rest"]) (b := b_comes) g.F_comes sc_comes rfl (by decide) fun cdv A outer s H E P hr =>
      (sS_cons (sS_asg (sE_call rfl ((ok_tupled g).mono (by decide)) hr (by rfl) g.m_tupled g.F_tupled.kp (bd_tupled_1 g) passB (sAr_v (sE_var 0) sAr_nil)) (sG_tupS (i := 2) rfl rfl (sGs_cons (sG_name (i := 1) scope.nd (by rfl) (.inl rfl)) (sGs_cons (sG_name (i := 2) scope.nd (by rfl) (.inl rfl)) (sGs_star (sG_name (i := 3) scope.nd (by rfl) (.inl rfl)) sGs_nil))) (by decide)))
      (sS_cons (sS_if (sT_cmp (op_eqD hr.units) os_eq (sE_var 1) (sE_gstr rfl g.v_NEW) (nomark _)) (sS_one (sS_ret (sE_tup (sA_cons (sE_var 2) sA_nil)))) sS_nil)
      (sS_cons (sS_if (sT_cmp (op_eqD hr.units) os_eq (sE_var 1) (sE_gstr rfl g.v_SPLIT) (nomark _)) (sS_one (sS_ret (sE_tup (sA_cons (sE_tup (sA_cons (sE_ixP 2 rfl sE_int) (sA_cons (sE_ixP 3 rfl sE_int) sA_nil))) (sA_cons (sE_tup (sA_cons (sE_op or_add os_add (sE_ixP 3 rfl sE_int) sE_int) (sA_cons (sE_ixP 2 rfl sE_int) sA_nil))) sA_nil))))) sS_nil)
      (sS_one (sS_ret (sE_if (sT_cmp (op_eqD hr.units) os_eq (sE_var 1) (sE_gstr rfl g.v_CROSS) (nomark _)) (sE_tup (sA_cons (sE_tup (sA_cons (sE_ixP 2 rfl sE_int) (sA_cons (sE_ix rfl (sE_ixP 3 rfl sE_int) sE_int) sA_nil))) (sA_cons (sE_tup (sA_cons (sE_ix rfl (sE_ixP 3 rfl sE_int) sE_int) (sA_cons (sE_ixP 2 rfl sE_int) sA_nil))) sA_nil))) (sE_tup (sA_cons (sE_ixP 3 rfl sE_int) sA_nil))))))))
/-! ### more_met -/
theorem sc_more_met : FnScope ["move", "timetable", "gone", "stay"] ["move", "timetable"] (defScope s_more_met) := ⟨rfl, rfl, rfl, by decide +kernel, rfl, by decide +kernel, by decide +kernel⟩
theorem ok_more_met (g : Top L mg) : FnOk L.pr L.w L.K mg base (L2.CX L.pr L.w) 8 g.a_more_met g.d_more_met ["move", "timetable"] (spF L [false, false] f_more_met) := by
    have scope := sc_more_met
    exact fn_ok (N := ["move", "timetable", "gone", "stay"]) (b := b_more_met) g.F_more_met sc_more_met rfl (by decide) fun cdv A outer s H E P hr =>
      (sS_cons (sS_set (i := 2) scope.nd (by rfl) (.inl rfl) (sE_callB call_len fs_len (by rfl) g.z_len bt_len (sA_cons (SE.of (sF_lc (own := [("stay", 3)]) rfl scope.nd (sI_seq rfl (sE_call rfl ((ok_goes g).mono (by decide)) hr (by rfl) g.m_goes g.F_goes.kp (bd_goes_1 g) passB (sAr_v (sE_var 0) sAr_nil))) (blkOk_by (by kernel_rfl)) (fun _ _ _ _ _ _ => (sC_name scope.nd (i := 3) (by rfl) (.inl rfl) (by decide))) (fun _ _ _ _ _ _ => (sTs_one (sT_val (sE_call rfl ((ok_is_met g).mono (by decide)) hr (by rfl) g.m_is_met g.F_is_met.kp (bd_is_met_2 g) passNo (sAr_v (sE_var 3) (sAr_v (sE_var 1) sAr_nil)))))) (fun _ _ _ _ _ _ => (sE_var 3)))) sA_nil)))
      (sS_one (sS_ret (sE_op op_sub os_sub (sE_callB call_len fs_len (by rfl) g.z_len bt_len (sA_cons (SE.of (sF_lc (own := [("stay", 3)]) rfl scope.nd (sI_seq rfl (sE_call rfl ((ok_comes g).mono (by decide)) hr (by rfl) g.m_comes g.F_comes.kp (bd_comes_1 g) passB (sAr_v (sE_var 0) sAr_nil))) (blkOk_by (by kernel_rfl)) (fun _ _ _ _ _ _ => (sC_name scope.nd (i := 3) (by rfl) (.inl rfl) (by decide))) (fun _ _ _ _ _ _ => (sTs_one (sT_val (sE_call rfl ((ok_is_met g).mono (by decide)) hr (by rfl) g.m_is_met g.F_is_met.kp (bd_is_met_2 g) passNo (sAr_v (sE_var 3) (sAr_v (sE_var 1) sAr_nil)))))) (fun _ _ _ _ _ _ => (sE_var 3)))) sA_nil)) (sE_var 2)))))
/-! ### ticks_for -/
theorem sc_ticks_for : FnScope ["move", "word", "stay", "rest"] ["move"] (defScope s_ticks_for) := ⟨rfl, rfl, rfl, by decide +kernel, rfl, by decide +kernel, by decide +kernel⟩
theorem ok_ticks_for (g : Top L mg) : FnOk L.pr L.w L.K mg base (L2.CX L.pr L.w) 7 g.a_ticks_for g.d_ticks_for ["move"] (spF L [false] f_ticks_for) := by
    have scope := sc_ticks_for
    exact fn_ok (N := ["move", "word", "stay", "rest"]) (b := b_ticks_for) g.F_ticks_for sc_ticks_for rfl (by decide) fun cdv A outer s H E P hr =>
      (sS_cons (sS_asg (sE_call rfl ((ok_tupled g).mono (by decide)) hr (by rfl) g.m_tupled g.F_tupled.kp (bd_tupled_1 g) passB (sAr_v (sE_var 0) sAr_nil)) (sG_tupS (i := 2) rfl rfl (sGs_cons (sG_name (i := 1) scope.nd (by rfl) (.inl rfl)) (sGs_cons (sG_name (i := 2) scope.nd (by rfl) (.inl rfl)) (sGs_star (sG_name (i := 3) scope.nd (by rfl) (.inl rfl)) sGs_nil))) (by decide)))
      (sS_cons (sS_if (sT_cmp (op_eqD hr.units) os_eq (sE_var 1) (sE_gstr rfl g.v_NEW) (nomark _)) (sS_one (sS_ret (sE_tup (sA_cons (sE_ixP 2 rfl sE_int) sA_nil)))) sS_nil)
      (sS_cons (sS_if (sT_cmp (op_eqD hr.units) os_eq (sE_var 1) (sE_gstr rfl g.v_SPLIT) (nomark _)) (sS_one (sS_ret (sE_tup (sA_cons (sE_ixP 2 rfl sE_int) (sA_cons (sE_op or_add os_add (sE_ixP 3 rfl sE_int) sE_int) sA_nil))))) sS_nil)
      (sS_cons (sS_if (sT_cmp (op_eqD hr.units) os_eq (sE_var 1) (sE_gstr rfl g.v_CROSS) (nomark _)) (sS_one (sS_ret (sE_tup (sA_cons (sE_ixP 2 rfl sE_int) (sA_cons (sE_op or_add os_add (sE_ix rfl (sE_ixP 3 rfl sE_int) sE_int) sE_int) sA_nil))))) sS_nil)
      (sS_one (sS_ret (sE_if (sT_cmp op_lt os_lt (sE_ix rfl (sE_ixP 3 rfl sE_int) sE_int) (sE_ixP 2 rfl sE_int) (nomark _)) (sE_tup (sA_cons (sE_ix rfl (sE_ixP 3 rfl sE_int) sE_int) sA_nil)) (sE_tup (sA_cons (sE_op or_add os_add (sE_ixP 2 rfl sE_int) sE_int) sA_nil)))))))))
/-! ### box -/
theorem sc_box : FnScope ["_law_script", "_law_k", "_law_cell"] ["_law_script", "_law_k"] (defScope s_box) := ⟨rfl, rfl, rfl, by decide +kernel, rfl, by decide +kernel, by decide +kernel⟩
theorem ok_box (g : Top L mg) : FnOk L.pr L.w L.K mg base (L2.CX L.pr L.w) 1 g.a_box g.d_box ["_law_script", "_law_k"] (spF L [false, false] f_box) := by
    have scope := sc_box
    exact fn_ok (N := ["_law_script", "_law_k", "_law_cell"]) (b := b_box) g.F_box sc_box rfl (by decide) fun cdv A outer s H E P hr =>
      (sS_cons (sS_set (i := 2) scope.nd (by rfl) (.inl rfl) (sE_if (sT_cmp op_lt os_lt (sE_var 1) (sE_callB call_len fs_len (by rfl) g.z_len bt_len (sA_cons (sE_var 0) sA_nil)) (nomark _)) (sE_ixP 0 rfl (sE_var 1)) sE_int))
      (sS_one (sS_retO (tLst_fresh (sA_cons (sE_op or_mul os_mul (sE_callB call_abs fs_abs (by rfl) g.z_abs bt_abs (sA_cons (sE_var 2) sA_nil)) (sE_callTy call_int1 fs_int (by rfl) g.z_int bt_int (sA_cons (sE_cmp op_ge os_ge (sE_callB call_abs fs_abs (by rfl) g.z_abs bt_abs (sA_cons (sE_var 2) sA_nil)) (sE_op op_pow os_pow sE_int sE_int) (nomark _)) sA_nil))) (sA_cons (sE_op or_add os_add (sE_op or_add os_add (sE_op op_mod os_mod (sE_callTy call_int1 fs_int (by rfl) g.z_int bt_int (sA_cons (sE_var 2) sA_nil)) sE_int) (sE_op or_mul os_mul sE_int (sE_var 1))) sE_int) (sA_cons sE_int sA_nil)))))))
/-! ### take -/
theorem sc_take : FnScope ["_law_box_here", "_law_size_so", "_law_some", "_law_once", "_law_far", "_law_again"] ["_law_box_here", "_law_size_so"] (defScope s_take) := ⟨rfl, rfl, rfl, by decide +kernel, rfl, by decide +kernel, by decide +kernel⟩
theorem ok_take (g : Top L mg) : FnOk L.pr L.w L.K mg base (L2.CX L.pr L.w) 1 g.a_take g.d_take ["_law_box_here", "_law_size_so"] (spF L [true, false] f_take) := by
    have scope := sc_take
    exact fn_ok (N := ["_law_box_here", "_law_size_so", "_law_some", "_law_once", "_law_far", "_law_again"]) (b := b_take) g.F_take sc_take rfl (by decide) fun cdv A outer s H E P hr =>
      (sS_cons (sS_if (sT_cmp op_gt os_gt (sE_ixP 0 rfl sE_int) sE_int (nomark _)) (sS_cons (sS_set (i := 2) scope.nd (by rfl) (.inl rfl) (sE_op op_mod os_mod (sE_callTy call_int1 fs_int (by rfl) g.z_int bt_int (sA_cons (sE_ixP 0 rfl sE_int) sA_nil)) (sE_var 1)))
      (sS_cons (sS_asg (sE_op op_fdivW os_fdiv (sE_ixP 0 rfl sE_int) (sE_var 1)) (sG_ix (W := Wof E) 0 sE_int))
      (sS_one (sS_ret (sE_var 2))))) sS_nil)
      (sS_cons (sS_asg (sE_op or_add os_add (sE_ixP 0 rfl sE_int) sE_int) (sG_ix (W := Wof E) 0 sE_int))
      (sS_cons (sS_set (i := 3) scope.nd (by rfl) (.inl rfl) (sE_op op_mod os_mod (sE_callTy call_int1 fs_int (by rfl) g.z_int bt_int (sA_cons (sE_op or_mul os_mul (sE_op or_add os_add (sE_ixP 0 rfl sE_int) (sE_op or_mul os_mul sE_int (sE_ixP 0 rfl sE_int))) (sE_op or_add os_add sE_int (sE_ixP 0 rfl sE_int))) sA_nil)) sE_int))
      (sS_cons (sS_set (i := 4) scope.nd (by rfl) (.inl rfl) (sE_op or_add os_add (sE_op op_mod os_mod (sE_callTy call_int1 fs_int (by rfl) g.z_int bt_int (sA_cons (sE_var 3) sA_nil)) sE_int) sE_int))
      (sS_cons (sS_set (i := 5) scope.nd (by rfl) (.inl rfl) (sE_op op_mod os_mod (sE_callTy call_int1 fs_int (by rfl) g.z_int bt_int (sA_cons (sE_op or_mul os_mul (sE_op or_add os_add (sE_op or_add os_add (sE_var 3) (sE_ixP 0 rfl sE_int)) (sE_op op_fdivW os_fdiv (sE_ixP 0 rfl sE_int) sE_int)) (sE_var 4)) sA_nil)) sE_int))
      (sS_one (sS_ret (sE_op op_mod os_mod (sE_callTy call_int1 fs_int (by rfl) g.z_int bt_int (sA_cons (sE_op op_fdivW os_fdiv (sE_op op_mod os_mod (sE_callTy call_int1 fs_int (by rfl) g.z_int bt_int (sA_cons (sE_op or_add os_add (sE_op or_mul os_mul (sE_var 5) sE_int) (sE_var 3)) sA_nil)) sE_int) sE_int) sA_nil)) (sE_var 1)))))))))
/-! ### cells -/
theorem sc_cells : FnScope ["_law_script", "_law_top_so", "_law_cells_so", "_law_k", "_law_cell", "_law_at_so"] ["_law_script", "_law_top_so"] (defScope s_cells) := ⟨rfl, rfl, rfl, by decide +kernel, rfl, by decide +kernel, by decide +kernel⟩
theorem ok_cells (g : Top L mg) : FnOk L.pr L.w L.K mg base (L2.CX L.pr L.w) 1 g.a_cells g.d_cells ["_law_script", "_law_top_so"] (spF L [false, false] f_cells) := by
    have scope := sc_cells
    exact fn_ok (N := ["_law_script", "_law_top_so", "_law_cells_so", "_law_k", "_law_cell", "_law_at_so"]) (b := b_cells) g.F_cells sc_cells rfl (by decide) fun cdv A outer s H E P hr =>
      (sS_cons (sS_setO (i := 2) scope.nd (by rfl) (.inl rfl) (sF_or rfl (sF_callTy call_list_of ff_list (by rfl) g.z_list bt_list (sA_cons (sE_slP 0 rfl sO_none (sO_some (sE_var 1))) sA_nil)) (tLst_fresh (sA_cons sE_int sA_nil))))
      (sS_cons (sS_for ownB rfl (sI_enum2 rfl (by rfl) g.z_enumerate (sA_cons (sE_slP 0 rfl (sO_some (sE_var 1)) (sO_some sE_int)) sA_nil)) (sG_tup rfl rfl (sGs_cons (sG_name (i := 3) scope.nd (by rfl) (.inl rfl)) (sGs_cons (sG_name (i := 4) scope.nd (by rfl) (.inl rfl)) sGs_nil))) (sS_cons (sS_set (i := 5) scope.nd (by rfl) (.inl rfl) (sE_op op_mod os_mod (sE_callTy call_int1 fs_int (by rfl) g.z_int bt_int (sA_cons (sE_var 3) sA_nil)) (sE_var 1)))
      (sS_one (sS_asg (sE_op or_add os_add (sE_ixP 2 rfl (sE_var 5)) (sE_op or_mul os_mul (sE_var 4) (sE_op or_add os_add (sE_var 3) sE_int))) (sG_ix (W := Wof E) 2 (sE_var 5))))))
      (sS_one (sS_ret (sE_var 2)))))
/-! ### same -/
theorem sc_same : FnScope ["_law_got", "_law_due", "_law_alike_so", "_law_mine", "_law_its"] ["_law_got", "_law_due"] (defScope s_same) := ⟨rfl, rfl, rfl, by decide +kernel, rfl, by decide +kernel, by decide +kernel⟩
theorem okn_same (g : Top L mg) : ∀ n : Nat, FnOk L.pr L.w L.K mg base (L2.CX L.pr L.w) (n + 0) g.a_same g.d_same ["_law_got", "_law_due"] (spF L [false, false] (ff_same n))
  | 0 => fn_fail
  | n + 1 => by
    have self := okn_same g n
    have scope := sc_same
    rw [show n + 1 + 0 = (n + 0) + 1 by omega]
    exact fn_ok (N := ["_law_got", "_law_due", "_law_alike_so", "_law_mine", "_law_its"]) (b := b_same (ff_same n)) g.F_same sc_same rfl (by decide) fun cdv A outer s H E P hr =>
      (sS_cons (sS_if (sT_val (sE_isi2 (t := "list") (t' := "tuple") rfl (by rfl) g.z_isinstance (pe_bltn (by rfl) g.z_list (by decide +kernel) rfl) (pe_bltn (by rfl) g.z_tuple (by decide +kernel) rfl) (sE_var 1))) (sS_cons (sS_if (sT_cmp (op_neD hr.units) os_ne (sE_isi (t := "list") rfl (by rfl) g.z_isinstance (pe_bltn (by rfl) g.z_list (by decide +kernel) rfl) (sE_var 0)) (sE_isi (t := "list") rfl (by rfl) g.z_isinstance (pe_bltn (by rfl) g.z_list (by decide +kernel) rfl) (sE_var 1)) (nomark _)) (sS_one (sS_ret sE_bl)) sS_nil)
      (sS_cons (sS_if (sT_cmp (op_neD hr.units) os_ne (sE_isi (t := "tuple") rfl (by rfl) g.z_isinstance (pe_bltn (by rfl) g.z_tuple (by decide +kernel) rfl) (sE_var 0)) (sE_isi (t := "tuple") rfl (by rfl) g.z_isinstance (pe_bltn (by rfl) g.z_tuple (by decide +kernel) rfl) (sE_var 1)) (nomark _)) (sS_one (sS_ret sE_bl)) sS_nil)
      (sS_one (sS_ret (sE_andC rfl (sE_cmp (op_eqD hr.units) os_eq (sE_callB call_len fs_len (by rfl) g.z_len bt_len (sA_cons (sE_var 0) sA_nil)) (sE_callB call_len fs_len (by rfl) g.z_len bt_len (sA_cons (sE_var 1) sA_nil)) (nomark _)) (sE_one (sE_callB (cr_all rfl) fs_all (by rfl) g.z_all bt_all (sA_cons (SE.of (sF_lc (own := [("_law_mine", 3), ("_law_its", 4)]) rfl scope.nd (sI_zip rfl (by rfl) g.z_zip (sA_cons (sE_var 0) (sA_cons (sE_var 1) sA_nil))) (blkOk_by (by kernel_rfl)) (fun _ _ _ _ _ _ => (sC_tup rfl rfl (sCs_cons (sC_name scope.nd (i := 3) (by rfl) (.inl rfl) (by decide)) (sCs_cons (sC_name scope.nd (i := 4) (by rfl) (.inl rfl) (by decide)) sCs_nil)))) (fun _ _ _ _ _ _ => sTs_nil) (fun _ _ _ _ _ _ => (sE_call rfl self hr (by rfl) g.m_same g.F_same.kp (bd_same_2 g) passNo (sAr_v (sE_var 3) (sAr_v (sE_var 4) sAr_nil)))))) sA_nil)))))))) sS_nil)
      (sS_cons (sS_if (sT_w (sW_or (sT_cmp op_isN os_is (sE_var 1) sE_non (nomark _)) (sW_or1 (sT_val (sE_isi2 (t := "bool") (t' := "str") rfl (by rfl) g.z_isinstance (pe_bltn (by rfl) g.z_bool (by decide +kernel) rfl) (pe_bltn (by rfl) g.z_str (by decide +kernel) rfl) (sE_var 1)))))) (sS_cons (sS_set (i := 2) scope.nd (by rfl) (.inl rfl) (sE_andC rfl (sE_cmp (op_eqD hr.units) os_eq (sE_isi (t := "bool") rfl (by rfl) g.z_isinstance (pe_bltn (by rfl) g.z_bool (by decide +kernel) rfl) (sE_var 0)) (sE_isi (t := "bool") rfl (by rfl) g.z_isinstance (pe_bltn (by rfl) g.z_bool (by decide +kernel) rfl) (sE_var 1)) (nomark _)) (sE_one (sE_cmp (op_eqD hr.units) os_eq (sE_cmp op_isN os_is (sE_var 0) sE_non (nomark _)) (sE_cmp op_isN os_is (sE_var 1) sE_non (nomark _)) (nomark _)))))
      (sS_one (sS_ret (sE_andC rfl (sE_var 2) (sE_one (sE_cmp (op_eqD hr.units) os_eq (sE_var 0) (sE_var 1) (nomark _))))))) sS_nil)
      (sS_one (sS_ret (sE_andC rfl (sE_isi (t := "int") rfl (by rfl) g.z_isinstance (pe_bltn (by rfl) g.z_int (by decide +kernel) rfl) (sE_var 0)) (sE_andC rfl (sE_notV rfl (sE_isi (t := "bool") rfl (by rfl) g.z_isinstance (pe_bltn (by rfl) g.z_bool (by decide +kernel) rfl) (sE_var 0))) (sE_one (sE_cmp (op_eqD hr.units) os_eq (sE_var 0) (sE_var 1) (nomark _)))))))))
theorem ok_same (g : Top L mg) : FnOk L.pr L.w L.K mg base (L2.CX L.pr L.w) 6 g.a_same g.d_same ["_law_got", "_law_due"] (spF L [false, false] f_same) := okn_same g 6
/-! ### lists -/
theorem sc_lists : FnScope ["_law_matter", "_law_bit"] ["_law_matter"] (defScope s_lists) := ⟨rfl, rfl, rfl, by decide +kernel, rfl, by decide +kernel, by decide +kernel⟩
theorem okn_lists (g : Top L mg) : ∀ n : Nat, FnOk L.pr L.w L.K mg base (L2.CX L.pr L.w) (n + 0) g.a_lists g.d_lists ["_law_matter"] (spF L [false] (ff_lists n))
  | 0 => fn_fail
  | n + 1 => by
    have self := okn_lists g n
    have scope := sc_lists
    rw [show n + 1 + 0 = (n + 0) + 1 by omega]
    exact fn_ok (N := ["_law_matter", "_law_bit"]) (b := b_lists (ff_lists n)) g.F_lists sc_lists rfl (by decide) fun cdv A outer s H E P hr =>
      (sS_one (sS_ret (sE_if (sT_val (sE_isi2 (t := "list") (t' := "tuple") rfl (by rfl) g.z_isinstance (pe_bltn (by rfl) g.z_list (by decide +kernel) rfl) (pe_bltn (by rfl) g.z_tuple (by decide +kernel) rfl) (sE_var 0))) (SE.of (sF_lc (own := [("_law_bit", 1)]) rfl scope.nd (sI_seq rfl (sE_var 0)) (blkOk_by (by kernel_rfl)) (fun _ _ _ _ _ _ => (sC_name scope.nd (i := 1) (by rfl) (.inl rfl) (by decide))) (fun _ _ _ _ _ _ => sTs_nil) (fun _ _ _ _ _ _ => (sE_call rfl self hr (by rfl) g.m_lists g.F_lists.kp (bd_lists_1 g) passNo (sAr_v (sE_var 1) sAr_nil))))) (sE_var 0))))
theorem ok_lists (g : Top L mg) : FnOk L.pr L.w L.K mg base (L2.CX L.pr L.w) 6 g.a_lists g.d_lists ["_law_matter"] (spF L [false] f_lists) := okn_lists g 6
/-! ### stay -/
theorem sc_stay : FnScope ["_law_box_here", "_law_high_so", "_law_ends_so"] ["_law_box_here", "_law_high_so"] (defScope s_stay) := ⟨rfl, rfl, rfl, by decide +kernel, rfl, by decide +kernel, by decide +kernel⟩
theorem ok_stay (g : Top L mg) : FnOk L.pr L.w L.K mg base (L2.CX L.pr L.w) 2 g.a_stay g.d_stay ["_law_box_here", "_law_high_so"] (spF L [true, false] f_stay) := by
    have scope := sc_stay
    exact fn_ok (N := ["_law_box_here", "_law_high_so", "_law_ends_so"]) (b := b_stay) g.F_stay sc_stay rfl (by decide) fun cdv A outer s H E P hr =>
      (sS_cons (sS_set (i := 2) scope.nd (by rfl) (.inl rfl) (sE_lst (sA_cons (sE_call rfl ((ok_take g).mono (by decide)) hr (by rfl) g.m_take g.F_take.kp (bd_take_2 g) passB (sAr_io 0 (sAr_v (sE_var 1) sAr_nil))) (sA_cons (sE_call rfl ((ok_take g).mono (by decide)) hr (by rfl) g.m_take g.F_take.kp (bd_take_2 g) passB (sAr_io 0 (sAr_v (sE_var 1) sAr_nil))) sA_nil))))
      (sS_one (sS_ret (sE_tup (sA_cons (sE_callB (cr_min1 rfl (of65 (room65 hr))) fs_min1 (by rfl) g.z_min bt_min (sA_cons (sE_var 2) sA_nil)) (sA_cons (sE_callB (cr_max1 rfl (of65 (room65 hr))) fs_max1 (by rfl) g.z_max bt_max (sA_cons (sE_var 2) sA_nil)) sA_nil))))))
/-! ### in -/
theorem sc_in : FnScope ["_law_own", "_law_row_so", "_law_spot"] ["_law_own", "_law_row_so"] (defScope s_in) := ⟨rfl, rfl, rfl, by decide +kernel, rfl, by decide +kernel, by decide +kernel⟩
theorem ok_in (g : Top L mg) : FnOk L.pr L.w L.K mg base (L2.CX L.pr L.w) 1 g.a_in g.d_in ["_law_own", "_law_row_so"] (spF L [false, false] f_in) := by
    have scope := sc_in
    exact fn_ok (N := ["_law_own", "_law_row_so", "_law_spot"]) (b := b_in) g.F_in sc_in rfl (by decide) fun cdv A outer s H E P hr =>
      (sS_one (sS_ret (sE_cmp (op_neD hr.units) os_ne (SE.of (sF_lc (own := [("_law_spot", 2)]) rfl scope.nd (sI_seq rfl (sE_var 1)) (blkOk_by (by kernel_rfl)) (fun _ _ _ _ _ _ => (sC_name scope.nd (i := 2) (by rfl) (.inl rfl) (by decide))) (fun _ _ _ _ _ _ => (sTs_one (sT_chain op_le op_le os_le os_le (sE_ixP 0 rfl sE_int) (sE_var 2) (sE_ixP 0 rfl sE_int)))) (fun _ _ _ _ _ _ => (sE_var 2)))) (sE_lst sA_nil) (nomark _))))
/-! ### rows -/
theorem sc_rows : FnScope ["_law_high_so", "_law_found", "_law_spot", "_law_row_so"] ["_law_high_so"] (defScope s_rows) := ⟨rfl, rfl, rfl, by decide +kernel, rfl, by decide +kernel, by decide +kernel⟩
theorem ok_rows (g : Top L mg) : FnOk L.pr L.w L.K mg base (L2.CX L.pr L.w) 1 g.a_rows g.d_rows ["_law_high_so"] (spF L [false] f_rows) := by
    have scope := sc_rows
    exact fn_ok (N := ["_law_high_so", "_law_found", "_law_spot", "_law_row_so"]) (b := b_rows) g.F_rows sc_rows rfl (by decide) fun cdv A outer s H E P hr =>
      (sS_cons (sS_set (i := 1) scope.nd (by rfl) (.inl rfl) (sE_lst (sA_cons (sE_tup sA_nil) sA_nil)))
      (sS_cons (sS_for ownB rfl (sI_range1 (by rfl) g.z_range (sA_cons (sE_var 0) sA_nil)) (sG_name (i := 2) scope.nd (by rfl) (.inr rfl)) (sS_one (sS_set (i := 1) scope.nd (by rfl) (.inl rfl) (sE_op or_add os_add (sE_var 1) (SE.of (sF_lc (own := [("_law_row_so", 3)]) rfl scope.nd (sI_seq rfl (sE_var 1)) (blkOk_by (by kernel_rfl)) (fun _ _ _ _ _ _ => (sC_name scope.nd (i := 3) (by rfl) (.inl rfl) (by decide))) (fun _ _ _ _ _ _ => sTs_nil) (fun _ _ _ _ _ _ => (sE_op or_add os_add (sE_var 3) (sE_tup (sA_cons (sE_var 2) sA_nil))))))))))
      (sS_one (sS_ret (sE_var 1)))))
/-! ### gone -/
theorem sc_gone : FnScope ["_law_deed_here"] ["_law_deed_here"] (defScope s_gone) := ⟨rfl, rfl, rfl, by decide +kernel, rfl, by decide +kernel, by decide +kernel⟩
theorem ok_gone (g : Top L mg) : FnOk L.pr L.w L.K mg base (L2.CX L.pr L.w) 1 g.a_gone g.d_gone ["_law_deed_here"] (spF L [false] f_gone) := by
    have scope := sc_gone
    exact fn_ok (N := ["_law_deed_here"]) (b := b_gone) g.F_gone sc_gone rfl (by decide) fun cdv A outer s H E P hr =>
      (sS_cons (sS_if (sT_cmp (op_eqD hr.units) os_eq (sE_ixP 0 rfl sE_int) sE_str (nomark _)) (sS_one (sS_ret (sE_lst sA_nil))) sS_nil)
      (sS_one (sS_ret (sE_if (sT_cmp (op_eqD hr.units) os_eq (sE_ixP 0 rfl sE_int) sE_str (nomark _)) (sE_lst (sA_cons (sE_ixP 0 rfl sE_int) (sA_cons (sE_ixP 0 rfl sE_int) sA_nil))) (sE_lst (sA_cons (sE_ixP 0 rfl sE_int) sA_nil))))))
/-! ### fresh -/
theorem sc_fresh : FnScope ["_law_deed_here", "_law_low_so", "_law_high_so"] ["_law_deed_here"] (defScope s_fresh) := ⟨rfl, rfl, rfl, by decide +kernel, rfl, by decide +kernel, by decide +kernel⟩
theorem ok_fresh (g : Top L mg) : FnOk L.pr L.w L.K mg base (L2.CX L.pr L.w) 1 g.a_fresh g.d_fresh ["_law_deed_here"] (spF L [false] f_fresh) := by
    have scope := sc_fresh
    exact fn_ok (N := ["_law_deed_here", "_law_low_so", "_law_high_so"]) (b := b_fresh) g.F_fresh sc_fresh rfl (by decide) fun cdv A outer s H E P hr =>
      (sS_cons (sS_if (sT_cmp (op_eqD hr.units) os_eq (sE_ixP 0 rfl sE_int) sE_str (nomark _)) (sS_one (sS_ret (sE_lst (sA_cons (sE_ixP 0 rfl sE_int) sA_nil)))) sS_nil)
      (sS_cons (sS_if (sT_cmp (op_eqD hr.units) os_eq (sE_ixP 0 rfl sE_int) sE_str (nomark _)) (sS_one (sS_ret (sE_lst (sA_cons (sE_ixP 0 rfl sE_int) sA_nil)))) sS_nil)
      (sS_cons (sS_asg (sE_ixP 0 rfl sE_int) (sG_tup rfl rfl (sGs_cons (sG_name (i := 1) scope.nd (by rfl) (.inl rfl)) (sGs_cons (sG_name (i := 2) scope.nd (by rfl) (.inl rfl)) sGs_nil))))
      (sS_cons (sS_if (sT_cmp (op_eqD hr.units) os_eq (sE_ixP 0 rfl sE_int) sE_str (nomark _)) (sS_one (sS_ret (sE_lst (sA_cons (sE_tup (sA_cons (sE_var 1) (sA_cons (sE_ixP 0 rfl sE_int) sA_nil))) (sA_cons (sE_tup (sA_cons (sE_op or_add os_add (sE_ixP 0 rfl sE_int) sE_int) (sA_cons (sE_var 2) sA_nil))) sA_nil))))) sS_nil)
      (sS_one (sS_ret (sE_lst (sA_cons (sE_tup (sA_cons (sE_var 1) (sA_cons (sE_ix rfl (sE_ixP 0 rfl sE_int) sE_int) sA_nil))) (sA_cons (sE_tup (sA_cons (sE_ix rfl (sE_ixP 0 rfl sE_int) sE_int) (sA_cons (sE_var 2) sA_nil))) sA_nil)))))))))
/-! ### deed -/
theorem sc_deed : FnScope ["_law_box_here", "_law_high_so", "_law_sort_so", "_law_own", "_law_low_so", "_law_far", "_law_less_so", "_law_more_so", "_law_ends_so", "_law_turn"] ["_law_box_here", "_law_high_so"] (defScope s_deed) := ⟨rfl, rfl, rfl, by decide +kernel, rfl, by decide +kernel, by decide +kernel⟩
theorem ok_deed (g : Top L mg) : FnOk L.pr L.w L.K mg base (L2.CX L.pr L.w) 3 g.a_deed g.d_deed ["_law_box_here", "_law_high_so"] (spF L [true, false] f_deed) := by
    have scope := sc_deed
    exact fn_ok (N := ["_law_box_here", "_law_high_so", "_law_sort_so", "_law_own", "_law_low_so", "_law_far", "_law_less_so", "_law_more_so", "_law_ends_so", "_law_turn"]) (b := b_deed) g.F_deed sc_deed rfl (by decide) fun cdv A outer s H E P hr =>
      (sS_cons (sS_par (i := 2) (j := 3) rfl scope.nd (by rfl) (by rfl) (by decide) rfl rfl (sE_call rfl ((ok_take g).mono (by decide)) hr (by rfl) g.m_take g.F_take.kp (bd_take_2 g) passB (sAr_io 0 (sAr_v sE_int sAr_nil))) (sE_call rfl ((ok_stay g).mono (by decide)) hr (by rfl) g.m_stay g.F_stay.kp (bd_stay_2 g) passB (sAr_io 0 (sAr_v (sE_var 1) sAr_nil))) (by rfl))
      (sS_cons (sS_asg (sE_var 3) (sG_tup rfl rfl (sGs_cons (sG_name (i := 4) scope.nd (by rfl) (.inr rfl)) (sGs_cons (sG_name (i := 5) scope.nd (by rfl) (.inr rfl)) sGs_nil))))
      (sS_cons (sS_if (sT_w (sW_and (sT_cmp (op_eqD hr.units) os_eq (sE_var 2) sE_int (nomark _)) (sW_and1 (sT_w (sW_or (sT_cmp op_gt os_gt (sE_var 4) sE_int (nomark _)) (sW_or1 (sT_cmp op_lt os_lt (sE_var 5) (sE_op op_sub os_sub (sE_var 1) sE_int) (nomark _)))))))) (sS_cons (sS_set (i := 6) scope.nd (by rfl) (.inl rfl) (sE_call rfl ((ok_take g).mono (by decide)) hr (by rfl) g.m_take g.F_take.kp (bd_take_2 g) passB (sAr_io 0 (sAr_v (sE_op or_add os_add (sE_var 4) sE_int) sAr_nil))))
      (sS_cons (sS_set (i := 7) scope.nd (by rfl) (.inl rfl) (sE_op or_add os_add (sE_var 5) (sE_call rfl ((ok_take g).mono (by decide)) hr (by rfl) g.m_take g.F_take.kp (bd_take_2 g) passB (sAr_io 0 (sAr_v (sE_op op_sub os_sub (sE_var 1) (sE_var 5)) sAr_nil)))))
      (sS_cons (sS_set (i := 7) scope.nd (by rfl) (.inl rfl) (sE_op or_add os_add (sE_var 7) (sE_callTy call_int1 fs_int (by rfl) g.z_int bt_int (sA_cons (sE_andC rfl (sE_cmp (op_eqD hr.units) os_eq (sE_tup (sA_cons (sE_var 6) (sA_cons (sE_var 7) sA_nil))) (sE_var 3) (nomark _)) (sE_one (sE_cmp op_lt os_lt (sE_var 7) (sE_op op_sub os_sub (sE_var 1) sE_int) (nomark _)))) sA_nil))))
      (sS_cons (sS_set (i := 6) scope.nd (by rfl) (.inl rfl) (sE_op op_sub os_sub (sE_var 6) (sE_callTy call_int1 fs_int (by rfl) g.z_int bt_int (sA_cons (sE_cmp (op_eqD hr.units) os_eq (sE_tup (sA_cons (sE_var 6) (sA_cons (sE_var 7) sA_nil))) (sE_var 3) (nomark _)) sA_nil))))
      (sS_one (sS_ret (sE_tup (sA_cons sE_str (sA_cons (sE_var 3) (sA_cons (sE_tup (sA_cons (sE_var 6) (sA_cons (sE_var 7) sA_nil))) sA_nil)))))))))) sS_nil)
      (sS_cons (sS_if (sT_w (sW_and (sT_cmp (op_eqD hr.units) os_eq (sE_var 2) sE_int (nomark _)) (sW_and1 (sT_cmp op_lt os_lt (sE_var 4) (sE_var 5) (nomark _))))) (sS_one (sS_ret (sE_tup (sA_cons sE_str (sA_cons (sE_var 3) (sA_cons (sE_op or_add os_add (sE_var 4) (sE_call rfl ((ok_take g).mono (by decide)) hr (by rfl) g.m_take g.F_take.kp (bd_take_2 g) passB (sAr_io 0 (sAr_v (sE_op op_sub os_sub (sE_var 5) (sE_var 4)) sAr_nil)))) sA_nil)))))) sS_nil)
      (sS_cons (sS_if (sT_w (sW_and (sT_cmp (op_eqD hr.units) os_eq (sE_var 2) sE_int (nomark _)) (sW_and1 (sT_cmp op_gt os_gt (sE_op op_sub os_sub (sE_var 5) (sE_var 4)) sE_int (nomark _))))) (sS_cons (sS_setLcO (i := 8) (own := [("_law_turn", 9)]) rfl scope.nd (by rfl) rfl (sI_range1 (by rfl) g.z_range (sA_cons sE_int sA_nil)) (blkOk_by (by kernel_rfl)) (fun _ _ _ _ _ _ => (sC_name scope.nd (i := 9) (by rfl) (.inl rfl) (by decide))) (fun _ _ _ _ _ _ => sTs_nil) (fun _ _ _ _ _ _ => (sE_op or_add os_add (sE_op or_add os_add (sE_var 4) sE_int) (sE_call rfl ((ok_take g).mono (by decide)) hr (by rfl) g.m_take g.F_take.kp (bd_take_2 g) passNo (sAr_io 0 (sAr_v (sE_op op_sub os_sub (sE_op op_sub os_sub (sE_var 5) (sE_var 4)) sE_int) sAr_nil))))) (by rfl))
      (sS_one (sS_ret (sE_tup (sA_cons sE_str (sA_cons (sE_var 3) (sA_cons (sE_tup (sA_cons (sE_callB (cr_min1 rfl (of65 (room65 hr))) fs_min1 (by rfl) g.z_min bt_min (sA_cons (sE_var 8) sA_nil)) (sA_cons (sE_callB (cr_max1 rfl (of65 (room65 hr))) fs_max1 (by rfl) g.z_max bt_max (sA_cons (sE_var 8) sA_nil)) sA_nil))) sA_nil))))))) sS_nil)
      (sS_one (sS_ret (sE_tup (sA_cons sE_str (sA_cons (sE_var 3) sA_nil))))))))))
/-! ### more -/
theorem sc_more : FnScope ["_law_deed_here", "_law_row_so", "_law_found", "_law_own"] ["_law_deed_here", "_law_row_so"] (defScope s_more) := ⟨rfl, rfl, rfl, by decide +kernel, rfl, by decide +kernel, by decide +kernel⟩
theorem ok_more (g : Top L mg) : FnOk L.pr L.w L.K mg base (L2.CX L.pr L.w) 2 g.a_more g.d_more ["_law_deed_here", "_law_row_so"] (spF L [false, false] f_more) := by
    have scope := sc_more
    exact fn_ok (N := ["_law_deed_here", "_law_row_so", "_law_found", "_law_own"]) (b := b_more) g.F_more sc_more rfl (by decide) fun cdv A outer s H E P hr =>
      (sS_cons (sS_set (i := 2) scope.nd (by rfl) (.inl rfl) (sE_callB call_len fs_len (by rfl) g.z_len bt_len (sA_cons (SE.of (sF_lc (own := [("_law_own", 3)]) rfl scope.nd (sI_seq rfl (sE_call rfl ((ok_fresh g).mono (by decide)) hr (by rfl) g.m_fresh g.F_fresh.kp (bd_fresh_1 g) passB (sAr_v (sE_var 0) sAr_nil))) (blkOk_by (by kernel_rfl)) (fun _ _ _ _ _ _ => (sC_name scope.nd (i := 3) (by rfl) (.inl rfl) (by decide))) (fun _ _ _ _ _ _ => (sTs_one (sT_val (sE_call rfl ((ok_in g).mono (by decide)) hr (by rfl) g.m_in g.F_in.kp (bd_in_2 g) passNo (sAr_v (sE_var 3) (sAr_v (sE_var 1) sAr_nil)))))) (fun _ _ _ _ _ _ => (sE_var 3)))) sA_nil)))
      (sS_one (sS_ret (sE_op op_sub os_sub (sE_var 2) (sE_callB call_len fs_len (by rfl) g.z_len bt_len (sA_cons (SE.of (sF_lc (own := [("_law_own", 3)]) rfl scope.nd (sI_seq rfl (sE_call rfl ((ok_gone g).mono (by decide)) hr (by rfl) g.m_gone g.F_gone.kp (bd_gone_1 g) passB (sAr_v (sE_var 0) sAr_nil))) (blkOk_by (by kernel_rfl)) (fun _ _ _ _ _ _ => (sC_name scope.nd (i := 3) (by rfl) (.inl rfl) (by decide))) (fun _ _ _ _ _ _ => (sTs_one (sT_val (sE_call rfl ((ok_in g).mono (by decide)) hr (by rfl) g.m_in g.F_in.kp (bd_in_2 g) passNo (sAr_v (sE_var 3) (sAr_v (sE_var 1) sAr_nil)))))) (fun _ _ _ _ _ _ => (sE_var 3)))) sA_nil))))))
/-! ### by_hand_right -/
theorem sc_by_hand_right : FnScope ["_law_far", "_law_wide", "_law_long_so", "_law_spots_so", "_law_got", "_law_due", "_law_deeds", "_law_own", "_law_k"] [] (defScope s_by_hand_right) := ⟨rfl, rfl, rfl, by decide +kernel, rfl, by decide +kernel, by decide +kernel⟩
theorem ok_by_hand_right (g : Top L mg) : FnOk L.pr L.w L.K mg base (L2.CX L.pr L.w) 9 g.a_by_hand_right g.d_by_hand_right [] (spF L [] f_by_hand_right) := by
    have scope := sc_by_hand_right
    exact fn_ok (N := ["_law_far", "_law_wide", "_law_long_so", "_law_spots_so", "_law_got", "_law_due", "_law_deeds", "_law_own", "_law_k"]) (b := b_by_hand_right) g.F_by_hand_right sc_by_hand_right rfl (by decide) fun cdv A outer s H E P hr =>
      (sS_cons (sS_set (i := 0) scope.nd (by rfl) (.inl rfl) (sE_op op_pow os_pow sE_int sE_int))
      (sS_cons (sS_asg (sE_tup (sA_cons (sE_tup (sA_cons sE_str (sA_cons (sE_tup (sA_cons sE_int (sA_cons (sE_var 0) sA_nil))) (sA_cons (sE_tup (sA_cons sE_int (sA_cons (sE_op op_sub os_sub (sE_var 0) sE_int) sA_nil))) sA_nil)))) (sA_cons (sE_callTy call_tuple_of fs_tuple (by rfl) g.z_tuple bt_tuple (sA_cons (SE.of (sF_lc (own := [("_law_k", 8)]) rfl scope.nd (sI_range1 (by rfl) g.z_range (sA_cons sE_int sA_nil)) (blkOk_by (by kernel_rfl)) (fun _ _ _ _ _ _ => (sC_name scope.nd (i := 8) (by rfl) (.inl rfl) (by decide))) (fun _ _ _ _ _ _ => sTs_nil) (fun _ _ _ _ _ _ => (sE_op or_mul os_mul sE_int (sE_var 8))))) sA_nil)) sA_nil))) (sG_tup rfl rfl (sGs_cons (sG_name (i := 1) scope.nd (by rfl) (.inr rfl)) (sGs_cons (sG_name (i := 2) scope.nd (by rfl) (.inl rfl)) sGs_nil))))
      (sS_cons (sS_set (i := 3) scope.nd (by rfl) (.inl rfl) (sE_tup (sA_cons (sE_tup sA_nil) (sA_cons (sE_tup (sA_cons sE_int sA_nil)) (sA_cons (sE_tup (sA_cons sE_int sA_nil)) (sA_cons (sE_tup (sA_cons sE_int (sA_cons sE_int sA_nil))) (sA_cons (sE_tup (sA_cons sE_int (sA_cons sE_int (sA_cons sE_int sA_nil)))) (sA_cons (sE_tup (sA_cons sE_int sA_nil)) (sA_cons (sE_tup (sA_cons sE_int (sA_cons sE_int sA_nil))) sA_nil)))))))))
      (sS_cons (sS_setO (i := 4) scope.nd (by rfl) (.inl rfl) (tLst_fresh (sA_cons (SE.of (sF_lc (own := [("_law_own", 7)]) rfl scope.nd (sI_seq rfl (sE_var 3)) (blkOk_by (by kernel_rfl)) (fun _ _ _ _ _ _ => (sC_name scope.nd (i := 7) (by rfl) (.inl rfl) (by decide))) (fun _ _ _ _ _ _ => sTs_nil) (fun _ _ _ _ _ _ => (sE_call rfl ((ok_more_met g).mono (by decide)) hr (by rfl) g.m_more_met g.F_more_met.kp (bd_more_met_2 g) passNo (sAr_v (sE_tup (sA_cons sE_str (sA_cons (sE_tup (sA_cons sE_int (sA_cons sE_int sA_nil))) (sA_cons (sE_tup (sA_cons sE_int (sA_cons sE_int sA_nil))) sA_nil)))) (sAr_v (sE_var 7) sAr_nil)))))) sA_nil)))
      (sS_cons (sS_setO (i := 5) scope.nd (by rfl) (.inl rfl) (tLst_fresh (sA_cons (sE_lst (sA_cons sE_int (sA_cons sE_int (sA_cons sE_int (sA_cons sE_int (sA_cons sE_int (sA_cons sE_int (sA_cons sE_int sA_nil)))))))) sA_nil)))
      (sS_cons (sS_set (i := 3) scope.nd (by rfl) (.inl rfl) (sE_tup (sA_cons (sE_tup (sA_cons sE_int sA_nil)) (sA_cons (sE_tup (sA_cons sE_int sA_nil)) (sA_cons (sE_tup (sA_cons sE_int (sA_cons sE_int sA_nil))) (sA_cons (sE_tup (sA_cons sE_int (sA_cons sE_int sA_nil))) (sA_cons (sE_tup (sA_cons sE_int (sA_cons sE_int sA_nil))) (sA_cons (sE_tup (sA_cons sE_int (sA_cons sE_int sA_nil))) (sA_cons (sE_tup sA_nil) sA_nil)))))))))
      (sS_cons (sS_expr (sE_app 4 (SE.of (sF_lc (own := [("_law_own", 7)]) rfl scope.nd (sI_seq rfl (sE_var 3)) (blkOk_by (by kernel_rfl)) (fun _ _ _ _ _ _ => (sC_name scope.nd (i := 7) (by rfl) (.inl rfl) (by decide))) (fun _ _ _ _ _ _ => sTs_nil) (fun _ _ _ _ _ _ => (sE_call rfl ((ok_more_met g).mono (by decide)) hr (by rfl) g.m_more_met g.F_more_met.kp (bd_more_met_2 g) passNo (sAr_v (sE_tup (sA_cons sE_str (sA_cons (sE_tup (sA_cons sE_int (sA_cons sE_int sA_nil))) (sA_cons sE_int sA_nil)))) (sAr_v (sE_var 7) sAr_nil))))))))
      (sS_cons (sS_expr (sE_app 5 (sE_lst (sA_cons sE_int (sA_cons sE_int (sA_cons sE_int (sA_cons sE_int (sA_cons sE_int (sA_cons sE_int (sA_cons sE_int sA_nil))))))))))
      (sS_cons (sS_set (i := 3) scope.nd (by rfl) (.inl rfl) (sE_tup (sA_cons (sE_tup (sA_cons sE_int sA_nil)) (sA_cons (sE_tup (sA_cons sE_int sA_nil)) (sA_cons (sE_tup (sA_cons sE_int (sA_cons sE_int sA_nil))) (sA_cons (sE_tup (sA_cons sE_int sA_nil)) (sA_cons (sE_tup (sA_cons sE_int (sA_cons sE_int sA_nil))) (sA_cons (sE_tup (sA_cons sE_int sA_nil)) (sA_cons (sE_tup sA_nil) sA_nil)))))))))
      (sS_cons (sS_expr (sE_app 4 (SE.of (sF_lc (own := [("_law_own", 7)]) rfl scope.nd (sI_seq rfl (sE_var 3)) (blkOk_by (by kernel_rfl)) (fun _ _ _ _ _ _ => (sC_name scope.nd (i := 7) (by rfl) (.inl rfl) (by decide))) (fun _ _ _ _ _ _ => sTs_nil) (fun _ _ _ _ _ _ => (sE_call rfl ((ok_more_met g).mono (by decide)) hr (by rfl) g.m_more_met g.F_more_met.kp (bd_more_met_2 g) passNo (sAr_v (sE_tup (sA_cons sE_str (sA_cons (sE_tup (sA_cons sE_int (sA_cons sE_int sA_nil))) (sA_cons (sE_tup (sA_cons sE_int (sA_cons sE_int sA_nil))) sA_nil)))) (sAr_v (sE_var 7) sAr_nil))))))))
      (sS_cons (sS_expr (sE_app 5 (sE_lst (sA_cons sE_int (sA_cons sE_int (sA_cons sE_int (sA_cons sE_int (sA_cons sE_int (sA_cons sE_int (sA_cons sE_int sA_nil))))))))))
      (sS_cons (sS_expr (sE_app 4 (SE.of (sF_lc (own := [("_law_own", 7)]) rfl scope.nd (sI_seq rfl (sE_tup (sA_cons (sE_tup (sA_cons sE_int (sA_cons sE_int sA_nil))) (sA_cons (sE_tup (sA_cons sE_int (sA_cons sE_int sA_nil))) (sA_cons (sE_tup (sA_cons sE_int sA_nil)) (sA_cons (sE_tup sA_nil) sA_nil)))))) (blkOk_by (by kernel_rfl)) (fun _ _ _ _ _ _ => (sC_name scope.nd (i := 7) (by rfl) (.inl rfl) (by decide))) (fun _ _ _ _ _ _ => sTs_nil) (fun _ _ _ _ _ _ => (sE_call rfl ((ok_more_met g).mono (by decide)) hr (by rfl) g.m_more_met g.F_more_met.kp (bd_more_met_2 g) passNo (sAr_v (sE_tup (sA_cons sE_str (sA_cons (sE_tup (sA_cons sE_int (sA_cons sE_int sA_nil))) sA_nil))) (sAr_v (sE_var 7) sAr_nil))))))))
      (sS_cons (sS_expr (sE_app 5 (sE_lst (sA_cons sE_int (sA_cons sE_int (sA_cons sE_int (sA_cons sE_int sA_nil)))))))
      (sS_cons (sS_set (i := 3) scope.nd (by rfl) (.inl rfl) (sE_tup (sA_cons (sE_tup (sA_cons sE_int (sA_cons (sE_var 0) sA_nil))) (sA_cons (sE_tup (sA_cons sE_int (sA_cons (sE_op op_sub os_sub (sE_var 0) sE_int) sA_nil))) (sA_cons (sE_tup (sA_cons sE_int (sA_cons (sE_op op_sub os_sub (sE_var 0) sE_int) sA_nil))) (sA_cons (sE_var 2) (sA_cons (sE_tup (sA_cons sE_int (sA_cons (sE_op op_sub os_sub (sE_var 0) sE_int) (sA_cons (sE_var 0) sA_nil)))) sA_nil)))))))
      (sS_cons (sS_expr (sE_app 4 (SE.of (sF_lc (own := [("_law_own", 7)]) rfl scope.nd (sI_seq rfl (sE_var 3)) (blkOk_by (by kernel_rfl)) (fun _ _ _ _ _ _ => (sC_name scope.nd (i := 7) (by rfl) (.inl rfl) (by decide))) (fun _ _ _ _ _ _ => sTs_nil) (fun _ _ _ _ _ _ => (sE_call rfl ((ok_more_met g).mono (by decide)) hr (by rfl) g.m_more_met g.F_more_met.kp (bd_more_met_2 g) passNo (sAr_v (sE_var 1) (sAr_v (sE_var 7) sAr_nil))))))))
      (sS_cons (sS_expr (sE_app 5 (sE_lst (sA_cons sE_int (sA_cons sE_int (sA_cons sE_int (sA_cons sE_int (sA_cons sE_int sA_nil))))))))
      (sS_cons (sS_set (i := 6) scope.nd (by rfl) (.inl rfl) (sE_tup (sA_cons (sE_tup (sA_cons sE_str (sA_cons (sE_tup (sA_cons sE_int (sA_cons sE_int sA_nil))) (sA_cons (sE_tup (sA_cons sE_int (sA_cons sE_int sA_nil))) sA_nil)))) (sA_cons (sE_tup (sA_cons sE_str (sA_cons (sE_tup (sA_cons sE_int (sA_cons sE_int sA_nil))) (sA_cons (sE_tup (sA_cons sE_int (sA_cons sE_int sA_nil))) sA_nil)))) (sA_cons (sE_var 1) (sA_cons (sE_tup (sA_cons sE_str (sA_cons (sE_tup (sA_cons sE_int (sA_cons sE_int sA_nil))) sA_nil))) sA_nil))))))
      (sS_cons (sS_expr (sE_app 4 (SE.of (sF_lc (own := [("_law_own", 7)]) rfl scope.nd (sI_seq rfl (sE_var 6)) (blkOk_by (by kernel_rfl)) (fun _ _ _ _ _ _ => (sC_name scope.nd (i := 7) (by rfl) (.inl rfl) (by decide))) (fun _ _ _ _ _ _ => sTs_nil) (fun _ _ _ _ _ _ => (sE_call rfl ((ok_ticks_for g).mono (by decide)) hr (by rfl) g.m_ticks_for g.F_ticks_for.kp (bd_ticks_for_1 g) passNo (sAr_v (sE_var 7) sAr_nil)))))))
      (sS_cons (sS_expr (sE_app 5 (sE_lst (sA_cons (sE_tup (sA_cons sE_int (sA_cons sE_int sA_nil))) (sA_cons (sE_tup (sA_cons sE_int (sA_cons sE_int sA_nil))) (sA_cons (sE_tup (sA_cons sE_int (sA_cons (sE_op op_sub os_sub (sE_var 0) sE_int) sA_nil))) (sA_cons (sE_tup (sA_cons sE_int sA_nil)) sA_nil)))))))
      (sS_cons (sS_set (i := 6) scope.nd (by rfl) (.inl rfl) (sE_tup (sA_cons (sE_tup (sA_cons sE_str (sA_cons (sE_tup (sA_cons sE_int (sA_cons sE_int sA_nil))) (sA_cons (sE_tup (sA_cons sE_int (sA_cons sE_int sA_nil))) sA_nil)))) (sA_cons (sE_tup (sA_cons sE_str (sA_cons (sE_tup (sA_cons sE_int (sA_cons sE_int sA_nil))) (sA_cons (sE_tup (sA_cons sE_int (sA_cons sE_int sA_nil))) sA_nil)))) (sA_cons (sE_tup (sA_cons sE_str (sA_cons (sE_tup (sA_cons sE_int (sA_cons sE_int sA_nil))) (sA_cons (sE_tup (sA_cons sE_int (sA_cons sE_int sA_nil))) sA_nil)))) sA_nil)))))
      (sS_cons (sS_expr (sE_app 4 (SE.of (sF_lc (own := [("_law_own", 7)]) rfl scope.nd (sI_seq rfl (sE_var 6)) (blkOk_by (by kernel_rfl)) (fun _ _ _ _ _ _ => (sC_name scope.nd (i := 7) (by rfl) (.inl rfl) (by decide))) (fun _ _ _ _ _ _ => sTs_nil) (fun _ _ _ _ _ _ => (sE_call rfl ((ok_ticks_for g).mono (by decide)) hr (by rfl) g.m_ticks_for g.F_ticks_for.kp (bd_ticks_for_1 g) passNo (sAr_v (sE_var 7) sAr_nil)))))))
      (sS_cons (sS_expr (sE_app 5 (sE_lst (sA_cons (sE_tup (sA_cons sE_int sA_nil)) (sA_cons (sE_tup (sA_cons sE_int sA_nil)) (sA_cons (sE_tup (sA_cons sE_int sA_nil)) sA_nil))))))
      (sS_cons (sS_set (i := 6) scope.nd (by rfl) (.inl rfl) (sE_tup (sA_cons (sE_tup (sA_cons sE_str (sA_cons (sE_tup (sA_cons sE_int (sA_cons sE_int sA_nil))) (sA_cons sE_int sA_nil)))) (sA_cons (sE_tup (sA_cons sE_str (sA_cons (sE_tup (sA_cons sE_int (sA_cons sE_int sA_nil))) (sA_cons sE_int sA_nil)))) (sA_cons (sE_tup (sA_cons sE_str (sA_cons (sE_tup (sA_cons sE_int (sA_cons (sE_var 0) sA_nil))) (sA_cons (sE_op op_sub os_sub (sE_var 0) sE_int) sA_nil)))) sA_nil)))))
      (sS_cons (sS_expr (sE_app 4 (SE.of (sF_lc (own := [("_law_own", 7)]) rfl scope.nd (sI_seq rfl (sE_var 6)) (blkOk_by (by kernel_rfl)) (fun _ _ _ _ _ _ => (sC_name scope.nd (i := 7) (by rfl) (.inl rfl) (by decide))) (fun _ _ _ _ _ _ => sTs_nil) (fun _ _ _ _ _ _ => (sE_call rfl ((ok_ticks_for g).mono (by decide)) hr (by rfl) g.m_ticks_for g.F_ticks_for.kp (bd_ticks_for_1 g) passNo (sAr_v (sE_var 7) sAr_nil)))))))
      (sS_cons (sS_expr (sE_app 5 (sE_lst (sA_cons (sE_tup (sA_cons sE_int (sA_cons sE_int sA_nil))) (sA_cons (sE_tup (sA_cons sE_int (sA_cons sE_int sA_nil))) (sA_cons (sE_tup (sA_cons sE_int (sA_cons (sE_var 0) sA_nil))) sA_nil))))))
      (sS_cons (sS_setO (i := 4) scope.nd (by rfl) (.inl rfl) (sF_addP 4 (sE_lst (sA_cons (sE_callK0 rfl ((ok_more_met g).mono (by decide)) hr (by rfl) g.m_more_met g.F_more_met.kp (bd_more_met_0_timetable_move g) passB (sK_cons (sE_lst (sA_cons sE_int (sA_cons sE_int sA_nil))) (sK_cons (sE_lst (sA_cons sE_str (sA_cons (sE_lst (sA_cons sE_int (sA_cons sE_int sA_nil))) (sA_cons (sE_lst (sA_cons sE_int (sA_cons sE_int sA_nil))) sA_nil)))) sK_nil))) sA_nil))))
      (sS_cons (sS_setO (i := 4) scope.nd (by rfl) (.inl rfl) (sF_addP 4 (sE_lst (sA_cons (sE_callK0 rfl ((ok_ticks_for g).mono (by decide)) hr (by rfl) g.m_ticks_for g.F_ticks_for.kp (bd_ticks_for_0_move g) passB (sK_cons (sE_lst (sA_cons sE_str (sA_cons (sE_lst (sA_cons sE_int (sA_cons sE_int sA_nil))) (sA_cons sE_int sA_nil)))) sK_nil)) sA_nil))))
      (sS_one (sS_ret (sE_call rfl ((ok_same g).mono (by decide)) hr (by rfl) g.m_same g.F_same.kp (bd_same_2 g) passB (sAr_v (sE_var 4) (sAr_v (sE_opP 5 or_add os_add (sE_lst (sA_cons sE_int (sA_cons (sE_tup (sA_cons sE_int (sA_cons sE_int sA_nil))) sA_nil)))) sAr_nil))))))))))))))))))))))))))))))))
/-! ### right -/
theorem sc_right : FnScope ["_law_box_here", "_law_deed_here", "_law_soft", "_law_every", "_law_due", "_law_fine", "_law_least", "_law_goal", "_law_got", "_law_own"] ["_law_box_here"] (defScope s_right) := ⟨rfl, rfl, rfl, by decide +kernel, rfl, by decide +kernel, by decide +kernel⟩
theorem ok_right (g : Top L mg) : FnOk L.pr L.w L.K mg base (L2.CX L.pr L.w) 9 g.a_right g.d_right ["_law_box_here"] (spF L [true] f_right) := by
    have scope := sc_right
    exact fn_ok (N := ["_law_box_here", "_law_deed_here", "_law_soft", "_law_every", "_law_due", "_law_fine", "_law_least", "_law_goal", "_law_got", "_law_own"]) (b := b_right) g.F_right sc_right rfl (by decide) fun cdv A outer s H E P hr =>
      (sS_cons (sS_set (i := 1) scope.nd (by rfl) (.inr rfl) (sE_call rfl ((ok_deed g).mono (by decide)) hr (by rfl) g.m_deed g.F_deed.kp (bd_deed_2 g) passB (sAr_io 0 (sAr_v sE_int sAr_nil))))
      (sS_cons (sS_par (i := 2) (j := 3) rfl scope.nd (by rfl) (by rfl) (by decide) rfl rfl (sE_call rfl ((ok_lists g).mono (by decide)) hr (by rfl) g.m_lists g.F_lists.kp (bd_lists_1 g) passB (sAr_v (sE_var 1) sAr_nil)) (sE_call rfl ((ok_rows g).mono (by decide)) hr (by rfl) g.m_rows g.F_rows.kp (bd_rows_1 g) passB (sAr_v sE_int sAr_nil)) (by rfl))
      (sS_cons (sS_setLcO (i := 4) (own := [("_law_own", 9)]) rfl scope.nd (by rfl) rfl (sI_seq rfl (sE_var 3)) (blkOk_by (by kernel_rfl)) (fun _ _ _ _ _ _ => (sC_name scope.nd (i := 9) (by rfl) (.inl rfl) (by decide))) (fun _ _ _ _ _ _ => sTs_nil) (fun _ _ _ _ _ _ => (sE_call rfl ((ok_more g).mono (by decide)) hr (by rfl) g.m_more g.F_more.kp (bd_more_2 g) passNo (sAr_v (sE_var 1) (sAr_v (sE_var 9) sAr_nil)))) (by rfl))
      (sS_cons (sS_if (sT_not (sT_val (sE_call rfl ((ok_same g).mono (by decide)) hr (by rfl) g.m_same g.F_same.kp (bd_same_2 g) passB (sAr_v (SE.of (sF_lc (own := [("_law_own", 9)]) rfl scope.nd (sI_seq rfl (sE_var 3)) (blkOk_by (by kernel_rfl)) (fun _ _ _ _ _ _ => (sC_name scope.nd (i := 9) (by rfl) (.inl rfl) (by decide))) (fun _ _ _ _ _ _ => sTs_nil) (fun _ _ _ _ _ _ => (sE_call rfl ((ok_more_met g).mono (by decide)) hr (by rfl) g.m_more_met g.F_more_met.kp (bd_more_met_2 g) passNo (sAr_v (sE_var 1) (sAr_v (sE_var 9) sAr_nil)))))) (sAr_v (sE_var 4) sAr_nil))))) (sS_one (sS_ret sE_bl)) sS_nil)
      (sS_cons (sS_if (sT_cmp (op_neD hr.units) os_ne (SE.of (sF_lc (own := [("_law_own", 9)]) rfl scope.nd (sI_seq rfl (sE_var 4)) (blkOk_by (by kernel_rfl)) (fun _ _ _ _ _ _ => (sC_name scope.nd (i := 9) (by rfl) (.inl rfl) (by decide))) (fun _ _ _ _ _ _ => (sTs_one (sT_cmp (op_notIn2 (room65 hr)) os_notIn2 (sE_var 9) (sE_tup (sA_cons sE_int (sA_cons sE_int sA_nil))) (by with_unfolding_all rfl)))) (fun _ _ _ _ _ _ => (sE_var 9)))) (sE_lst sA_nil) (nomark _)) (sS_one (sS_ret sE_bl)) sS_nil)
      (sS_cons (sS_setLcO (i := 5) (own := [("_law_own", 9)]) rfl scope.nd (by rfl) rfl (sI_seq rfl (sE_var 3)) (blkOk_by (by kernel_rfl)) (fun _ _ _ _ _ _ => (sC_name scope.nd (i := 9) (by rfl) (.inl rfl) (by decide))) (fun _ _ _ _ _ _ => (sTs_one (sT_cmp (op_eqD hr.units) os_eq (sE_call rfl ((ok_more g).mono (by decide)) hr (by rfl) g.m_more g.F_more.kp (bd_more_2 g) passNo (sAr_v (sE_var 1) (sAr_v (sE_var 9) sAr_nil))) sE_int (nomark _)))) (fun _ _ _ _ _ _ => (sE_var 9)) (by rfl))
      (sS_cons (sS_set (i := 6) scope.nd (by rfl) (.inr rfl) (sE_callB (cr_min1 rfl (of65 (room65 hr))) fs_min1 (by rfl) g.z_min bt_min (sA_cons (SE.of (sF_lc (own := [("_law_own", 9)]) rfl scope.nd (sI_seq rfl (sE_var 5)) (blkOk_by (by kernel_rfl)) (fun _ _ _ _ _ _ => (sC_name scope.nd (i := 9) (by rfl) (.inl rfl) (by decide))) (fun _ _ _ _ _ _ => sTs_nil) (fun _ _ _ _ _ _ => (sE_callB call_len fs_len (by rfl) g.z_len bt_len (sA_cons (sE_var 9) sA_nil))))) sA_nil)))
      (sS_cons (sS_set (i := 7) scope.nd (by rfl) (.inl rfl) (sE_callB (cr_min1 rfl (of65 (room65 hr))) fs_min1 (by rfl) g.z_min bt_min (sA_cons (SE.of (sF_lc (own := [("_law_own", 9)]) rfl scope.nd (sI_seq rfl (sE_var 5)) (blkOk_by (by kernel_rfl)) (fun _ _ _ _ _ _ => (sC_name scope.nd (i := 9) (by rfl) (.inl rfl) (by decide))) (fun _ _ _ _ _ _ => (sTs_one (sT_cmp (op_eqD hr.units) os_eq (sE_callB call_len fs_len (by rfl) g.z_len bt_len (sA_cons (sE_var 9) sA_nil)) (sE_var 6) (nomark _)))) (fun _ _ _ _ _ _ => (sE_var 9)))) sA_nil)))
      (sS_cons (sS_set (i := 8) scope.nd (by rfl) (.inl rfl) (sE_lst (sA_cons (sE_call rfl ((ok_ticks_for g).mono (by decide)) hr (by rfl) g.m_ticks_for g.F_ticks_for.kp (bd_ticks_for_1 g) passB (sAr_v (sE_var 1) sAr_nil)) (sA_cons (sE_call rfl ((ok_ticks_for g).mono (by decide)) hr (by rfl) g.m_ticks_for g.F_ticks_for.kp (bd_ticks_for_1 g) passB (sAr_v (sE_var 2) sAr_nil)) (sA_cons (sE_call rfl ((ok_more_met g).mono (by decide)) hr (by rfl) g.m_more_met g.F_more_met.kp (bd_more_met_2 g) passB (sAr_v (sE_var 2) (sAr_v (SE.of (sF_callTy call_list_of ff_list (by rfl) g.z_list bt_list (sA_cons (sE_var 7) sA_nil))) sAr_nil))) sA_nil)))))
      (sS_one (sS_ret (sE_andC rfl (sE_call rfl ((ok_same g).mono (by decide)) hr (by rfl) g.m_same g.F_same.kp (bd_same_2 g) passB (sAr_v (sE_var 8) (sAr_v (sE_lst (sA_cons (sE_var 7) (sA_cons (sE_var 7) (sA_cons sE_int sA_nil)))) sAr_nil))) (sE_one (sE_cmp (op_eqD hr.units) os_eq (sE_var 2) (sE_call rfl ((ok_lists g).mono (by decide)) hr (by rfl) g.m_lists g.F_lists.kp (bd_lists_1 g) passB (sAr_v (sE_var 1) sAr_nil)) (nomark _)))))))))))))))
/-! ### law -/
theorem sc_law : FnScope ["_law_script", "_law_cells_here", "_law_k", "_law_box_here", "_law_turn"] ["_law_script"] (defScope s_law) := ⟨rfl, rfl, rfl, by decide +kernel, rfl, by decide +kernel, by decide +kernel⟩
theorem ok_law (g : Top L mg) : FnOk L.pr L.w L.K mg base (L2.CX L.pr L.w) 10 g.a_law g.d_law ["_law_script"] (spF L [false] f_law) := by
    have scope := sc_law
    exact fn_ok (N := ["_law_script", "_law_cells_here", "_law_k", "_law_box_here", "_law_turn"]) (b := b_law) g.F_law sc_law rfl (by decide) fun cdv A outer s H E P hr =>
      (sS_cons (sS_if (sT_not (sT_val (sE_call0 rfl ((ok_by_hand_right g).mono (by decide)) hr (by rfl) g.m_by_hand_right g.F_by_hand_right.kp (bd_by_hand_right_0 g) passB))) (sS_one (sS_ret sE_bl)) sS_nil)
      (sS_cons (sS_set (i := 1) scope.nd (by rfl) (.inl rfl) (sE_call rfl ((ok_cells g).mono (by decide)) hr (by rfl) g.m_cells g.F_cells.kp (bd_cells_2 g) passB (sAr_v (sE_var 0) (sAr_v sE_int sAr_nil))))
      (sS_cons (sS_for ownB rfl (sI_range1 (by rfl) g.z_range (sA_cons (sE_callB call_len fs_len (by rfl) g.z_len bt_len (sA_cons (sE_var 1) sA_nil)) sA_nil)) (sG_name (i := 2) scope.nd (by rfl) (.inl rfl)) (sS_cons (sS_setO (i := 3) scope.nd (by rfl) (.inr rfl) (sF_call rfl ((ok_box g).mono (by decide)) hr (by rfl) g.m_box g.F_box.kp (bd_box_2 g) passB (sAr_v (sE_var 1) (sAr_v (sE_var 2) sAr_nil))))
      (sS_one (sS_if (sT_not (sT_val (sE_callB (cr_all rfl) fs_all (by rfl) g.z_all bt_all (sA_cons (SE.of (sF_lc (own := [("_law_turn", 4)]) rfl scope.nd (sI_range1 (by rfl) g.z_range (sA_cons sE_int sA_nil)) (blkOk_by (by kernel_rfl)) (fun _ _ _ _ _ _ => (sC_name scope.nd (i := 4) (by rfl) (.inl rfl) (by decide))) (fun _ _ _ _ _ _ => sTs_nil) (fun _ _ _ _ _ _ => (sE_call rfl ((ok_right g).mono (by decide)) hr (by rfl) g.m_right g.F_right.kp (bd_right_1 g) passNo (sAr_io 3 sAr_nil))))) sA_nil)))) (sS_one (sS_ret sE_bl)) sS_nil))))
      (sS_one (sS_ret sE_bl)))))
end
theorem all_mk {l : PySem.W.OpenLaw} {w : World} {K : PySem.W.Frag} {h : Heap} {mg : Str → Option Value} {fa a_set_of a_tupled a_holds a_is_met a_goes a_comes a_more_met a_ticks_for a_box a_take a_cells a_same a_lists a_stay a_in a_rows a_gone a_fresh a_deed a_more a_by_hand_right a_right a_law : Addr} (X : K.In h) (G : h.Ns mainGlobals mg) (hfa : mg "law" = some (.ref fa))
    {od_set_of an_set_of od_tupled an_tupled od_holds an_holds od_is_met an_is_met od_goes an_goes od_comes an_comes od_more_met an_more_met od_ticks_for an_ticks_for od_box an_box od_take an_take od_cells an_cells od_same an_same od_lists an_lists od_stay an_stay od_in an_in od_rows an_rows od_gone an_gone od_fresh an_fresh od_deed an_deed od_more an_more od_by_hand_right an_by_hand_right od_right an_right od_law an_law : Option Addr} {sl_set_of sl_tupled sl_holds sl_is_met sl_goes sl_comes sl_more_met sl_ticks_for sl_box sl_take sl_cells sl_same sl_lists sl_stay sl_in sl_rows sl_gone sl_fresh sl_deed sl_more sl_by_hand_right sl_right sl_law : Array (Option Value)} {oc_set_of kV_set_of dc_set_of pm_set_of cd_set_of ct_set_of oc_tupled kV_tupled dc_tupled pm_tupled cd_tupled ct_tupled oc_holds kV_holds dc_holds pm_holds cd_holds ct_holds oc_is_met kV_is_met dc_is_met pm_is_met cd_is_met ct_is_met oc_goes kV_goes dc_goes pm_goes cd_goes ct_goes oc_comes kV_comes dc_comes pm_comes cd_comes ct_comes oc_more_met kV_more_met dc_more_met pm_more_met cd_more_met ct_more_met oc_ticks_for kV_ticks_for dc_ticks_for pm_ticks_for cd_ticks_for ct_ticks_for oc_box kV_box dc_box pm_box cd_box ct_box oc_take kV_take dc_take pm_take cd_take ct_take oc_cells kV_cells dc_cells pm_cells cd_cells ct_cells oc_same kV_same dc_same pm_same cd_same ct_same oc_lists kV_lists dc_lists pm_lists cd_lists ct_lists oc_stay kV_stay dc_stay pm_stay cd_stay ct_stay oc_in kV_in dc_in pm_in cd_in ct_in oc_rows kV_rows dc_rows pm_rows cd_rows ct_rows oc_gone kV_gone dc_gone pm_gone cd_gone ct_gone oc_fresh kV_fresh dc_fresh pm_fresh cd_fresh ct_fresh oc_deed kV_deed dc_deed pm_deed cd_deed ct_deed oc_more kV_more dc_more pm_more cd_more ct_more oc_by_hand_right kV_by_hand_right dc_by_hand_right pm_by_hand_right cd_by_hand_right ct_by_hand_right oc_right kV_right dc_right pm_right cd_right ct_right oc_law kV_law dc_law pm_law cd_law ct_law : Value} {t_CROSS t_NEW t_SPLIT : Tok}
    (n_set_of : PySem.W.nsIn K mainGlobals "set_of" = some (some (.ref a_set_of))) (l_set_of : K.lookup a_set_of = some ⟨oc_set_of, od_set_of, .func (PySem.W.fnOf "set_of" "set_of" (defArgs s_set_of) (defBody s_set_of) (defScope s_set_of) .none kV_set_of dc_set_of pm_set_of an_set_of cd_set_of ct_set_of), sl_set_of⟩) (c_set_of : PySem.W.codeIn K cd_set_of "set_of" = true) (k_set_of : PySem.W.keepIn K (.ref a_set_of) = true)
    (n_tupled : PySem.W.nsIn K mainGlobals "tupled" = some (some (.ref a_tupled))) (l_tupled : K.lookup a_tupled = some ⟨oc_tupled, od_tupled, .func (PySem.W.fnOf "tupled" "tupled" (defArgs s_tupled) (defBody s_tupled) (defScope s_tupled) .none kV_tupled dc_tupled pm_tupled an_tupled cd_tupled ct_tupled), sl_tupled⟩) (c_tupled : PySem.W.codeIn K cd_tupled "tupled" = true) (k_tupled : PySem.W.keepIn K (.ref a_tupled) = true)
    (n_holds : PySem.W.nsIn K mainGlobals "holds" = some (some (.ref a_holds))) (l_holds : K.lookup a_holds = some ⟨oc_holds, od_holds, .func (PySem.W.fnOf "holds" "holds" (defArgs s_holds) (defBody s_holds) (defScope s_holds) .none kV_holds dc_holds pm_holds an_holds cd_holds ct_holds), sl_holds⟩) (c_holds : PySem.W.codeIn K cd_holds "holds" = true) (k_holds : PySem.W.keepIn K (.ref a_holds) = true)
    (n_is_met : PySem.W.nsIn K mainGlobals "is_met" = some (some (.ref a_is_met))) (l_is_met : K.lookup a_is_met = some ⟨oc_is_met, od_is_met, .func (PySem.W.fnOf "is_met" "is_met" (defArgs s_is_met) (defBody s_is_met) (defScope s_is_met) .none kV_is_met dc_is_met pm_is_met an_is_met cd_is_met ct_is_met), sl_is_met⟩) (c_is_met : PySem.W.codeIn K cd_is_met "is_met" = true) (k_is_met : PySem.W.keepIn K (.ref a_is_met) = true)
    (n_goes : PySem.W.nsIn K mainGlobals "goes" = some (some (.ref a_goes))) (l_goes : K.lookup a_goes = some ⟨oc_goes, od_goes, .func (PySem.W.fnOf "goes" "goes" (defArgs s_goes) (defBody s_goes) (defScope s_goes) .none kV_goes dc_goes pm_goes an_goes cd_goes ct_goes), sl_goes⟩) (c_goes : PySem.W.codeIn K cd_goes "goes" = true) (k_goes : PySem.W.keepIn K (.ref a_goes) = true)
    (n_comes : PySem.W.nsIn K mainGlobals "comes" = some (some (.ref a_comes))) (l_comes : K.lookup a_comes = some ⟨oc_comes, od_comes, .func (PySem.W.fnOf "comes" "comes" (defArgs s_comes) (defBody s_comes) (defScope s_comes) .none kV_comes dc_comes pm_comes an_comes cd_comes ct_comes), sl_comes⟩) (c_comes : PySem.W.codeIn K cd_comes "comes" = true) (k_comes : PySem.W.keepIn K (.ref a_comes) = true)
    (n_more_met : PySem.W.nsIn K mainGlobals "more_met" = some (some (.ref a_more_met))) (l_more_met : K.lookup a_more_met = some ⟨oc_more_met, od_more_met, .func (PySem.W.fnOf "more_met" "more_met" (defArgs s_more_met) (defBody s_more_met) (defScope s_more_met) .none kV_more_met dc_more_met pm_more_met an_more_met cd_more_met ct_more_met), sl_more_met⟩) (c_more_met : PySem.W.codeIn K cd_more_met "more_met" = true) (k_more_met : PySem.W.keepIn K (.ref a_more_met) = true)
    (n_ticks_for : PySem.W.nsIn K mainGlobals "ticks_for" = some (some (.ref a_ticks_for))) (l_ticks_for : K.lookup a_ticks_for = some ⟨oc_ticks_for, od_ticks_for, .func (PySem.W.fnOf "ticks_for" "ticks_for" (defArgs s_ticks_for) (defBody s_ticks_for) (defScope s_ticks_for) .none kV_ticks_for dc_ticks_for pm_ticks_for an_ticks_for cd_ticks_for ct_ticks_for), sl_ticks_for⟩) (c_ticks_for : PySem.W.codeIn K cd_ticks_for "ticks_for" = true) (k_ticks_for : PySem.W.keepIn K (.ref a_ticks_for) = true)
    (n_box : PySem.W.nsIn K mainGlobals "_law_box" = some (some (.ref a_box))) (l_box : K.lookup a_box = some ⟨oc_box, od_box, .func (PySem.W.fnOf "_law_box" "_law_box" (defArgs s_box) (defBody s_box) (defScope s_box) .none kV_box dc_box pm_box an_box cd_box ct_box), sl_box⟩) (c_box : PySem.W.codeIn K cd_box "_law_box" = true) (k_box : PySem.W.keepIn K (.ref a_box) = true)
    (n_take : PySem.W.nsIn K mainGlobals "_law_take" = some (some (.ref a_take))) (l_take : K.lookup a_take = some ⟨oc_take, od_take, .func (PySem.W.fnOf "_law_take" "_law_take" (defArgs s_take) (defBody s_take) (defScope s_take) .none kV_take dc_take pm_take an_take cd_take ct_take), sl_take⟩) (c_take : PySem.W.codeIn K cd_take "_law_take" = true) (k_take : PySem.W.keepIn K (.ref a_take) = true)
    (n_cells : PySem.W.nsIn K mainGlobals "_law_cells" = some (some (.ref a_cells))) (l_cells : K.lookup a_cells = some ⟨oc_cells, od_cells, .func (PySem.W.fnOf "_law_cells" "_law_cells" (defArgs s_cells) (defBody s_cells) (defScope s_cells) .none kV_cells dc_cells pm_cells an_cells cd_cells ct_cells), sl_cells⟩) (c_cells : PySem.W.codeIn K cd_cells "_law_cells" = true) (k_cells : PySem.W.keepIn K (.ref a_cells) = true)
    (n_same : PySem.W.nsIn K mainGlobals "_law_same" = some (some (.ref a_same))) (l_same : K.lookup a_same = some ⟨oc_same, od_same, .func (PySem.W.fnOf "_law_same" "_law_same" (defArgs s_same) (defBody s_same) (defScope s_same) .none kV_same dc_same pm_same an_same cd_same ct_same), sl_same⟩) (c_same : PySem.W.codeIn K cd_same "_law_same" = true) (k_same : PySem.W.keepIn K (.ref a_same) = true)
    (n_lists : PySem.W.nsIn K mainGlobals "_law_lists" = some (some (.ref a_lists))) (l_lists : K.lookup a_lists = some ⟨oc_lists, od_lists, .func (PySem.W.fnOf "_law_lists" "_law_lists" (defArgs s_lists) (defBody s_lists) (defScope s_lists) .none kV_lists dc_lists pm_lists an_lists cd_lists ct_lists), sl_lists⟩) (c_lists : PySem.W.codeIn K cd_lists "_law_lists" = true) (k_lists : PySem.W.keepIn K (.ref a_lists) = true)
    (n_stay : PySem.W.nsIn K mainGlobals "_law_stay" = some (some (.ref a_stay))) (l_stay : K.lookup a_stay = some ⟨oc_stay, od_stay, .func (PySem.W.fnOf "_law_stay" "_law_stay" (defArgs s_stay) (defBody s_stay) (defScope s_stay) .none kV_stay dc_stay pm_stay an_stay cd_stay ct_stay), sl_stay⟩) (c_stay : PySem.W.codeIn K cd_stay "_law_stay" = true) (k_stay : PySem.W.keepIn K (.ref a_stay) = true)
    (n_in : PySem.W.nsIn K mainGlobals "_law_in" = some (some (.ref a_in))) (l_in : K.lookup a_in = some ⟨oc_in, od_in, .func (PySem.W.fnOf "_law_in" "_law_in" (defArgs s_in) (defBody s_in) (defScope s_in) .none kV_in dc_in pm_in an_in cd_in ct_in), sl_in⟩) (c_in : PySem.W.codeIn K cd_in "_law_in" = true) (k_in : PySem.W.keepIn K (.ref a_in) = true)
    (n_rows : PySem.W.nsIn K mainGlobals "_law_rows" = some (some (.ref a_rows))) (l_rows : K.lookup a_rows = some ⟨oc_rows, od_rows, .func (PySem.W.fnOf "_law_rows" "_law_rows" (defArgs s_rows) (defBody s_rows) (defScope s_rows) .none kV_rows dc_rows pm_rows an_rows cd_rows ct_rows), sl_rows⟩) (c_rows : PySem.W.codeIn K cd_rows "_law_rows" = true) (k_rows : PySem.W.keepIn K (.ref a_rows) = true)
    (n_gone : PySem.W.nsIn K mainGlobals "_law_gone" = some (some (.ref a_gone))) (l_gone : K.lookup a_gone = some ⟨oc_gone, od_gone, .func (PySem.W.fnOf "_law_gone" "_law_gone" (defArgs s_gone) (defBody s_gone) (defScope s_gone) .none kV_gone dc_gone pm_gone an_gone cd_gone ct_gone), sl_gone⟩) (c_gone : PySem.W.codeIn K cd_gone "_law_gone" = true) (k_gone : PySem.W.keepIn K (.ref a_gone) = true)
    (n_fresh : PySem.W.nsIn K mainGlobals "_law_fresh" = some (some (.ref a_fresh))) (l_fresh : K.lookup a_fresh = some ⟨oc_fresh, od_fresh, .func (PySem.W.fnOf "_law_fresh" "_law_fresh" (defArgs s_fresh) (defBody s_fresh) (defScope s_fresh) .none kV_fresh dc_fresh pm_fresh an_fresh cd_fresh ct_fresh), sl_fresh⟩) (c_fresh : PySem.W.codeIn K cd_fresh "_law_fresh" = true) (k_fresh : PySem.W.keepIn K (.ref a_fresh) = true)
    (n_deed : PySem.W.nsIn K mainGlobals "_law_deed" = some (some (.ref a_deed))) (l_deed : K.lookup a_deed = some ⟨oc_deed, od_deed, .func (PySem.W.fnOf "_law_deed" "_law_deed" (defArgs s_deed) (defBody s_deed) (defScope s_deed) .none kV_deed dc_deed pm_deed an_deed cd_deed ct_deed), sl_deed⟩) (c_deed : PySem.W.codeIn K cd_deed "_law_deed" = true) (k_deed : PySem.W.keepIn K (.ref a_deed) = true)
    (n_more : PySem.W.nsIn K mainGlobals "_law_more" = some (some (.ref a_more))) (l_more : K.lookup a_more = some ⟨oc_more, od_more, .func (PySem.W.fnOf "_law_more" "_law_more" (defArgs s_more) (defBody s_more) (defScope s_more) .none kV_more dc_more pm_more an_more cd_more ct_more), sl_more⟩) (c_more : PySem.W.codeIn K cd_more "_law_more" = true) (k_more : PySem.W.keepIn K (.ref a_more) = true)
    (n_by_hand_right : PySem.W.nsIn K mainGlobals "_law_by_hand_right" = some (some (.ref a_by_hand_right))) (l_by_hand_right : K.lookup a_by_hand_right = some ⟨oc_by_hand_right, od_by_hand_right, .func (PySem.W.fnOf "_law_by_hand_right" "_law_by_hand_right" (defArgs s_by_hand_right) (defBody s_by_hand_right) (defScope s_by_hand_right) .none kV_by_hand_right dc_by_hand_right pm_by_hand_right an_by_hand_right cd_by_hand_right ct_by_hand_right), sl_by_hand_right⟩) (c_by_hand_right : PySem.W.codeIn K cd_by_hand_right "_law_by_hand_right" = true) (k_by_hand_right : PySem.W.keepIn K (.ref a_by_hand_right) = true)
    (n_right : PySem.W.nsIn K mainGlobals "_law_right" = some (some (.ref a_right))) (l_right : K.lookup a_right = some ⟨oc_right, od_right, .func (PySem.W.fnOf "_law_right" "_law_right" (defArgs s_right) (defBody s_right) (defScope s_right) .none kV_right dc_right pm_right an_right cd_right ct_right), sl_right⟩) (c_right : PySem.W.codeIn K cd_right "_law_right" = true) (k_right : PySem.W.keepIn K (.ref a_right) = true)
    (n_law : PySem.W.nsIn K mainGlobals "law" = some (some (.ref a_law))) (l_law : K.lookup a_law = some ⟨oc_law, od_law, .func (PySem.W.fnOf "law" "law" (defArgs s_law) (defBody s_law) (defScope s_law) .none kV_law dc_law pm_law an_law cd_law ct_law), sl_law⟩) (c_law : PySem.W.codeIn K cd_law "law" = true) (k_law : PySem.W.keepIn K (.ref a_law) = true)
    (v_CROSS : PySem.W.nsIn K mainGlobals "CROSS" = some (some (.str "cross" t_CROSS)))
    (v_NEW : PySem.W.nsIn K mainGlobals "NEW" = some (some (.str "new" t_NEW)))
    (v_SPLIT : PySem.W.nsIn K mainGlobals "SPLIT" = some (some (.str "split" t_SPLIT)))
    (z_abs : PySem.W.nsIn K mainGlobals "abs" = some none)
    (z_all : PySem.W.nsIn K mainGlobals "all" = some none)
    (z_any : PySem.W.nsIn K mainGlobals "any" = some none)
    (z_bool : PySem.W.nsIn K mainGlobals "bool" = some none)
    (z_enumerate : PySem.W.nsIn K mainGlobals "enumerate" = some none)
    (z_int : PySem.W.nsIn K mainGlobals "int" = some none)
    (z_isinstance : PySem.W.nsIn K mainGlobals "isinstance" = some none)
    (z_len : PySem.W.nsIn K mainGlobals "len" = some none)
    (z_list : PySem.W.nsIn K mainGlobals "list" = some none)
    (z_max : PySem.W.nsIn K mainGlobals "max" = some none)
    (z_min : PySem.W.nsIn K mainGlobals "min" = some none)
    (z_range : PySem.W.nsIn K mainGlobals "range" = some none)
    (z_set : PySem.W.nsIn K mainGlobals "set" = some none)
    (z_sorted : PySem.W.nsIn K mainGlobals "sorted" = some none)
    (z_str : PySem.W.nsIn K mainGlobals "str" = some none)
    (z_tuple : PySem.W.nsIn K mainGlobals "tuple" = some none)
    (z_zip : PySem.W.nsIn K mainGlobals "zip" = some none) :
    ∃ fd : FuncData, (∀ (s : Shared) (v : Value), BindsTo s fd ⟨[v], []⟩ [("_law_script", v)]) ∧ ∀ base : Heap, K.In base → base.Ns mainGlobals mg → FnOk l.prog w K mg base (L2.CX l.prog w) 10 fa fd ["_law_script"] (spF ⟨K, w, fun _ => 0, l.prog⟩ [false] f_law) := by
  have e := hfa.symm.trans (PySem.W.mg_of X G n_law)
  have e2 : a_law = fa := by cases e; rfl
  subst e2
  let g : Top ⟨K, w, fun _ => 0, l.prog⟩ mg := ⟨a_set_of, _, fun_mk (st := s_set_of) l_set_of c_set_of k_set_of, PySem.W.mg_of X G n_set_of, a_tupled, _, fun_mk (st := s_tupled) l_tupled c_tupled k_tupled, PySem.W.mg_of X G n_tupled, a_holds, _, fun_mk (st := s_holds) l_holds c_holds k_holds, PySem.W.mg_of X G n_holds, a_is_met, _, fun_mk (st := s_is_met) l_is_met c_is_met k_is_met, PySem.W.mg_of X G n_is_met, a_goes, _, fun_mk (st := s_goes) l_goes c_goes k_goes, PySem.W.mg_of X G n_goes, a_comes, _, fun_mk (st := s_comes) l_comes c_comes k_comes, PySem.W.mg_of X G n_comes, a_more_met, _, fun_mk (st := s_more_met) l_more_met c_more_met k_more_met, PySem.W.mg_of X G n_more_met, a_ticks_for, _, fun_mk (st := s_ticks_for) l_ticks_for c_ticks_for k_ticks_for, PySem.W.mg_of X G n_ticks_for, a_box, _, fun_mk (st := s_box) l_box c_box k_box, PySem.W.mg_of X G n_box, a_take, _, fun_mk (st := s_take) l_take c_take k_take, PySem.W.mg_of X G n_take, a_cells, _, fun_mk (st := s_cells) l_cells c_cells k_cells, PySem.W.mg_of X G n_cells, a_same, _, fun_mk (st := s_same) l_same c_same k_same, PySem.W.mg_of X G n_same, a_lists, _, fun_mk (st := s_lists) l_lists c_lists k_lists, PySem.W.mg_of X G n_lists, a_stay, _, fun_mk (st := s_stay) l_stay c_stay k_stay, PySem.W.mg_of X G n_stay, a_in, _, fun_mk (st := s_in) l_in c_in k_in, PySem.W.mg_of X G n_in, a_rows, _, fun_mk (st := s_rows) l_rows c_rows k_rows, PySem.W.mg_of X G n_rows, a_gone, _, fun_mk (st := s_gone) l_gone c_gone k_gone, PySem.W.mg_of X G n_gone, a_fresh, _, fun_mk (st := s_fresh) l_fresh c_fresh k_fresh, PySem.W.mg_of X G n_fresh, a_deed, _, fun_mk (st := s_deed) l_deed c_deed k_deed, PySem.W.mg_of X G n_deed, a_more, _, fun_mk (st := s_more) l_more c_more k_more, PySem.W.mg_of X G n_more, a_by_hand_right, _, fun_mk (st := s_by_hand_right) l_by_hand_right c_by_hand_right k_by_hand_right, PySem.W.mg_of X G n_by_hand_right, a_right, _, fun_mk (st := s_right) l_right c_right k_right, PySem.W.mg_of X G n_right, a_law, _, fun_mk (st := s_law) l_law c_law k_law, PySem.W.mg_of X G n_law, PySem.W.mg_none_of X G z_abs, PySem.W.mg_none_of X G z_all, PySem.W.mg_none_of X G z_any, PySem.W.mg_none_of X G z_bool, PySem.W.mg_none_of X G z_enumerate, PySem.W.mg_none_of X G z_int, PySem.W.mg_none_of X G z_isinstance, PySem.W.mg_none_of X G z_len, PySem.W.mg_none_of X G z_list, PySem.W.mg_none_of X G z_max, PySem.W.mg_none_of X G z_min, PySem.W.mg_none_of X G z_range, PySem.W.mg_none_of X G z_set, PySem.W.mg_none_of X G z_sorted, PySem.W.mg_none_of X G z_str, PySem.W.mg_none_of X G z_tuple, PySem.W.mg_none_of X G z_zip, _, PySem.W.mg_of X G v_CROSS, _, PySem.W.mg_of X G v_NEW, _, PySem.W.mg_of X G v_SPLIT⟩
  exact ⟨_, fun s v => .of_eq rfl, fun base _ _ => ok_law g⟩
end Sm
set_option Elab.async false
set_option linter.all false
set_option maxRecDepth 100000
set_option maxHeartbeats 400000
namespace Sm
open PySem PySem.Spec PyProof.Rows L2
abbrev PI := Int × Int
inductive Deed where
  | new (p : PI) | longer (p q : PI) | split (p : PI) (m : Int) | cross (p q : PI)
def eD : Deed → D
  | .new p => .tup [.str "new", ePr p]
  | .longer p q => .tup [.str "longer", ePr p, ePr q]
  | .split p m => .tup [.str "split", ePr p, .int m]
  | .cross p q => .tup [.str "cross", ePr p, ePr q]
abbrev eLs (p : PI) : D := (D.lst [D.int (p.1), D.int (p.2)])
def eS : Deed → D
  | .new p => .lst [.str "new", eLs p]
  | .longer p q => .lst [.str "longer", eLs p, eLs q]
  | .split p m => .lst [.str "split", eLs p, .int m]
  | .cross p q => .lst [.str "cross", eLs p, eLs q]
theorem tup_ok (d : Deed) : f_tupled [eD d] = .ok (eD d) [none] := by cases d <;> kernel_rfl
theorem tupS_ok (d : Deed) : f_tupled [eS d] = .ok (eD d) [none] := by cases d <;> kernel_rfl
theorem lists_ok (d : Deed) : f_lists [eD d] = .ok (eS d) [none] := by cases d <;> kernel_rfl
theorem rows_ok : f_rows [.int 7] = .ok (.lst ((rowsA 7).map tInts)) [none] := by kernel_rfl
def fresh : Deed → List PI
  | .new p => [p]
  | .longer _ q => [q]
  | .split p m => [(p.1, m), (m + 1, p.2)]
  | .cross p q => [(p.1, q.2), (q.1, p.2)]
def gone : Deed → List PI
  | .new _ => []
  | .longer p _ => [p]
  | .split p _ => [p]
  | .cross p q => [p, q]
theorem fresh_ok (d : Deed) : f_fresh [eD d] = .ok (.lst ((fresh d).map ePr)) [none] := by cases d <;> kernel_rfl
theorem gone_ok (d : Deed) : f_gone [eD d] = .ok (.lst ((gone d).map ePr)) [none] := by cases d <;> kernel_rfl
def hits (p : PI) (r : List Int) : Bool := r.any fun t => decide (p.1 ≤ t) && decide (t ≤ p.2)
theorem in_ok {p : PI} {r : List Int} (hz : r.length ≤ 16000000) : f_in [ePr p, tInts r] = .ok (.bl (hits p r)) [none, none] := by
  have q : decide (∀ t : Int, t ∈ r → p.1 ≤ t → p.2 < t) = !r.any fun t => decide (p.1 ≤ t) && decide (t ≤ p.2) := by
    rw [Bool.eq_iff_iff, decide_eq_true_iff, Bool.not_eq_true', List.any_eq_false]
    constructor
    · intro h t ht z
      rw [Bool.and_eq_true_iff, decide_eq_true_iff, decide_eq_true_iff] at z
      have := h t ht z.1
      omega
    · intro h t ht z
      have := h t ht
      rw [Bool.and_eq_true_iff, decide_eq_true_iff, decide_eq_true_iff] at this
      omega
  simp -implicitDefEqProofs [f_in, mkF_fin, b_in, argS, outD, outE, ev_lcEnd, hz, allUn, hits, q]
theorem holds_t {a b t : Int} : f_holds [(D.tup [D.int (a), D.int (b)]), .int t] = .ok (.bl (decide (a ≤ t) && decide (t ≤ b))) [none, none] := by
  simp [f_holds, mkF_fin, b_holds, argS, outD, outE]
theorem is_met_ok {p : PI} {r : List Int} {q : D} (hq : q = tInts r ∨ q = .lst (r.map .int)) (hz : r.length ≤ 16000000) : f_is_met [ePr p, q] = .ok (.bl (hits p r)) [none, none] := by
  rcases hq with rfl | rfl <;> simp -implicitDefEqProofs [f_is_met, mkF_fin, b_is_met, argS, outD, outE, ev_lcEnd, hz, allUn, holds_t, any_of, hits]
def more (d : Deed) (r : List Int) : Int := ((fresh d).filter fun p => hits p r).length - ((gone d).filter fun p => hits p r).length
theorem short (d : Deed) : (fresh d).length ≤ 16000000 ∧ (gone d).length ≤ 16000000 := by cases d <;> simp [fresh, gone]
theorem more_ok {d : Deed} {r : List Int} (hz : r.length ≤ 16000000) : f_more [eD d, tInts r] = .ok (.int (more d r)) [none, none] := by
  simp -implicitDefEqProofs [f_more, mkF_fin, b_more, b_more_0, b_more_1, argS, outD, outE, fresh_ok, gone_ok, ev_lcEnd, (short d).1, (short d).2, allUn, in_ok hz, more]
/-- who goes, as the program tells it -/
def goesT : Deed → List PI
  | .cross p q => if q.1 < p.1 ∨ (q.1 = p.1 ∧ q.2 < p.2) then [q, p] else if p = q then [p] else [p, q]
  | d => gone d
def okD : Deed → Prop
  | .cross p q => 0 ≤ p.1 ∧ 0 ≤ p.2 ∧ 0 ≤ q.1 ∧ 0 ≤ q.2 ∧ p.1 < q.1
  | _ => True
theorem comes_ok {d : Deed} {q : D} (hq : q = eD d ∨ q = eS d) : f_comes [q] = .ok (.tup ((fresh d).map ePr)) [none] := by
  rcases hq with rfl | rfl <;> cases d <;> kernel_rfl
theorem goes_ok {d : Deed} {q : D} (hq : q = eD d ∨ q = eS d) (ok : okD d) : f_goes [q] = .ok (.tup ((gone d).map ePr)) [none] := by
  cases d with
  | cross p q' =>
    obtain ⟨a, b, c, e, f⟩ := ok
    obtain ⟨ks, k1, k2, k3, k4⟩ := set_prs (ps := [p, q']) (show 2 < 64 by decide)
    have hk : ks = [p, q'] := by
      have lt : ([p.1, p.2] : List Int) < [q'.1, q'.2] := List.Lex.rel f
      have e : sortTU ([p, q'].map toL) = [toL p, toL q'] := by
        show insT [p.1, p.2] (insT [q'.1, q'.2] []) = _
        show (if [p.1, p.2] < [q'.1, q'.2] then _ else _) = _
        rw [if_pos lt]
      rw [e] at k4
      have hl : ks.length = 2 := by
        have := congrArg List.length k4
        rw [List.length_map] at this
        exact this
      have two : ∀ {l : List PI}, l.length = 2 → ∃ x y, l = [x, y] := fun {l} h => by
        rcases l with _ | ⟨x, _ | ⟨y, _ | ⟨z, l⟩⟩⟩
        · simp at h
        · simp at h
        · exact ⟨x, y, rfl⟩
        · simp at h
      obtain ⟨x, y, rfl⟩ := two hl
      injection k4 with a1 a2
      injection a2 with a2 _
      injection a1 with b1 b2
      injection b2 with b2 _
      injection a2 with c1 c2
      injection c2 with c2 _
      rw [show x = p from Prod.ext b1 b2, show y = q' from Prod.ext c1 c2]
    subst hk
    have so := sorted_set_prs (ks := [p, q']) (show 2 < 64 by decide) (fun x hx => by
      rcases List.mem_cons.mp hx with rfl | hx
      · exact ⟨a, b⟩
      · rw [List.mem_singleton.mp hx]; exact ⟨c, e⟩)
    have k1' : dSet2 [.lst [ePr p, ePr q']] = some (.set [ePr p, ePr q']) := k1
    have so' : nSorted3 [.set [ePr p, ePr q']] = some [ePr p, ePr q'] := so
    have st : f_set_of [.lst [ePr p, ePr q']] = .ok (.tup [ePr p, ePr q']) [none] := by
      have dt : ∀ xs : List D, dTuple [.lst xs] = some (.tup xs) := fun _ => rfl
      simp -implicitDefEqProofs [f_set_of, mkF_fin, b_set_of, argS, outD, outE, k1', so', dt]
    have tu : f_tupled [q] = .ok (eD (.cross p q')) [none] := by rcases hq with rfl | rfl; exact tup_ok _; exact tupS_ok _
    have w1 : dEq (.str "cross") (.str "new") = some (.bl false) := by kernel_rfl
    have w2 : dEq (.str "cross") (.str "cross") = some (.bl true) := by kernel_rfl
    have g0 : b_goes_0 [.fz q, .un, .un] = .nx [.fz q, .fz (.str "cross"), .fz (.lst [ePr p, ePr q'])] := by
      simp -implicitDefEqProofs only [b_goes_0, ev_asg, ev_call, ev_aV, ev_var, List.getElem?_cons_zero, Res.bind_ok, ev_aNil, ev_nil, List.length_cons, List.length_nil, and_self, if_true, List.map_nil, List.append_nil, pick1, call_v1, tu, callB_ok, Res.st_ok]
      rfl
    rw [f_goes, mkF_fin]
    simp -implicitDefEqProofs [argS, b_goes, g0, b_goes_1, b_goes_2, w1, w2, st, outD, outE]
    rfl
  | _ => rcases hq with rfl | rfl <;> kernel_rfl
theorem more_met_ok {d : Deed} {r : List Int} {q t : D} (hq : q = eD d ∨ q = eS d) (ht : t = tInts r ∨ t = .lst (r.map .int)) (ok : okD d) (hz : r.length ≤ 16000000) : f_more_met [q, t] = .ok (.int (more d r)) [none, none] := by
  simp -implicitDefEqProofs [f_more_met, mkF_fin, b_more_met, b_more_met_0, b_more_met_1, argS, outD, outE, comes_ok hq, goes_ok hq ok, ev_lcEnd, (short d).1, (short d).2, allUn, is_met_ok ht hz, more]
def ticks : Deed → List Int
  | .new p => [p.1]
  | .split p m => [p.1, m + 1]
  | .cross p q => [p.1, q.2 + 1]
  | .longer p q => if q.1 < p.1 then [q.1] else [p.2 + 1]
theorem ticks_ok {d : Deed} {q : D} (hq : q = eD d ∨ q = eS d) : f_ticks_for [q] = .ok (tInts (ticks d)) [none] := by
  cases d with
  | longer p q' =>
    have tu : f_tupled [q] = .ok (eD (.longer p q')) [none] := by rcases hq with rfl | rfl; exact tup_ok _; exact tupS_ok _
    have g0 : b_ticks_for_0 [.fz q, .un, .un, .un] = .nx [.fz q, .fz (.str "longer"), .fz (ePr p), .fz (.lst [ePr q'])] := by
      simp -implicitDefEqProofs only [b_ticks_for_0, ev_asg, ev_call, ev_aV, ev_var, List.getElem?_cons_zero, Res.bind_ok, ev_aNil, ev_nil, List.length_cons, List.length_nil, and_self, if_true, List.map_nil, List.append_nil, pick1, call_v1, tu, callB_ok, Res.st_ok]
      rfl
    have w1 : dEq (.str "longer") (.str "new") = some (.bl false) := by kernel_rfl
    have w2 : dEq (.str "longer") (.str "split") = some (.bl false) := by kernel_rfl
    have w3 : dEq (.str "longer") (.str "cross") = some (.bl false) := by kernel_rfl
    rw [f_ticks_for, mkF_fin]
    simp -implicitDefEqProofs [argS, b_ticks_for, g0, b_ticks_for_1, b_ticks_for_2, b_ticks_for_3, b_ticks_for_4, w1, w2, w3, outD, outE, small, ticks]
    split <;> rfl
  | _ => rcases hq with rfl | rfl <;> kernel_rfl
end Sm
set_option Elab.async false
set_option linter.all false
set_option maxRecDepth 100000
set_option maxHeartbeats 400000
namespace Sm
open PySem PySem.Spec PyProof.Rows L2
def fact (d : Deed) : Bool := let ts := ticks d
  ((rowsA 7).all fun r => let m := more d r
    (decide (m = 0) || (decide (m = 1) && (decide (ts.length < r.length) || (decide (ts.length = r.length) && decide (ts ≤ r)))))) && decide (ts ∈ rowsA 7) && decide (more d ts = 1)
theorem facts : ((List.range 6).all fun b => (List.range (b + 1)).all fun a => fact (.new ((a : Nat), (b : Nat))) && ((List.range (a + 1)).all fun c => (List.range 6).all fun e => !(decide (b ≤ e) && !(decide (c = a) && decide (e = b))) || fact (.longer ((a : Nat), (b : Nat)) ((c : Nat), (e : Nat)))) && ((List.range b).all fun m => !(decide (a ≤ m)) || fact (.split ((a : Nat), (b : Nat)) (m : Nat))) && ((List.range b).all fun e => (List.range (e + 1)).all fun c => !(decide (a < c)) || fact (.cross ((a : Nat), (b : Nat)) ((c : Nat), (e : Nat))))) = true := by
  decide +kernel
theorem facts2 {a b : Nat} (h : a ≤ b) (h6 : b < 6) : fact (.new ((a : Nat), (b : Nat))) = true ∧ (∀ c e : Nat, c ≤ a → e < 6 → b ≤ e → ¬(c = a ∧ e = b) → fact (.longer ((a : Nat), (b : Nat)) ((c : Nat), (e : Nat))) = true) ∧ (∀ m : Nat, m < b → a ≤ m → fact (.split ((a : Nat), (b : Nat)) (m : Nat)) = true) ∧ (∀ c e : Nat, e < b → c ≤ e → a < c → fact (.cross ((a : Nat), (b : Nat)) ((c : Nat), (e : Nat))) = true) := by
  have q := List.all_eq_true.mp (List.all_eq_true.mp facts b (List.mem_range.mpr h6)) a (List.mem_range.mpr (by omega))
  obtain ⟨q, q4⟩ := Bool.and_eq_true_iff.mp q
  obtain ⟨q, q3⟩ := Bool.and_eq_true_iff.mp q
  obtain ⟨q1, q2⟩ := Bool.and_eq_true_iff.mp q
  refine ⟨q1, fun c e h1 h2 h3 h4 => ?_, fun m h1 h2 => ?_, fun c e h1 h2 h3 => ?_⟩
  · have z := List.all_eq_true.mp (List.all_eq_true.mp q2 c (List.mem_range.mpr (by omega))) e (List.mem_range.mpr h2)
    have n : (!(decide (b ≤ e) && !(decide (c = a) && decide (e = b)))) = false := by
      rw [Bool.not_eq_false', Bool.and_eq_true_iff, ← Bool.decide_and]
      exact ⟨decide_eq_true h3, by rw [decide_eq_false h4]; rfl⟩
    rw [n, Bool.false_or] at z
    exact z
  · have z := List.all_eq_true.mp q3 m (List.mem_range.mpr h1)
    rw [decide_eq_true h2] at z
    exact z
  · have z := List.all_eq_true.mp (List.all_eq_true.mp q4 e (List.mem_range.mpr h1)) c (List.mem_range.mpr (by omega))
    rw [decide_eq_true h3] at z
    exact z
theorem eq_prs {x y a b : Int} : dEq (.tup [.int x, .int y]) (.tup [.int a, .int b]) = some (.bl (decide (x = a) && decide (y = b))) := by
  have e : eqD (.tup [.int x, .int y]) (.tup [.int a, .int b]) = some ((PyData.int x).eqv (.int a) && ((PyData.int y).eqv (.int b) && true)) := rfl
  have q : ∀ u v : Int, (PyData.int u).eqv (.int v) = decide (u = v) := fun u v => by
    show (u == v) = _
    rw [Bool.eq_iff_iff]; simp
  unfold dEq
  rw [e, q, q, Bool.and_true]
  rfl

/-- the MOVEs that deed can draw -/
def Good : Deed → Prop
  | .new p => 0 ≤ p.1 ∧ p.1 ≤ p.2 ∧ p.2 < 6
  | .longer p q => 0 ≤ q.1 ∧ q.1 ≤ p.1 ∧ p.1 ≤ p.2 ∧ p.2 ≤ q.2 ∧ q.2 < 6 ∧ ¬(q.1 = p.1 ∧ q.2 = p.2)
  | .split p m => 0 ≤ p.1 ∧ p.1 ≤ m ∧ m < p.2 ∧ p.2 < 6
  | .cross p q => 0 ≤ p.1 ∧ p.1 < q.1 ∧ q.1 ≤ q.2 ∧ q.2 < p.2 ∧ p.2 < 6
theorem fact_ok {d : Deed} (h : Good d) : fact d = true := by
  cases d with
  | new p =>
    obtain ⟨a, b⟩ := p
    obtain ⟨h1, h2, h3⟩ := h
    obtain ⟨a, rfl⟩ := Int.eq_ofNat_of_zero_le h1
    obtain ⟨b, rfl⟩ := Int.eq_ofNat_of_zero_le (show 0 ≤ b by omega)
    exact (facts2 (a := a) (b := b) (by simpa using h2) (by simp at h3; omega)).1
  | longer p q =>
    obtain ⟨a, b⟩ := p
    obtain ⟨c, e⟩ := q
    simp only [Good] at h
    obtain ⟨h1, h2, h3, h4, h5, h6⟩ := h
    obtain ⟨a, rfl⟩ := Int.eq_ofNat_of_zero_le (show 0 ≤ a by omega)
    obtain ⟨b, rfl⟩ := Int.eq_ofNat_of_zero_le (show 0 ≤ b by omega)
    obtain ⟨c, rfl⟩ := Int.eq_ofNat_of_zero_le (show 0 ≤ c by omega)
    obtain ⟨e, rfl⟩ := Int.eq_ofNat_of_zero_le (show 0 ≤ e by omega)
    exact (facts2 (a := a) (b := b) (by omega) (by omega)).2.1 c e (by omega) (by omega) (by omega) (fun z => h6 (by omega))
  | split p m =>
    obtain ⟨a, b⟩ := p
    simp only [Good] at h
    obtain ⟨h1, h2, h3, h4⟩ := h
    obtain ⟨a, rfl⟩ := Int.eq_ofNat_of_zero_le (show 0 ≤ a by omega)
    obtain ⟨b, rfl⟩ := Int.eq_ofNat_of_zero_le (show 0 ≤ b by omega)
    obtain ⟨m, rfl⟩ := Int.eq_ofNat_of_zero_le (show 0 ≤ m by omega)
    exact (facts2 (a := a) (b := b) (by omega) (by omega)).2.2.1 m (by omega) (by omega)
  | cross p q =>
    obtain ⟨a, b⟩ := p
    obtain ⟨c, e⟩ := q
    simp only [Good] at h
    obtain ⟨h1, h2, h3, h4, h5⟩ := h
    obtain ⟨a, rfl⟩ := Int.eq_ofNat_of_zero_le (show 0 ≤ a by omega)
    obtain ⟨b, rfl⟩ := Int.eq_ofNat_of_zero_le (show 0 ≤ b by omega)
    obtain ⟨c, rfl⟩ := Int.eq_ofNat_of_zero_le (show 0 ≤ c by omega)
    obtain ⟨e, rfl⟩ := Int.eq_ofNat_of_zero_le (show 0 ≤ e by omega)
    exact (facts2 (a := a) (b := b) (by omega) (by omega)).2.2.2 c e (by omega) (by omega) (by omega)
theorem good_ok {d : Deed} (h : Good d) : okD d := by
  cases d with
  | cross p q => simp only [Good] at h; simp only [okD]; omega
  | _ => trivial
end Sm
set_option Elab.async false
set_option linter.all false
set_option maxRecDepth 100000
set_option maxHeartbeats 400000
namespace Sm
open PySem PySem.Spec PyProof.Rows L2
theorem deed_ok {k : Int} {d : D} (h : Box k d) (hk : 5 ≤ k) : ∃ (v : Deed) (d' : D), f_deed [d, .int 6] = .ok (eD v) [some d', none] ∧ Good v ∧ Box (k - 5) d' := by
  obtain ⟨r, d1, e1, r0, r4, h1⟩ := take_ok (n := 4) h (by omega) (by decide) (by decide)
  obtain ⟨a, b, d2, e2, a0, ab, b6, h2⟩ := stay_ok (n := 6) h1 (by omega) (by decide) (by decide)
  have s0 : b_deed_0 [.io 0 d, .fz (.int 6), .un, .un, .un, .un, .un, .un, .un, .un] = .nx [.io 0 d2, .fz (.int 6), .fz (.int r), .fz (.tup [.int a, .int b]), .un, .un, .un, .un, .un, .un] := by
    simp -implicitDefEqProofs [b_deed_0, e1, e2]
  have s1 : b_deed_1 [.io 0 d2, .fz (.int 6), .fz (.int r), .fz (.tup [.int a, .int b]), .un, .un, .un, .un, .un, .un] = .nx [.io 0 d2, .fz (.int 6), .fz (.int r), .fz (.tup [.int a, .int b]), .fz (.int a), .fz (.int b), .un, .un, .un, .un] := by
    simp -implicitDefEqProofs [b_deed_1]
  have run : ∀ (v : Deed) (d' : D) (τ : List Sl), mSeq b_deed_2 (mSeq b_deed_3 (mSeq b_deed_4 b_deed_5)) [.io 0 d2, .fz (.int 6), .fz (.int r), .fz (.tup [.int a, .int b]), .fz (.int a), .fz (.int b), .un, .un, .un, .un] = .rt (eD v) (.io 0 d' :: .fz (.int 6) :: τ) → f_deed [d, .int 6] = .ok (eD v) [some d', none] := fun v d' τ e => by
    rw [f_deed, mkF_fin]
    show fin [true, false] (mSeq b_deed_0 (mSeq b_deed_1 (mSeq b_deed_2 (mSeq b_deed_3 (mSeq b_deed_4 b_deed_5)))) [.io 0 d, .fz (.int 6), .un, .un, .un, .un, .un, .un, .un, .un]) = _
    rw [ev_seq, s0, SR.then_nx, ev_seq, s1, SR.then_nx, e]
    rfl
  have no2 : ¬ (r = 1 ∧ (0 < a ∨ b < 5)) → b_deed_2 [.io 0 d2, .fz (.int 6), .fz (.int r), .fz (.tup [.int a, .int b]), .fz (.int a), .fz (.int b), .un, .un, .un, .un] = .nx [.io 0 d2, .fz (.int 6), .fz (.int r), .fz (.tup [.int a, .int b]), .fz (.int a), .fz (.int b), .un, .un, .un, .un] := fun hn => by
    by_cases hr : r = 1
    · have n1 : ¬ 0 < a := fun z => hn ⟨hr, .inl z⟩
      have n2 : ¬ b < 5 := fun z => hn ⟨hr, .inr z⟩
      simp -implicitDefEqProofs [b_deed_2, hr, n1, n2]
    · simp -implicitDefEqProofs [b_deed_2, hr]
  have no3 : ¬ (r = 2 ∧ a < b) → b_deed_3 [.io 0 d2, .fz (.int 6), .fz (.int r), .fz (.tup [.int a, .int b]), .fz (.int a), .fz (.int b), .un, .un, .un, .un] = .nx [.io 0 d2, .fz (.int 6), .fz (.int r), .fz (.tup [.int a, .int b]), .fz (.int a), .fz (.int b), .un, .un, .un, .un] := fun hn => by
    by_cases hr : r = 2
    · have n1 : ¬ a < b := fun z => hn ⟨hr, z⟩
      simp -implicitDefEqProofs [b_deed_3, hr, n1]
    · simp -implicitDefEqProofs [b_deed_3, hr]
  have no4 : ¬ (r = 3 ∧ 1 < b - a) → b_deed_4 [.io 0 d2, .fz (.int 6), .fz (.int r), .fz (.tup [.int a, .int b]), .fz (.int a), .fz (.int b), .un, .un, .un, .un] = .nx [.io 0 d2, .fz (.int 6), .fz (.int r), .fz (.tup [.int a, .int b]), .fz (.int a), .fz (.int b), .un, .un, .un, .un] := fun hn => by
    by_cases hr : r = 3
    · have n1 : ¬ 1 < b - a := fun z => hn ⟨hr, z⟩
      simp -implicitDefEqProofs [b_deed_4, hr, n1]
    · simp -implicitDefEqProofs [b_deed_4, hr]
  by_cases c2 : r = 1 ∧ (0 < a ∨ b < 5)
  · obtain ⟨rfl, c2⟩ := c2
    obtain ⟨x, d3, e3, x0, x1, h3⟩ := take_ok (n := a + 1) h2 (by omega) (by omega) (by omega)
    obtain ⟨y, d4, e4, y0, y1, h4⟩ := take_ok (n := 6 - b) h3 (by omega) (by omega) (by omega)
    have gd : ((decide (0 < a)) || decide (b < 5)) = true := by
      rw [Bool.or_eq_true, decide_eq_true_iff, decide_eq_true_iff]; exact c2
    have key : ∀ (x' y' : Int), ((x = a ∧ y = 0) → b < 5 → x' = x ∧ y' = b + 1) → ((x = a ∧ y = 0) → ¬ b < 5 → x' = x - 1 ∧ y' = b) → (¬ (x = a ∧ y = 0) → x' = x ∧ y' = b + y) → b_deed_2 [.io 0 d2, .fz (.int 6), .fz (.int 1), .fz (.tup [.int a, .int b]), .fz (.int a), .fz (.int b), .un, .un, .un, .un] = .rt (eD (.longer (a, b) (x', y'))) [.io 0 d4, .fz (.int 6), .fz (.int 1), .fz (.tup [.int a, .int b]), .fz (.int a), .fz (.int b), .fz (.int x'), .fz (.int y'), .un, .un] := fun x' y' g1 g2 g3 => by
      by_cases hx : x = a
      · by_cases hy : y = 0
        · by_cases hb : b < 5
          · obtain ⟨rfl, rfl⟩ := g1 ⟨hx, hy⟩ hb
            subst hx; subst hy
            simp -implicitDefEqProofs [b_deed_2, gd, e3, e4, eq_prs, hb, eD, ePr, small, dInt]
            rw [if_neg (by omega)]; omega
          · obtain ⟨rfl, rfl⟩ := g2 ⟨hx, hy⟩ hb
            subst hx; subst hy
            simp -implicitDefEqProofs [b_deed_2, gd, e3, e4, eq_prs, hb, eD, ePr, small, dInt]
            omega
        · obtain ⟨rfl, rfl⟩ := g3 fun z => hy z.2
          subst hx
          simp -implicitDefEqProofs [b_deed_2, gd, e3, e4, eq_prs, hy, eD, ePr, small, dInt]
          rw [if_neg (fun z => hy (by omega)), if_neg (fun z => hy (by omega))]; exact ⟨by omega, by omega⟩
      · obtain ⟨rfl, rfl⟩ := g3 fun z => hx z.1
        simp -implicitDefEqProofs [b_deed_2, gd, e3, e4, eq_prs, hx, eD, ePr, small, dInt]
    have fin2 : ∀ x' y' : Int, ((x = a ∧ y = 0) → b < 5 → x' = x ∧ y' = b + 1) → ((x = a ∧ y = 0) → ¬ b < 5 → x' = x - 1 ∧ y' = b) → (¬ (x = a ∧ y = 0) → x' = x ∧ y' = b + y) → Good (.longer (a, b) (x', y')) → ∃ (v : Deed) (d' : D), f_deed [d, .int 6] = .ok (eD v) [some d', none] ∧ Good v ∧ Box (k - 5) d' := fun x' y' g1 g2 g3 gg => by
      refine ⟨.longer (a, b) (x', y'), d4, run _ _ [.fz (.int 1), .fz (.tup [.int a, .int b]), .fz (.int a), .fz (.int b), .fz (.int x'), .fz (.int y'), .un, .un] ?_, gg, h4.le (by omega)⟩
      rw [ev_seq, key x' y' g1 g2 g3]
      rfl
    by_cases hxy : x = a ∧ y = 0
    · by_cases hb : b < 5
      · exact fin2 x (b + 1) (fun _ _ => ⟨rfl, rfl⟩) (fun _ z => absurd hb z) (fun z => absurd hxy z) (by simp only [Good]; omega)
      · exact fin2 (x - 1) b (fun _ z => absurd z hb) (fun _ _ => ⟨rfl, rfl⟩) (fun z => absurd hxy z) (by simp only [Good]; omega)
    · exact fin2 x (b + y) (fun z => absurd z hxy) (fun z => absurd z hxy) (fun _ => ⟨rfl, rfl⟩) (by simp only [Good]; omega)
  · by_cases c3 : r = 2 ∧ a < b
    · obtain ⟨rfl, c3⟩ := c3
      obtain ⟨x, d3, e3, x0, x1, h3⟩ := take_ok (n := b - a) h2 (by omega) (by omega) (by omega)
      refine ⟨.split (a, b) (a + x), d3, run _ _ [.fz (.int 2), .fz (.tup [.int a, .int b]), .fz (.int a), .fz (.int b), .un, .un, .un, .un] ?_, ?_, h3.le (by omega)⟩
      · rw [ev_seq, no2 c2, SR.then_nx, ev_seq]
        have s3 : b_deed_3 [.io 0 d2, .fz (.int 6), .fz (.int 2), .fz (.tup [.int a, .int b]), .fz (.int a), .fz (.int b), .un, .un, .un, .un] = .rt (eD (.split (a, b) (a + x))) [.io 0 d3, .fz (.int 6), .fz (.int 2), .fz (.tup [.int a, .int b]), .fz (.int a), .fz (.int b), .un, .un, .un, .un] := by
          simp -implicitDefEqProofs [b_deed_3, c3, e3, eD, ePr, small]
        rw [s3]; rfl
      · simp only [Good]; omega
    · by_cases c4 : r = 3 ∧ 1 < b - a
      · obtain ⟨rfl, c4⟩ := c4
        obtain ⟨x, d3, e3, x0, x1, h3⟩ := take_ok (n := b - a - 1) h2 (by omega) (by omega) (by omega)
        obtain ⟨y, d4, e4, y0, y1, h4⟩ := take_ok (n := b - a - 1) h3 (by omega) (by omega) (by omega)
        obtain ⟨m, mm, em, m1⟩ := min_ints (xs := [a + 1 + x, a + 1 + y]) (by simp)
        obtain ⟨w, wm, ew, w1⟩ := max_ints (xs := [a + 1 + x, a + 1 + y]) (by simp)
        have em : dMin1 [.lst [.int (a + 1 + x), .int (a + 1 + y)]] = some (.int m) := em
        have ew : dMax1 [.lst [.int (a + 1 + x), .int (a + 1 + y)]] = some (.int w) := ew
        refine ⟨.cross (a, b) (m, w), d4, run _ _ [.fz (.int 3), .fz (.tup [.int a, .int b]), .fz (.int a), .fz (.int b), .un, .un, .fz (.lst [.int (a + 1 + x), .int (a + 1 + y)]), .un] ?_, ?_, h4.le (by omega)⟩
        · rw [ev_seq, no2 c2, SR.then_nx, ev_seq, no3 c3, SR.then_nx, ev_seq]
          have lc : mLc (mOns rng1 (mCons (mC (.int 2)) mNil)) (gN 9) mYes (mOp dAdd (mOp dAdd (mVar 4) (mC (.int 1))) (mCall [true, false] f_take 2 0 [0, 1] [] (aIo 0 (aV (mOp dSub (mOp dSub (mVar 5) (mVar 4)) (mC (.int 1))) aNil)) mNil)) [9] [.io 0 d2, .fz (.int 6), .fz (.int 3), .fz (.tup [.int a, .int b]), .fz (.int a), .fz (.int b), .un, .un, .un, .un] = .ok (.lst [.int (a + 1 + x), .int (a + 1 + y)]) [.io 0 d4, .fz (.int 6), .fz (.int 3), .fz (.tup [.int a, .int b]), .fz (.int a), .fz (.int b), .un, .un, .un, .un] := by
            have hr : rng1 [.int 2] = some [.int 0, .int 1] := rfl
            rw [ev_lc]
            simp -implicitDefEqProofs [hr, lcEnd, mLcGo, allUn, e3, e4]
          have s4 : b_deed_4 [.io 0 d2, .fz (.int 6), .fz (.int 3), .fz (.tup [.int a, .int b]), .fz (.int a), .fz (.int b), .un, .un, .un, .un] = .rt (eD (.cross (a, b) (m, w))) [.io 0 d4, .fz (.int 6), .fz (.int 3), .fz (.tup [.int a, .int b]), .fz (.int a), .fz (.int b), .un, .un, .fz (.lst [.int (a + 1 + x), .int (a + 1 + y)]), .un] := by
            simp -implicitDefEqProofs [b_deed_4, c4, lc, em, ew, eD, ePr, small]
          rw [s4]; rfl
        · have i1 := m1 _ (List.mem_cons_self)
          have i2 := w1 _ (List.mem_cons_self)
          simp only [List.mem_cons, List.not_mem_nil, or_false] at mm wm
          simp only [Good]; omega
      · refine ⟨.new (a, b), d2, run _ _ [.fz (.int r), .fz (.tup [.int a, .int b]), .fz (.int a), .fz (.int b), .un, .un, .un, .un] ?_, ⟨a0, ab, b6⟩, h2.le (by omega)⟩
        rw [ev_seq, no2 c2, SR.then_nx, ev_seq, no3 c3, SR.then_nx, ev_seq, no4 c4, SR.then_nx]
        rfl
end Sm
set_option linter.all false
set_option maxRecDepth 100000
namespace Sm
open PySem PySem.Spec PyProof.Rows L2
theorem hand_yes : (f_by_hand_right []).yes = true := by decide +kernel
end Sm
set_option Elab.async false
set_option linter.all false
set_option maxRecDepth 100000
set_option maxHeartbeats 400000
namespace Sm
open PySem PySem.Spec PyProof.Rows L2
theorem eq_soft (v : Deed) : dEq (eS v) (eS v) = some (.bl true) := by
  cases v with
  | new p => exact eq_self (d := .lst [.str "new", eLs p]) rfl (by kernel_rfl) (by kernel_rfl)
  | longer p q => exact eq_self (d := .lst [.str "longer", eLs p, eLs q]) rfl (by kernel_rfl) (by kernel_rfl)
  | split p m => exact eq_self (d := .lst [.str "split", eLs p, .int m]) rfl (by kernel_rfl) (by kernel_rfl)
  | cross p q => exact eq_self (d := .lst [.str "cross", eLs p, eLs q]) rfl (by kernel_rfl) (by kernel_rfl)
def dueD (v : Deed) : List Int := (rowsA 7).map (more v)
def fineD (v : Deed) : List (List Int) := (rowsA 7).filter fun r => decide (more v r = 1)
theorem rlen : ∀ r ∈ rowsA 7, r.length ≤ 16000000 := fun r hr => by
  have q : (rowsA 7).all (fun r => decide (r.length ≤ 16000000)) = true := by decide +kernel
  exact of_decide_eq_true (List.all_eq_true.mp q r hr)
theorem rl : (rowsA 7).length ≤ 16000000 := by decide +kernel
theorem right_ok (k : Nat) (d : D) (h : Box ((k + 5 : Nat) : Int) d) : ∃ d', f_right [d] = .ok (.bl true) [some d'] ∧ Box (k : Nat) d' := by
  obtain ⟨v, d1, e1, gd, h1⟩ := deed_ok h (by omega)
  have ok := good_ok gd
  have fa := fact_ok gd
  obtain ⟨fa, f3⟩ := Bool.and_eq_true_iff.mp fa
  obtain ⟨f1, f2⟩ := Bool.and_eq_true_iff.mp fa
  have f3 := of_decide_eq_true f3
  have f2 := of_decide_eq_true f2
  have M : ∀ r ∈ rowsA 7, more v r = 0 ∨ (more v r = 1 ∧ ((ticks v).length < r.length ∨ ((ticks v).length = r.length ∧ ticks v ≤ r))) := fun r hr => by
    have q := List.all_eq_true.mp f1 r hr
    simpa only [Bool.or_eq_true, Bool.and_eq_true, decide_eq_true_iff] using q
  have gf : ticks v ∈ fineD v := List.mem_filter.mpr ⟨f2, decide_eq_true f3⟩
  have fne : fineD v ≠ [] := fun z => by rw [z] at gf; cases gf
  have fl : (fineD v).length ≤ 16000000 := Nat.le_trans (List.length_filter_le _ _) rl
  have F : ∀ r ∈ fineD v, (ticks v).length < r.length ∨ ((ticks v).length = r.length ∧ ticks v ≤ r) := fun r hr => by
    obtain ⟨a, b⟩ := List.mem_filter.mp hr
    have b := of_decide_eq_true b
    rcases M r a with z | z
    · rw [z] at b; cases b
    · exact z.2
  obtain ⟨m, mm, e3, m3⟩ := min_ints (xs := (fineD v).map fun r => (r.length : Int)) (by simpa using fne)
  have hm : m = ((ticks v).length : Nat) := by
    obtain ⟨r, hr, rfl⟩ := List.mem_map.mp mm
    have a := F r hr
    have b := m3 _ (List.mem_map.mpr ⟨ticks v, gf, rfl⟩)
    omega
  subst hm
  rw [List.map_map] at e3
  have e3' : dMin1 [.lst ((fineD v).map fun r => D.int (r.length : Nat))] = some (.int ((ticks v).length : Nat)) := e3
  obtain ⟨G, gm2, e4, g4⟩ := min_rows (rs := (fineD v).filter fun r => decide ((r.length : Int) = ((ticks v).length : Nat))) (fun z => by
    have : ticks v ∈ (fineD v).filter fun r => decide ((r.length : Int) = ((ticks v).length : Nat)) := List.mem_filter.mpr ⟨gf, decide_eq_true rfl⟩
    rw [z] at this; cases this)
  have hG : G = ticks v := by
    obtain ⟨a, b⟩ := List.mem_filter.mp gm2
    have b := of_decide_eq_true b
    refine List.le_antisymm (g4 _ (List.mem_filter.mpr ⟨gf, decide_eq_true rfl⟩)) ?_
    rcases F G a with z | z
    · omega
    · exact z.2
  subst hG
  have st0 : b_right_0 [.io 0 d, .un, .un, .un, .un, .un, .un, .un, .un, .un] = .nx [.io 0 d1, .fz (eD v), .un, .un, .un, .un, .un, .un, .un, .un] := by
    simp -implicitDefEqProofs [b_right_0, e1]
  have st1 : b_right_1 [.io 0 d1, .fz (eD v), .un, .un, .un, .un, .un, .un, .un, .un] = .nx [.io 0 d1, .fz (eD v), .fz (eS v), .fz (.lst ((rowsA 7).map tInts)), .un, .un, .un, .un, .un, .un] := by
    simp -implicitDefEqProofs [b_right_1, lists_ok, rows_ok]
  have lc2 : mLc (mOn asS (mVar 3)) (gN 9) mYes (mCall [false, false] f_more 2 0 [0, 1] [] (aV (mVar 1) (aV (mVar 9) aNil)) mNil) [9] [.io 0 d1, .fz (eD v), .fz (eS v), .fz (.lst ((rowsA 7).map tInts)), .un, .un, .un, .un, .un, .un] = .ok (.lst ((rowsA 7).map fun r => D.int (more v r))) [.io 0 d1, .fz (eD v), .fz (eS v), .fz (.lst ((rowsA 7).map tInts)), .un, .un, .un, .un, .un, .un] :=
    lcA_map (f := tInts) (S := [.io 0 d1, .fz (eD v), .fz (eS v), .fz (.lst ((rowsA 7).map tInts)), .un, .un, .un, .un, .un, .un]) (fun r => D.int (more v r)) (xs := rowsA 7) rfl rl rfl fun r hr => ⟨[.io 0 d1, .fz (eD v), .fz (eS v), .fz (.lst ((rowsA 7).map tInts)), .un, .un, .un, .un, .un, .fz (tInts r)], [.io 0 d1, .fz (eD v), .fz (eS v), .fz (.lst ((rowsA 7).map tInts)), .un, .un, .un, .un, .un, .fz (tInts r)], [.io 0 d1, .fz (eD v), .fz (eS v), .fz (.lst ((rowsA 7).map tInts)), .un, .un, .un, .un, .un, .fz (tInts r)], by simp, rfl, by simp -implicitDefEqProofs [more_ok (rlen r hr)], rfl⟩
  have dueE : ((rowsA 7).map fun r => D.int (more v r)) = (dueD v).map .int := by rw [dueD, List.map_map]; rfl
  have st2 : b_right_2 [.io 0 d1, .fz (eD v), .fz (eS v), .fz (.lst ((rowsA 7).map tInts)), .un, .un, .un, .un, .un, .un] = .nx [.io 0 d1, .fz (eD v), .fz (eS v), .fz (.lst ((rowsA 7).map tInts)), .ow (.lst ((dueD v).map .int)), .un, .un, .un, .un, .un] := by
    unfold b_right_2
    rw [ev_setO, lc2, dueE]
    rfl
  have lc3 : mLc (mOn asS (mVar 3)) (gN 9) mYes (mCall [false, false] f_more_met 2 0 [0, 1] [] (aV (mVar 1) (aV (mVar 9) aNil)) mNil) [9] [.io 0 d1, .fz (eD v), .fz (eS v), .fz (.lst ((rowsA 7).map tInts)), .ow (.lst ((dueD v).map .int)), .un, .un, .un, .un, .un] = .ok (.lst ((rowsA 7).map fun r => D.int (more v r))) [.io 0 d1, .fz (eD v), .fz (eS v), .fz (.lst ((rowsA 7).map tInts)), .ow (.lst ((dueD v).map .int)), .un, .un, .un, .un, .un] :=
    lcA_map (f := tInts) (S := [.io 0 d1, .fz (eD v), .fz (eS v), .fz (.lst ((rowsA 7).map tInts)), .ow (.lst ((dueD v).map .int)), .un, .un, .un, .un, .un]) (fun r => D.int (more v r)) (xs := rowsA 7) rfl rl rfl fun r hr => ⟨[.io 0 d1, .fz (eD v), .fz (eS v), .fz (.lst ((rowsA 7).map tInts)), .ow (.lst ((dueD v).map .int)), .un, .un, .un, .un, .fz (tInts r)], [.io 0 d1, .fz (eD v), .fz (eS v), .fz (.lst ((rowsA 7).map tInts)), .ow (.lst ((dueD v).map .int)), .un, .un, .un, .un, .fz (tInts r)], [.io 0 d1, .fz (eD v), .fz (eS v), .fz (.lst ((rowsA 7).map tInts)), .ow (.lst ((dueD v).map .int)), .un, .un, .un, .un, .fz (tInts r)], by simp, rfl, by simp -implicitDefEqProofs [more_met_ok (.inl rfl) (.inl rfl) ok (rlen r hr)], rfl⟩
  obtain ⟨o1, so1⟩ := same_fine (n := 6) (d := .lst ((dueD v).map .int)) (by
    have q : ((dueD v).map D.int).all (fine 5) = true := List.all_eq_true.mpr fun x hx => by
      obtain ⟨z, _, rfl⟩ := List.mem_map.mp hx
      rfl
    show (((dueD v).map D.int).all (fine 5) && decide (((dueD v).map D.int).length ≤ 16000000)) = true
    rw [q, List.length_map, dueD, List.length_map, decide_eq_true rl]; rfl)
  have st3 : b_right_3 [.io 0 d1, .fz (eD v), .fz (eS v), .fz (.lst ((rowsA 7).map tInts)), .ow (.lst ((dueD v).map .int)), .un, .un, .un, .un, .un] = .nx [.io 0 d1, .fz (eD v), .fz (eS v), .fz (.lst ((rowsA 7).map tInts)), .fz (.lst ((dueD v).map .int)), .un, .un, .un, .un, .un] := by
    rw [dueE] at lc3
    simp -implicitDefEqProofs [b_right_3, -ev_lc, lc3, so1]
  have nin : ∀ r : Int, dNotIn2 (.int r) (.tup [.int 0, .int 1]) = some (.bl (!decide (r ∈ [(0 : Int), 1]))) := fun r => notIn2_ints (xs := [0, 1])
  have lc4 : mLc (mOn asS (mVar 4)) (gN 9) (mB (mOp dNotIn2 (mVar 9) (mTup (mCons (mC (.int 0)) (mCons (mC (.int 1)) mNil))))) (mVar 9) [9] [.io 0 d1, .fz (eD v), .fz (eS v), .fz (.lst ((rowsA 7).map tInts)), .fz (.lst ((dueD v).map .int)), .un, .un, .un, .un, .un] = .ok (.lst ((((dueD v)).filter fun r => !decide (r ∈ [(0 : Int), 1])).map D.int)) [.io 0 d1, .fz (eD v), .fz (eS v), .fz (.lst ((rowsA 7).map tInts)), .fz (.lst ((dueD v).map .int)), .un, .un, .un, .un, .un] :=
    lcA_ok (f := D.int) (S := [.io 0 d1, .fz (eD v), .fz (eS v), .fz (.lst ((rowsA 7).map tInts)), .fz (.lst ((dueD v).map .int)), .un, .un, .un, .un, .un]) (fun r => !decide (r ∈ [(0 : Int), 1])) D.int (xs := (dueD v)) rfl (by rw [dueD, List.length_map]; exact rl) rfl fun r hr => ⟨[.io 0 d1, .fz (eD v), .fz (eS v), .fz (.lst ((rowsA 7).map tInts)), .fz (.lst ((dueD v).map .int)), .un, .un, .un, .un, .fz (D.int r)], [.io 0 d1, .fz (eD v), .fz (eS v), .fz (.lst ((rowsA 7).map tInts)), .fz (.lst ((dueD v).map .int)), .un, .un, .un, .un, .fz (D.int r)], by simp, by simp -implicitDefEqProofs [nin r, small], fun _ => rfl, fun _ => ⟨[.io 0 d1, .fz (eD v), .fz (eS v), .fz (.lst ((rowsA 7).map tInts)), .fz (.lst ((dueD v).map .int)), .un, .un, .un, .un, .fz (D.int r)], by simp, rfl⟩⟩
  have no4 : ((dueD v).filter fun r => !decide (r ∈ [(0 : Int), 1])) = [] := List.filter_eq_nil_iff.mpr fun x hx => by
    obtain ⟨r, hr, rfl⟩ := List.mem_map.mp hx
    rcases M r hr with z | z
    · rw [z]; decide
    · rw [z.1]; decide
  have st4 : b_right_4 [.io 0 d1, .fz (eD v), .fz (eS v), .fz (.lst ((rowsA 7).map tInts)), .fz (.lst ((dueD v).map .int)), .un, .un, .un, .un, .un] = .nx [.io 0 d1, .fz (eD v), .fz (eS v), .fz (.lst ((rowsA 7).map tInts)), .fz (.lst ((dueD v).map .int)), .un, .un, .un, .un, .un] := by
    have nn : dNe (.lst []) (.lst []) = some (.bl false) := rfl
    rw [no4, List.map_nil] at lc4
    simp -implicitDefEqProofs [b_right_4, -ev_lc, lc4, nn]
  have lc5 : mLc (mOn asS (mVar 3)) (gN 9) (mB (mOp dEq (mCall [false, false] f_more 2 0 [0, 1] [] (aV (mVar 1) (aV (mVar 9) aNil)) mNil) (mC (.int 1)))) (mVar 9) [9] [.io 0 d1, .fz (eD v), .fz (eS v), .fz (.lst ((rowsA 7).map tInts)), .fz (.lst ((dueD v).map .int)), .un, .un, .un, .un, .un] = .ok (.lst (((rowsA 7).filter fun r => decide (more v r = 1)).map tInts)) [.io 0 d1, .fz (eD v), .fz (eS v), .fz (.lst ((rowsA 7).map tInts)), .fz (.lst ((dueD v).map .int)), .un, .un, .un, .un, .un] :=
    lcA_ok (f := tInts) (S := [.io 0 d1, .fz (eD v), .fz (eS v), .fz (.lst ((rowsA 7).map tInts)), .fz (.lst ((dueD v).map .int)), .un, .un, .un, .un, .un]) (fun r => decide (more v r = 1)) tInts (xs := rowsA 7) rfl rl rfl fun r hr => ⟨[.io 0 d1, .fz (eD v), .fz (eS v), .fz (.lst ((rowsA 7).map tInts)), .fz (.lst ((dueD v).map .int)), .un, .un, .un, .un, .fz (tInts r)], [.io 0 d1, .fz (eD v), .fz (eS v), .fz (.lst ((rowsA 7).map tInts)), .fz (.lst ((dueD v).map .int)), .un, .un, .un, .un, .fz (tInts r)], by simp, by simp -implicitDefEqProofs [more_ok (rlen r hr)], fun _ => rfl, fun _ => ⟨[.io 0 d1, .fz (eD v), .fz (eS v), .fz (.lst ((rowsA 7).map tInts)), .fz (.lst ((dueD v).map .int)), .un, .un, .un, .un, .fz (tInts r)], by simp, rfl⟩⟩
  have st5 : b_right_5 [.io 0 d1, .fz (eD v), .fz (eS v), .fz (.lst ((rowsA 7).map tInts)), .fz (.lst ((dueD v).map .int)), .un, .un, .un, .un, .un] = .nx [.io 0 d1, .fz (eD v), .fz (eS v), .fz (.lst ((rowsA 7).map tInts)), .fz (.lst ((dueD v).map .int)), .ow (.lst ((fineD v).map tInts)), .un, .un, .un, .un] := by
    unfold b_right_5
    rw [ev_setO, lc5]
    rfl
  have st6 : b_right_6 [.io 0 d1, .fz (eD v), .fz (eS v), .fz (.lst ((rowsA 7).map tInts)), .fz (.lst ((dueD v).map .int)), .ow (.lst ((fineD v).map tInts)), .un, .un, .un, .un] = .nx [.io 0 d1, .fz (eD v), .fz (eS v), .fz (.lst ((rowsA 7).map tInts)), .fz (.lst ((dueD v).map .int)), .fz (.lst ((fineD v).map tInts)), .fz (.int ((ticks v).length : Nat)), .un, .un, .un] := by
    simp -implicitDefEqProofs [b_right_6, ev_lcEnd, fl, allUn, e3']
  have st7 : b_right_7 [.io 0 d1, .fz (eD v), .fz (eS v), .fz (.lst ((rowsA 7).map tInts)), .fz (.lst ((dueD v).map .int)), .fz (.lst ((fineD v).map tInts)), .fz (.int ((ticks v).length : Nat)), .un, .un, .un] = .nx [.io 0 d1, .fz (eD v), .fz (eS v), .fz (.lst ((rowsA 7).map tInts)), .fz (.lst ((dueD v).map .int)), .fz (.lst ((fineD v).map tInts)), .fz (.int ((ticks v).length : Nat)), .fz (tInts (ticks v)), .un, .un] := by
    simp -implicitDefEqProofs [b_right_7, ev_lcEnd, fl, allUn]
    rw [e4]; rfl
  have tl : (ticks v).length ≤ 16000000 := rlen _ f2
  have nl : nList [tInts (ticks v)] = some ((ticks v).map .int) := rfl
  have st8 : b_right_8 [.io 0 d1, .fz (eD v), .fz (eS v), .fz (.lst ((rowsA 7).map tInts)), .fz (.lst ((dueD v).map .int)), .fz (.lst ((fineD v).map tInts)), .fz (.int ((ticks v).length : Nat)), .fz (tInts (ticks v)), .un, .un] = .nx [.io 0 d1, .fz (eD v), .fz (eS v), .fz (.lst ((rowsA 7).map tInts)), .fz (.lst ((dueD v).map .int)), .fz (.lst ((fineD v).map tInts)), .fz (.int ((ticks v).length : Nat)), .fz (tInts (ticks v)), .fz (.lst [tInts (ticks v), tInts (ticks v), .int 1]), .un] := by
    simp -implicitDefEqProofs [b_right_8, ticks_ok (.inl rfl), ticks_ok (.inr rfl), nl, more_met_ok (.inr rfl) (.inr rfl) ok tl, f3, small]
  obtain ⟨o2, so2⟩ := same_fine (n := 6) (d := .lst [tInts (ticks v), tInts (ticks v), .int 1]) (by simp [fine, tl])
  have es : dEq (eS v) (eS v) = some (.bl true) := eq_soft v
  have st9 : b_right_9 [.io 0 d1, .fz (eD v), .fz (eS v), .fz (.lst ((rowsA 7).map tInts)), .fz (.lst ((dueD v).map .int)), .fz (.lst ((fineD v).map tInts)), .fz (.int ((ticks v).length : Nat)), .fz (tInts (ticks v)), .fz (.lst [tInts (ticks v), tInts (ticks v), .int 1]), .un] = .rt (.bl true) [.io 0 d1, .fz (eD v), .fz (eS v), .fz (.lst ((rowsA 7).map tInts)), .fz (.lst ((dueD v).map .int)), .fz (.lst ((fineD v).map tInts)), .fz (.int ((ticks v).length : Nat)), .fz (tInts (ticks v)), .fz (.lst [tInts (ticks v), tInts (ticks v), .int 1]), .un] := by
    simp -implicitDefEqProofs [b_right_9, so2, lists_ok, es, small]
  refine ⟨d1, ?_, h1.le (by omega)⟩
  rw [f_right, mkF_fin]
  show fin [true] (b_right [.io 0 d, .un, .un, .un, .un, .un, .un, .un, .un, .un]) = _
  simp -implicitDefEqProofs only [b_right, st0, st1, st2, st3, st4, st5, st6, st7, st8, st9, SR.then_nx, ev_seq]
  rfl
theorem law_true (ns : List Int) (h : ns.length ≤ 63) : (f_law [.scr (ns.map .int)]).yes = true := by
  rw [law_is]
  exact lawA_true (w := 5) (by decide) (by decide) (by decide) (by decide) (by decide) hand_yes right_ok ns h
end Sm
set_option Elab.async false
set_option linter.all false
set_option maxRecDepth 100000
set_option maxHeartbeats 400000
namespace Sm
open PySem PySem.Spec PyProof.Rows L2
end Sm
open PySem PySem.W PyProof.Rows
set_option maxHeartbeats 0 in
theorem PySem.Challenge.cw_staysmet_k34_who_is_met_behind_a_move_holds : PySem.Challenge.rw_staysmet_k34_who_is_met_behind_a_move.Holds := by
  w_on; o_law; k_head; (case hw => w_witness2)
  k_fill
  refine L2.walk_of (l := PySem.Challenge.rw_staysmet_k34_who_is_met_behind_a_move) (n := 63) (k := 10) (x := "_law_script") (CX := fun w => L2.CX PySem.Challenge.rw_staysmet_k34_who_is_met_behind_a_move.prog w) (sp := fun w => Sm.spF ⟨_, w, fun _ => 0, PySem.Challenge.rw_staysmet_k34_who_is_met_behind_a_move.prog⟩ [false] Sm.f_law) rfl (by decide) rfl ⟨rfl, by decide, by decide⟩ (fun w h Y => PySem.W.kIn_of Y) ?F (fun w H a ns hl _ hS => Sm.law_sp (Sm.law_true ns hl) hS) (fun w H s e s' h => Sm.noCX w H s e s' h)
  case F =>
    intro w mg fa h KX G hmg
    refine' Sm.all_mk KX G hmg ?n_set_of ?l_set_of ?c_set_of ?k_set_of ?n_tupled ?l_tupled ?c_tupled ?k_tupled ?n_holds ?l_holds ?c_holds ?k_holds ?n_is_met ?l_is_met ?c_is_met ?k_is_met ?n_goes ?l_goes ?c_goes ?k_goes ?n_comes ?l_comes ?c_comes ?k_comes ?n_more_met ?l_more_met ?c_more_met ?k_more_met ?n_ticks_for ?l_ticks_for ?c_ticks_for ?k_ticks_for ?n_box ?l_box ?c_box ?k_box ?n_take ?l_take ?c_take ?k_take ?n_cells ?l_cells ?c_cells ?k_cells ?n_same ?l_same ?c_same ?k_same ?n_lists ?l_lists ?c_lists ?k_lists ?n_stay ?l_stay ?c_stay ?k_stay ?n_in ?l_in ?c_in ?k_in ?n_rows ?l_rows ?c_rows ?k_rows ?n_gone ?l_gone ?c_gone ?k_gone ?n_fresh ?l_fresh ?c_fresh ?k_fresh ?n_deed ?l_deed ?c_deed ?k_deed ?n_more ?l_more ?c_more ?k_more ?n_by_hand_right ?l_by_hand_right ?c_by_hand_right ?k_by_hand_right ?n_right ?l_right ?c_right ?k_right ?n_law ?l_law ?c_law ?k_law ?v_CROSS ?v_NEW ?v_SPLIT ?z_abs ?z_all ?z_any ?z_bool ?z_enumerate ?z_int ?z_isinstance ?z_len ?z_list ?z_max ?z_min ?z_range ?z_set ?z_sorted ?z_str ?z_tuple ?z_zip
    (case n_set_of => k_is); (case l_set_of => k_is); (case c_set_of => k_is); (case k_set_of => k_is); (case n_tupled => k_is); (case l_tupled => k_is); (case c_tupled => k_is); (case k_tupled => k_is); (case n_holds => k_is); (case l_holds => k_is); (case c_holds => k_is); (case k_holds => k_is); (case n_is_met => k_is); (case l_is_met => k_is); (case c_is_met => k_is); (case k_is_met => k_is); (case n_goes => k_is); (case l_goes => k_is); (case c_goes => k_is); (case k_goes => k_is); (case n_comes => k_is); (case l_comes => k_is); (case c_comes => k_is); (case k_comes => k_is); (case n_more_met => k_is); (case l_more_met => k_is); (case c_more_met => k_is); (case k_more_met => k_is); (case n_ticks_for => k_is); (case l_ticks_for => k_is); (case c_ticks_for => k_is); (case k_ticks_for => k_is); (case n_box => k_is); (case l_box => k_is); (case c_box => k_is); (case k_box => k_is); (case n_take => k_is); (case l_take => k_is); (case c_take => k_is); (case k_take => k_is); (case n_cells => k_is); (case l_cells => k_is); (case c_cells => k_is); (case k_cells => k_is); (case n_same => k_is); (case l_same => k_is); (case c_same => k_is); (case k_same => k_is); (case n_lists => k_is); (case l_lists => k_is); (case c_lists => k_is); (case k_lists => k_is); (case n_stay => k_is); (case l_stay => k_is); (case c_stay => k_is); (case k_stay => k_is); (case n_in => k_is); (case l_in => k_is); (case c_in => k_is); (case k_in => k_is); (case n_rows => k_is); (case l_rows => k_is); (case c_rows => k_is); (case k_rows => k_is); (case n_gone => k_is); (case l_gone => k_is); (case c_gone => k_is); (case k_gone => k_is); (case n_fresh => k_is); (case l_fresh => k_is); (case c_fresh => k_is); (case k_fresh => k_is); (case n_deed => k_is); (case l_deed => k_is); (case c_deed => k_is); (case k_deed => k_is); (case n_more => k_is); (case l_more => k_is); (case c_more => k_is); (case k_more => k_is); (case n_by_hand_right => k_is); (case l_by_hand_right => k_is); (case c_by_hand_right => k_is); (case k_by_hand_right => k_is); (case n_right => k_is); (case l_right => k_is); (case c_right => k_is); (case k_right => k_is); (case n_law => k_is); (case l_law => k_is); (case c_law => k_is); (case k_law => k_is); (case v_CROSS => k_is); (case v_NEW => k_is); (case v_SPLIT => k_is); (case z_abs => k_is); (case z_all => k_is); (case z_any => k_is); (case z_bool => k_is); (case z_enumerate => k_is); (case z_int => k_is); (case z_isinstance => k_is); (case z_len => k_is); (case z_list => k_is); (case z_max => k_is); (case z_min => k_is); (case z_range => k_is); (case z_set => k_is); (case z_sorted => k_is); (case z_str => k_is); (case z_tuple => k_is); (case z_zip => k_is)
