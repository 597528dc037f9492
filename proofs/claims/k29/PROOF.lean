import PyProof.Rows.All
import Wide.All
import OpenK.AllK
import Wide.FinOn
import HandS.ForMost
import HandS.ForExc
import HandS.Wide
import HandS.Strs
import HandS.SetFor
import HandS.TupSets
import HandS.Slots
import HandS.ExcInit
import KE.KeyNested
import HandS.Lambda
import HandS.Flow
import HandS.TupAny
import HandS.Deep
import HandS.IsInst
import HandS.SortInts
import HandS.Zip
import KE.SortData
import KE.DataMinMax
import KE.DataCmp
import HandS.Zip0
import PyProof.EnumMake
import PyProof.Draws
import HandS.Conv
import KE.KUnpackStar
import PyProof.DictRoadsH
import HandS.TupLen
import PyProof.DictMoreH
import KE.KDictSum
import KE.KDictItemsList
import KE.KDictCopyH
import HandS.DictTup
import HandS.DictComp
import HandS.SlotsOwn
import HandS.Defaults
import HandS.SortKw
import HandS.Star
import OpenK.KMeth
import HandS.Style
import HandS.ExcIs
import HandS.ExcField
import HandS.FStr
import PyProof.StrBlock2
import KE.KDictZip
import KE.KItemsList
import HandS.List
import HandS.Text
import HandS.TupLe
import KE.KDictPairs
import HandS.Iter
import HandS.EndBits
import HandS.Codes
import PySem.Challenge.RW_staysmet_k29_stays_timetables_and_moves
import PyProof.ReprLen
import PyProof.FitsInt
set_option Elab.async false
set_option linter.all false
set_option maxRecDepth 100000
set_option maxHeartbeats 1000000
namespace Sm
open PySem PySem.Spec PyProof.Rows L2
def lstOb (its : List Value) (n : Nat) : Obj := { cls := .type "list", data := .seq its.toArray n }
def MkO (b : Addr) (its : List Value) (m p : Nat) : HO := .ext fun h => ∃ n, (n = m ∨ n = m + 1 + p) ∧ h.get? b = some (lstOb its n)
def MkBy (x : Option HO) (p : Addr) : Prop := ∃ b its m, x = some (MkO b its m p)
def MkH (o : HO) : Prop := ∃ p, MkBy (some o) p
def oneH (b : Addr) (o : Obj) : Heap := { objs := (Array.replicate b { cls := .none, data := .freed }).push o }
theorem oneH_at {b : Addr} {its : List Value} {n : Nat} : (oneH b (lstOb its n)).get? b = some (lstOb its n) := by
  unfold Heap.get? oneH
  rw [Array.getElem?_push, if_pos (by rw [Array.size_replicate])]
  rfl
theorem oneH_no {b c : Addr} {o : Obj} (h : c ≠ b) : (oneH b o).get? c = none := by
  unfold Heap.get? oneH
  dsimp only
  rw [Array.getElem?_push, if_neg (by rw [Array.size_replicate]; exact h), Array.getElem?_replicate]
  by_cases hc : c < b
  · rw [if_pos hc]
  · rw [if_neg hc]
theorem lstOb_inj {its its' : List Value} {n n' : Nat} (h : lstOb its n = lstOb its' n') : n = n' := by
  unfold lstOb at h
  injection h with _ _ h _
  injection h
theorem mkO_at {b b' : Addr} {its its' : List Value} {m m' p p' n : Nat} (e : MkO b its m p = MkO b' its' m' p') (h : n = m ∨ n = m + 1 + p) : n = m' ∨ n = m' + 1 + p' := by
  injection e with e
  have z : ∃ n', (n' = m' ∨ n' = m' + 1 + p') ∧ (oneH b (lstOb its n)).get? b' = some (lstOb its' n') := by
    rw [← congrFun e (oneH b (lstOb its n))]
    exact ⟨n, h, oneH_at⟩
  obtain ⟨n', h1, h2⟩ := z
  by_cases hb : b' = b
  · subst hb
    rw [oneH_at] at h2
    rw [lstOb_inj (Option.some.inj h2)]
    exact h1
  · rw [oneH_no hb] at h2; cases h2
theorem four {m m' p q : Nat} (a1 : m = m' ∨ m = m' + 1 + q) (a2 : m + 1 + p = m' ∨ m + 1 + p = m' + 1 + q) (a3 : m' = m ∨ m' = m + 1 + p) (a4 : m' + 1 + q = m ∨ m' + 1 + q = m + 1 + p) : p = q := by omega
theorem MkBy.uniq {x : Option HO} {p q : Addr} (h1 : MkBy x p) (h2 : MkBy x q) : p = q := by
  obtain ⟨b, its, m, rfl⟩ := h1
  obtain ⟨b', its', m', e⟩ := h2
  have e := Option.some.inj e
  have a1 := mkO_at e (n := m) (.inl rfl)
  have a2 := mkO_at e (n := m + 1 + p) (.inr rfl)
  have a3 := mkO_at e.symm (n := m') (.inl rfl)
  have a4 := mkO_at e.symm (n := m' + 1 + q) (.inr rfl)
  exact four a1 a2 a3 a4
theorem MkBy.mk {o : HO} {p : Addr} (h : MkBy (some o) p) : MkH o := ⟨p, h⟩
theorem nk_ext {φ : Heap → Prop} (q : ∀ h : Heap, φ h → ∃ a o, h.get? a = some o ∧ ∀ its n, o ≠ lstOb its n) : ¬ MkH (.ext φ) := by
  rintro ⟨p, b, its, m, e⟩
  injection Option.some.inj e with e
  have z : φ (oneH b (lstOb its m)) := by
    rw [e]
    exact ⟨m, .inl rfl, oneH_at⟩
  obtain ⟨a, o, h1, h2⟩ := q _ z
  by_cases hb : a = b
  · subst hb
    rw [oneH_at] at h1
    exact h2 _ _ (Option.some.inj h1).symm
  · rw [oneH_no hb] at h1; cases h1
class NoMk (o : HO) : Prop where
  no : ¬ MkH o
instance {xs : List V} : NoMk (.lst xs) := ⟨fun ⟨_, _, _, _, e⟩ => nomatch (show HO.lst xs = HO.ext _ from Option.some.inj e)⟩
instance {xs : List V} : NoMk (.tup xs) := ⟨fun ⟨_, _, _, _, e⟩ => nomatch (show HO.tup xs = HO.ext _ from Option.some.inj e)⟩
instance {xs : List (Key × V)} : NoMk (.dK xs) := ⟨fun ⟨_, _, _, _, e⟩ => nomatch (show HO.dK xs = HO.ext _ from Option.some.inj e)⟩
instance {xs : List (List Key × V)} : NoMk (.dT xs) := ⟨fun ⟨_, _, _, _, e⟩ => nomatch (show HO.dT xs = HO.ext _ from Option.some.inj e)⟩
instance {S : Int → Bool} {n : Nat} : NoMk (.set S n) := ⟨fun ⟨_, _, _, _, e⟩ => nomatch (show HO.set S n = HO.ext _ from Option.some.inj e)⟩
instance {C dx : Addr} {fs : List (Str × V)} : NoMk (.ins C dx fs) := ⟨fun ⟨_, _, _, _, e⟩ => nomatch (show HO.ins C dx fs = HO.ext _ from Option.some.inj e)⟩
instance {x : Addr} : NoMk (.own x) := ⟨fun ⟨_, _, _, _, e⟩ => nomatch (show HO.own x = HO.ext _ from Option.some.inj e)⟩
instance {fs : List (Str × V)} : NoMk (.xd fs) := ⟨fun ⟨_, _, _, _, e⟩ => nomatch (show HO.xd fs = HO.ext _ from Option.some.inj e)⟩
instance {f x : Addr} : NoMk (.met f x) := ⟨fun ⟨_, _, _, _, e⟩ => nomatch (show HO.met f x = HO.ext _ from Option.some.inj e)⟩
instance {lo hi : Int} : NoMk (.rng lo hi) := ⟨fun ⟨_, _, _, _, e⟩ => nomatch (show HO.rng lo hi = HO.ext _ from Option.some.inj e)⟩
instance {o : Obj} {u : HO} : NoMk (.frz o u) := ⟨fun ⟨_, _, _, _, e⟩ => nomatch (show HO.frz o u = HO.ext _ from Option.some.inj e)⟩
instance {ps : Array Value} : NoMk (.tbl ps) := ⟨fun ⟨_, _, _, _, e⟩ => nomatch (show HO.tbl ps = HO.ext _ from Option.some.inj e)⟩
theorem cls_no {o : Obj} {T : Value} (h : o.cls = T) (hT : T ≠ .type "list") : ∀ its n, o ≠ lstOb its n := fun its n e => hT (by rw [← h, e]; rfl)
instance {a C dx : Addr} {vs : List (Option V)} : NoMk (SlX.SlO a C dx vs) := ⟨nk_ext fun h ⟨sl, e, _⟩ => ⟨a, _, e, cls_no (T := .ref C) rfl (fun z => nomatch z)⟩⟩
instance {a C : Addr} {d : Option Addr} : NoMk (L2.exo a C d) := ⟨nk_ext fun h ⟨t, e⟩ => ⟨a, _, e, cls_no (T := .ref C) rfl (fun z => nomatch z)⟩⟩
instance {dx : Addr} {fs : List (Str × V)} : NoMk (L2.exd dx fs) := ⟨nk_ext fun h ⟨mA, ⟨o, es, ep, e, hd, _⟩, _⟩ => ⟨dx, o, e, fun its n z => by rw [z] at hd; cases hd⟩⟩
instance {w : World} {a : Addr} {S : Int → Bool} {n : Nat} : NoMk (L2.SetO w a S n) := ⟨nk_ext fun h z => by
  obtain ⟨o, ho, hc⟩ : ∃ o, h.get? a = some o ∧ o.cls = .type "set" := by
    obtain ⟨o, es, ep, t, e, c, _⟩ := z
    exact ⟨o, e, c.1⟩
  exact ⟨a, o, ho, cls_no hc (by decide)⟩⟩
instance {P : Program} {w : World} {a : Addr} {L : List (Addr × List Int)} : NoMk (SetTO P w a L) := ⟨nk_ext fun h z => by
  obtain ⟨es, ep, t, ob, _⟩ := z
  obtain ⟨o, e, c, _⟩ := ob
  exact ⟨a, o, e, cls_no c.1 (by decide)⟩⟩
instance {c : Addr} {q : Str} : NoMk (LamX.CodeO c q) := ⟨nk_ext fun h ⟨oc, vs, t, e, d, _⟩ => ⟨c, oc, e, fun its n z => by rw [z] at d; cases d⟩⟩
end Sm
set_option Elab.async false
set_option linter.all false
set_option maxRecDepth 100000
set_option maxHeartbeats 4000000
namespace Sm
open PySem PySem.Spec PyProof.Rows L2

inductive D where
  | non | bl (b : Bool) | int (i : Int) | str (x : Str)
  | tup (xs : List D) | lst (xs : List D)
  | dct (ks vs : List D) | set (xs : List D) | obj (c : Nat) (fs : List D)
  /-- a dict whose keys are numbers or texts -/
  | dki (ks : List Key) (vs : List D)
  /-- a tuple whose object is known to be bare -/
  | ptup (xs : List D)
  /-- the script: a list that is read alone -/
  | scr (xs : List D)
  /-- an exception of the class c: its attributes -/
  | exc (c : Nat) (ns : List Str) (fs : List D)
  /-- an object of the class c that is owned and changes: its fields (a list among them is its own, too) -/
  | obo (c : Nat) (ns : List Str) (fs : List D)
  /-- an object of the class c that stays as it is: its attributes -/
  | ins (c : Nat) (ns : List Str) (fs : List D)
instance : Inhabited D := ⟨.non⟩
mutual
def D.nk : D → Option NestedKey
  | .non => some .none
  | .bl b => some (.num (if b = true then 1 else 0))
  | .int i => some (.num i)
  | .str x => some (.text x)
  | .tup ds => (D.nks ds).map .tup
  | _ => none
def D.nks : List D → Option (List NestedKey)
  | [] => some []
  | d :: ds => (D.nk d).bind fun k => (D.nks ds).map (k :: ·)
end
abbrev Ent := NestedKey × Addr × V
abbrev EntR (e : Ent) (x : NestedKey × Addr × Value) : Prop := e.1 = x.1 ∧ e.2.1 = x.2.1 ∧ RelV e.2.2 x.2.2
def DctP (P : Program) (w : World) (a : Addr) (es : List Ent) (h : Heap) : Prop :=
  ∃ (o : Obj) (ds : Array DictEntry) (ep : Nat) (xs : List (NestedKey × Addr × Value)), h.get? a = some o ∧ o.ExactDict ∧ o.data = .dict ds ep ∧ ds.toList = xs.map (entryOfKey (nestedKind P w)) ∧ (xs.map (·.1)).Nodup ∧ Paired EntR es xs ∧ es.length ≤ sizeLine ∧ (a == sysModules) = false
def DctO (P : Program) (w : World) (a : Addr) (es : List Ent) (o : Obj) : HO := .ext fun h => DctP P w a es h ∧ h.get? a = some o
def DctAt (P : Program) (w : World) (H : Hp) (a : Addr) (es : List Ent) : Prop := ∃ o, H a = some (DctO P w a es o)
theorem DctAt.mono {P : Program} {w : World} {H H' : Hp} {a : Addr} {es : List Ent} (h : DctAt P w H a es) (k : ∀ o, H a = some (DctO P w a es o) → H' a = some (DctO P w a es o)) : DctAt P w H' a es := let ⟨o, e⟩ := h; ⟨o, k _ e⟩
theorem DctAt.upd {P : Program} {w : World} {H : Hp} {a : Addr} {es : List Ent} {o : Obj} : DctAt P w (upd H a (DctO P w a es o)) a es := ⟨o, upd_same⟩
def DkP (P : Program) (w : World) (a : Addr) (kvs : List (Key × V)) (o : Obj) (h : Heap) : Prop :=
  (kvs.length ≤ sizeLine ∧ (a == sysModules) = false ∧ ∃ vs, KV kvs vs ∧ h.DictOf (mixKind P w) a vs) ∧ h.get? a = some o
def DkO (P : Program) (w : World) (a : Addr) (kvs : List (Key × V)) (o : Obj) : HO := .ext (DkP P w a kvs o)
def DkAt (P : Program) (w : World) (H : Hp) (a : Addr) (kvs : List (Key × V)) : Prop := ∃ o, H a = some (DkO P w a kvs o)
theorem DkAt.mono {P : Program} {w : World} {H H' : Hp} {a : Addr} {kvs : List (Key × V)} (h : DkAt P w H a kvs) (k : ∀ o, H a = some (DkO P w a kvs o) → H' a = some (DkO P w a kvs o)) : DkAt P w H' a kvs := let ⟨o, e⟩ := h; ⟨o, k _ e⟩
def TpAt (H : Hp) (a : Addr) (vs : List V) : Prop := ∃ o : Obj, o.dict = none ∧ H a = some (.frz o (.tup vs))
theorem TpAt.same {H H' : Hp} {a : Addr} {vs : List V} (e : Same H H') (h : TpAt H a vs) : TpAt H' a vs := let ⟨o, z, q⟩ := h; ⟨o, z, e _ _ q⟩
instance {P : Program} {w : World} {a : Addr} {es : List Ent} {o : Obj} : NoMk (DctO P w a es o) := ⟨nk_ext fun h ⟨⟨o', _, _, _, e, c, _⟩, _⟩ => ⟨a, o', e, cls_no c.1 (by decide)⟩⟩
instance {P : Program} {w : World} {a : Addr} {kvs : List (Key × V)} {o : Obj} : NoMk (DkO P w a kvs o) := ⟨nk_ext fun h ⟨⟨_, _, _, _, o', _, _, e, c, _⟩, _⟩ => ⟨a, o', e, cls_no c.1 (by decide)⟩⟩
def fewDeep (es : List Ent) : Prop := ∀ e ∈ es, e.1.depth ≤ 8

def exl (a C dx : Addr) : HO := .ext fun h => ∃ (o : Obj) (vs : Array Value), h.get? a = some o ∧ o.cls = .ref C ∧ o.dict = some dx ∧ o.data = .fields vs
instance {a C dx : Addr} : NoMk (exl a C dx) := ⟨nk_ext fun h ⟨o, _, e, c, _⟩ => ⟨a, o, e, cls_no c (fun z => nomatch z)⟩⟩
def ExoL (H : Hp) (a C dx : Addr) (fs : List (Str × V)) : Prop := (H a = some (L2.exo a C (some dx)) ∨ H a = some (exl a C dx)) ∧ (H dx = some (L2.exd dx fs) ∨ H dx = some (.xd fs))
theorem ExoL.same {H H' : Hp} {a C dx : Addr} {fs : List (Str × V)} (e : Same H H') (h : ExoL H a C dx fs) : ExoL H' a C dx fs := ⟨h.1.imp (e _ _) (e _ _), h.2.imp (e _ _) (e _ _)⟩

structure Lay where
  K : PySem.W.Frag
  w : World
  cls : Nat → Addr
  pr : Program
  /-- the object that an __init__ fills -/
  self : Addr
def Lay.at (L : Lay) (a : Addr) : Lay := { L with self := a }

mutual
def Rp (L : Lay) (F : Hp) : D → V → Prop
  | .non, v => v = .non
  | .bl b, v => v = .bl b
  | .int i, v => v = .int i
  | .str x, v => v = .str x
  | .tup ds, v => ∃ a vs, v = .ref a ∧ SqT L.K F a vs ∧ Rps L F ds vs
  | .lst ds, v => ∃ a vs, v = .ref a ∧ F a = some (.lst vs) ∧ Rps L F ds vs
  | .scr ds, v => ∃ a vs, v = .ref a ∧ SqL L.K F a vs ∧ Rps L F ds vs
  | .dct ks us, v => ∃ (a : Addr) (es : List Ent), v = .ref a ∧ DctAt L.pr L.w F a es ∧ D.nks ks = some (es.map (·.1)) ∧ fewDeep es ∧ Rps L F ks (es.map fun e => V.ref e.2.1) ∧ Rps L F us (es.map fun e => e.2.2)
  | .dki ks us, v => ∃ (a : Addr) (kvs : List (Key × V)), v = .ref a ∧ DkAt L.pr L.w F a kvs ∧ ks = kvs.map (·.1) ∧ Rps L F us (kvs.map (·.2))
  | .ptup ds, v => ∃ a vs, v = .ref a ∧ TpAt F a vs ∧ Rps L F ds vs
  | .set ds, v => (∃ (a : Addr) (ns : List Int), v = .ref a ∧ ds = ns.map D.int ∧ ns.Pairwise (· < ·) ∧ F a = some (SetO L.w a (fun k => decide (k ∈ ns)) ns.length)) ∨
    ∃ (a : Addr) (ks : List (List Int)) (L' : List (Addr × List Int)), v = .ref a ∧ ds = ks.map (fun k => D.tup (k.map D.int)) ∧ ks.Pairwise (· < ·) ∧ F a = some (SetTO L.pr L.w a L') ∧ (∀ p ∈ L', SqT L.K F p.1 (p.2.map V.int)) ∧ ∀ k, k ∈ ks ↔ k ∈ L'.map (·.2)
  | .obj c fs, v => (∃ (a dx : Addr) (vs : List V), v = .ref a ∧ F a = some (SlX.SlO a (L.cls c) dx (vs.map some)) ∧ F dx = some (.xd []) ∧ Rps L F fs vs ∧ c < 1000000) ∨ (v = .ref (if c = 1000000 then L.self else L.cls c) ∧ 1000000 ≤ c ∧ fs = [])
  | .exc c ns fs, v => ∃ (a dx : Addr) (vs : List V), v = .ref a ∧ ExoL F a (L.cls c) dx (ns.zip vs) ∧ ns.length = vs.length ∧ Rps L F fs vs
  | .obo _ _ _, _ => False
  | .ins c ns fs, v => ∃ (a dx : Addr) (vs : List V), v = .ref a ∧ F a = some (.ins (L.cls c) dx (ns.zip vs)) ∧ ns.length = vs.length ∧ Rps L F fs vs
def Rps (L : Lay) (F : Hp) : List D → List V → Prop
  | [], vs => vs = []
  | d :: ds, vs => ∃ v r, vs = v :: r ∧ Rp L F d v ∧ Rps L F ds r
end

theorem SqT.same {K : PySem.W.Frag} {H H' : Hp} {a : Addr} {xs : List V} (e : Same H H') (h : SqT K H a xs) : SqT K H' a xs := by
  rcases h with (h | ⟨o, h⟩) | h
  · exact .inl (.inl (e _ _ h))
  · exact .inl (.inr ⟨o, e _ _ h⟩)
  · exact .inr h

mutual
theorem Rp.same {L : Lay} {F F' : Hp} (e : Same F F') : ∀ {d : D} {v : V}, Rp L F d v → Rp L F' d v
  | .non, _, h => h
  | .bl _, _, h => h
  | .int _, _, h => h
  | .str _, _, h => h
  | .tup ds, _, h => by
    unfold Rp at h ⊢
    obtain ⟨a, vs, e1, q, r⟩ := h
    exact ⟨a, vs, e1, SqT.same e q, Rps.same e r⟩
  | .lst ds, _, h => by
    unfold Rp at h ⊢
    obtain ⟨a, vs, e1, q, r⟩ := h
    exact ⟨a, vs, e1, e _ _ q, Rps.same e r⟩
  | .scr ds, _, h => by
    unfold Rp at h ⊢
    obtain ⟨a, vs, e1, q, r⟩ := h
    exact ⟨a, vs, e1, e.seq q, Rps.same e r⟩
  | .dct _ _, _, h => by
    unfold Rp at h ⊢
    obtain ⟨a, es, e1, q, e2, e3, r1, r2⟩ := h
    exact ⟨a, es, e1, q.mono fun o z => e _ _ z, e2, e3, Rps.same e r1, Rps.same e r2⟩
  | .dki _ _, _, h => by
    unfold Rp at h ⊢
    obtain ⟨a, kvs, e1, q, e2, r⟩ := h
    exact ⟨a, kvs, e1, q.mono fun o z => e _ _ z, e2, Rps.same e r⟩
  | .ptup _, _, h => by
    unfold Rp at h ⊢
    obtain ⟨a, vs, e1, q, r⟩ := h
    exact ⟨a, vs, e1, q.same e, Rps.same e r⟩
  | .set _, _, h => by
    unfold Rp at h ⊢
    rcases h with ⟨a, ns, e1, e2, e3, q⟩ | ⟨a, ks, L', e1, e2, e3, q, q2, q3⟩
    · exact .inl ⟨a, ns, e1, e2, e3, e _ _ q⟩
    · exact .inr ⟨a, ks, L', e1, e2, e3, e _ _ q, fun p hp => SqT.same e (q2 p hp), q3⟩
  | .obj _ _, _, h => by
    unfold Rp at h ⊢
    rcases h with ⟨a, dx, vs, e1, q, q2, r, hc⟩ | h
    · exact .inl ⟨a, dx, vs, e1, e _ _ q, e _ _ q2, Rps.same e r, hc⟩
    · exact .inr h
  | .exc _ _ _, _, h => by
    unfold Rp at h ⊢
    obtain ⟨a, dx, vs, e1, q, l, r⟩ := h
    exact ⟨a, dx, vs, e1, q.same e, l, Rps.same e r⟩
  | .obo _ _ _, _, h => by
    unfold Rp at h
    exact h.elim
  | .ins _ _ _, _, h => by
    unfold Rp at h ⊢
    obtain ⟨a, dx, vs, e1, q, l, r⟩ := h
    exact ⟨a, dx, vs, e1, e _ _ q, l, Rps.same e r⟩
theorem Rps.same {L : Lay} {F F' : Hp} (e : Same F F') : ∀ {ds : List D} {vs : List V}, Rps L F ds vs → Rps L F' ds vs
  | [], _, h => by unfold Rps at h ⊢; exact h
  | _ :: _, _, h => by
    unfold Rps at h ⊢
    obtain ⟨v, r, e1, q, rr⟩ := h
    exact ⟨v, r, e1, Rp.same e q, Rps.same e rr⟩
end

theorem Rps.nil {L : Lay} {F : Hp} : Rps L F [] [] := by unfold Rps; rfl
theorem Rps.cons {L : Lay} {F : Hp} {d : D} {v : V} {ds : List D} {vs : List V} (h : Rp L F d v) (t : Rps L F ds vs) : Rps L F (d :: ds) (v :: vs) := by
  unfold Rps; exact ⟨v, vs, rfl, h, t⟩
theorem Rps.length {L : Lay} {F : Hp} : ∀ {ds : List D} {vs : List V}, Rps L F ds vs → vs.length = ds.length
  | [], _, h => by unfold Rps at h; rw [h]; rfl
  | _ :: ds, _, h => by
    unfold Rps at h
    obtain ⟨v, r, rfl, _, t⟩ := h
    rw [List.length_cons, List.length_cons, Rps.length t]
theorem Rps.app {L : Lay} {F : Hp} : ∀ {ds es : List D} {vs us : List V}, Rps L F ds vs → Rps L F es us → Rps L F (ds ++ es) (vs ++ us)
  | [], _, _, _, h, t => by unfold Rps at h; subst h; exact t
  | _ :: ds, _, _, _, h, t => by
    unfold Rps at h
    obtain ⟨v, r, rfl, q, rr⟩ := h
    exact .cons q (Rps.app rr t)
theorem Rps.get {L : Lay} {F : Hp} : ∀ {ds : List D} {vs : List V} {i : Nat} {d : D}, Rps L F ds vs → ds[i]? = some d → ∃ v, vs[i]? = some v ∧ Rp L F d v
  | [], _, _, _, _, e => by simp at e
  | _ :: _, _, 0, _, h, e => by
    unfold Rps at h
    obtain ⟨v, r, rfl, q, rr⟩ := h
    simp at e; subst e
    exact ⟨v, rfl, q⟩
  | _ :: ds, _, i + 1, _, h, e => by
    unfold Rps at h
    obtain ⟨v, r, rfl, q, rr⟩ := h
    obtain ⟨u, h1, h2⟩ := Rps.get (i := i) rr (by simpa using e)
    exact ⟨u, by simpa using h1, h2⟩
theorem Rps.set {L : Lay} {F : Hp} {d : D} {v : V} (h : Rp L F d v) : ∀ {ds : List D} {vs : List V} (i : Nat), Rps L F ds vs → Rps L F (ds.set i d) (vs.set i v)
  | [], _, _, t => by unfold Rps at t; subst t; exact .nil
  | _ :: _, _, 0, t => by
    unfold Rps at t
    obtain ⟨v, r, rfl, q, rr⟩ := t
    exact .cons h rr
  | _ :: ds, _, i + 1, t => by
    unfold Rps at t
    obtain ⟨v, r, rfl, q, rr⟩ := t
    exact .cons q (Rps.set h i rr)
theorem Rps.take {L : Lay} {F : Hp} : ∀ {ds : List D} {vs : List V} (n : Nat), Rps L F ds vs → Rps L F (ds.take n) (vs.take n)
  | _, _, 0, _ => .nil
  | [], _, n + 1, t => by unfold Rps at t; subst t; exact .nil
  | _ :: _, _, n + 1, t => by
    unfold Rps at t
    obtain ⟨v, r, rfl, q, rr⟩ := t
    exact .cons q (Rps.take n rr)
theorem Rps.drop {L : Lay} {F : Hp} : ∀ {ds : List D} {vs : List V} (n : Nat), Rps L F ds vs → Rps L F (ds.drop n) (vs.drop n)
  | _, _, 0, t => t
  | [], _, n + 1, t => by unfold Rps at t; subst t; exact .nil
  | _ :: _, _, n + 1, t => by
    unfold Rps at t
    obtain ⟨v, r, rfl, q, rr⟩ := t
    exact Rps.drop n rr
theorem Rps.rev {L : Lay} {F : Hp} : ∀ {ds : List D} {vs : List V}, Rps L F ds vs → Rps L F ds.reverse vs.reverse
  | [], _, t => by unfold Rps at t; subst t; exact .nil
  | d :: ds, _, t => by
    unfold Rps at t
    obtain ⟨v, r, rfl, q, rr⟩ := t
    rw [List.reverse_cons, List.reverse_cons]
    exact (Rps.rev rr).app (.cons q .nil)
theorem Rps.rep {L : Lay} {F : Hp} {ds : List D} {vs : List V} (t : Rps L F ds vs) : ∀ n : Nat, Rps L F (List.replicate n ds).flatten (List.replicate n vs).flatten
  | 0 => .nil
  | n + 1 => by
    rw [List.replicate_succ, List.replicate_succ, List.flatten_cons, List.flatten_cons]
    exact t.app (Rps.rep t n)
theorem Rp.non_iff {L : Lay} {F : Hp} {v : V} : Rp L F .non v ↔ v = .non := by unfold Rp; rfl
theorem Rp.bl_iff {L : Lay} {F : Hp} {v : V} {b : Bool} : Rp L F (.bl b) v ↔ v = .bl b := by unfold Rp; rfl
theorem Rp.int_iff {L : Lay} {F : Hp} {v : V} {b : Int} : Rp L F (.int b) v ↔ v = .int b := by unfold Rp; rfl
theorem Rp.str_iff {L : Lay} {F : Hp} {v : V} {b : Str} : Rp L F (.str b) v ↔ v = .str b := by unfold Rp; rfl
theorem Rp.tup_iff {L : Lay} {F : Hp} {v : V} {ds : List D} : Rp L F (.tup ds) v ↔ ∃ a vs, v = .ref a ∧ SqT L.K F a vs ∧ Rps L F ds vs := by conv => lhs; unfold Rp
theorem Rp.lst_iff {L : Lay} {F : Hp} {v : V} {ds : List D} : Rp L F (.lst ds) v ↔ ∃ a vs, v = .ref a ∧ F a = some (.lst vs) ∧ Rps L F ds vs := by conv => lhs; unfold Rp
theorem Rp.scr_iff {L : Lay} {F : Hp} {v : V} {ds : List D} : Rp L F (.scr ds) v ↔ ∃ a vs, v = .ref a ∧ SqL L.K F a vs ∧ Rps L F ds vs := by conv => lhs; unfold Rp
theorem Rp.obj_iff {L : Lay} {F : Hp} {v : V} {c : Nat} {fs : List D} : Rp L F (.obj c fs) v ↔ (∃ (a dx : Addr) (vs : List V), v = .ref a ∧ F a = some (SlX.SlO a (L.cls c) dx (vs.map some)) ∧ F dx = some (.xd []) ∧ Rps L F fs vs ∧ c < 1000000) ∨ (v = .ref (if c = 1000000 then L.self else L.cls c) ∧ 1000000 ≤ c ∧ fs = []) := by conv => lhs; unfold Rp
theorem Rp.exc_iff {L : Lay} {F : Hp} {v : V} {c : Nat} {ns : List Str} {fs : List D} : Rp L F (.exc c ns fs) v ↔ ∃ (a dx : Addr) (vs : List V), v = .ref a ∧ ExoL F a (L.cls c) dx (ns.zip vs) ∧ ns.length = vs.length ∧ Rps L F fs vs := by conv => lhs; unfold Rp
def DRel (L : Lay) (F : Hp) (ks us : List D) (es : List Ent) : Prop := D.nks ks = some (es.map (·.1)) ∧ fewDeep es ∧ Rps L F ks (es.map fun e => V.ref e.2.1) ∧ Rps L F us (es.map fun e => e.2.2)
theorem DRel.same {L : Lay} {F F' : Hp} (e : Same F F') {ks us : List D} {es : List Ent} (h : DRel L F ks us es) : DRel L F' ks us es := ⟨h.1, h.2.1, Rps.same e h.2.2.1, Rps.same e h.2.2.2⟩
theorem Rp.dct_iff {L : Lay} {F : Hp} {v : V} {ks us : List D} : Rp L F (.dct ks us) v ↔ ∃ (a : Addr) (es : List Ent), v = .ref a ∧ DctAt L.pr L.w F a es ∧ DRel L F ks us es := by
  conv => lhs; unfold Rp
  exact Iff.rfl
theorem Rp.dki_iff {L : Lay} {F : Hp} {v : V} {ks : List Key} {us : List D} : Rp L F (.dki ks us) v ↔ ∃ (a : Addr) (kvs : List (Key × V)), v = .ref a ∧ DkAt L.pr L.w F a kvs ∧ ks = kvs.map (·.1) ∧ Rps L F us (kvs.map (·.2)) := by conv => lhs; unfold Rp
theorem Rp.ptup_iff {L : Lay} {F : Hp} {v : V} {ds : List D} : Rp L F (.ptup ds) v ↔ ∃ a vs, v = .ref a ∧ TpAt F a vs ∧ Rps L F ds vs := by conv => lhs; unfold Rp
theorem Rp.set_iff {L : Lay} {F : Hp} {v : V} {ds : List D} : Rp L F (.set ds) v ↔ (∃ (a : Addr) (ns : List Int), v = .ref a ∧ ds = ns.map D.int ∧ ns.Pairwise (· < ·) ∧ F a = some (SetO L.w a (fun k => decide (k ∈ ns)) ns.length)) ∨
    ∃ (a : Addr) (ks : List (List Int)) (L' : List (Addr × List Int)), v = .ref a ∧ ds = ks.map (fun k => D.tup (k.map D.int)) ∧ ks.Pairwise (· < ·) ∧ F a = some (SetTO L.pr L.w a L') ∧ (∀ p ∈ L', SqT L.K F p.1 (p.2.map V.int)) ∧ ∀ k, k ∈ ks ↔ k ∈ L'.map (·.2) := by conv => lhs; unfold Rp
theorem Rp.obo_no {L : Lay} {F : Hp} {v : V} {c : Nat} {ns : List Str} {fs : List D} (h : Rp L F (.obo c ns fs) v) : False := by unfold Rp at h; exact h
theorem Rp.ins_iff {L : Lay} {F : Hp} {v : V} {c : Nat} {ns : List Str} {fs : List D} : Rp L F (.ins c ns fs) v ↔ ∃ (a dx : Addr) (vs : List V), v = .ref a ∧ F a = some (.ins (L.cls c) dx (ns.zip vs)) ∧ ns.length = vs.length ∧ Rps L F fs vs := by conv => lhs; unfold Rp
theorem Rp.ofInts {L : Lay} {F : Hp} : ∀ ns : List Int, Rps L F (ns.map D.int) (ns.map V.int)
  | [] => .nil
  | n :: r => .cons (Rp.int_iff.mpr rfl) (Rp.ofInts r)

inductive Sl where
  | un | fz (d : D) | ow (d : D) | le (d : D) | io (k : Nat) (d : D) | oo (d : D)
instance : Inhabited Sl := ⟨.un⟩
def Sl.own : Sl → Bool
  | .ow _ => true
  | .le _ => true
  | .io _ _ => true
  | .oo _ => true
  | _ => false
def Sl.get : Sl → Option D
  | .fz d => some d
  | .ow d => some d
  | .le d => some d
  | .io _ d => some d
  | .oo d => some d
  | .un => none
def OwnAt (σ : L2.St) (τ : List Sl) (i : Nat) (a : Addr) : Prop := σ[i]? = some (some (.ref a)) ∧ ∃ t, τ[i]? = some t ∧ t.own = true
def Own (σ : L2.St) (τ : List Sl) (a : Addr) : Prop := ∃ i, OwnAt σ τ i a
structure Pa where
  args : List V
  B : Addr → Prop
def Hd (P : Pa) (σ : L2.St) (τ : List Sl) (a : Addr) : Prop := Own σ τ a ∨ P.B a
theorem MkBy.get {x : Option HO} {p : Addr} (h : MkBy x p) : ∃ o, x = some o ∧ MkH o := by
  obtain ⟨b, its, m, e⟩ := h
  exact ⟨_, e, p, b, its, m, rfl⟩
theorem same_mk {H H' : Hp} (e : Same H H') {b p : Addr} (h : MkBy (H b) p) : H' b = H b := by
  obtain ⟨o, h1, _⟩ := h.get
  rw [h1]; exact e b o h1
open Classical in
noncomputable def hid (H : Hp) (A : Addr → Prop) : Hp := fun a => if A a ∨ (∃ o, H a = some o ∧ MkH o) then none else H a
theorem hid_some {H : Hp} {A : Addr → Prop} {a : Addr} {o : HO} : hid H A a = some o ↔ H a = some o ∧ ¬ A a ∧ ¬ MkH o := by
  unfold hid
  by_cases h : A a ∨ (∃ o, H a = some o ∧ MkH o)
  · rw [if_pos h]
    exact ⟨fun z => (by cases z), fun z => by
      rcases h with h | ⟨u, h1, h2⟩
      · exact absurd h z.2.1
      · rw [z.1] at h1; cases h1; exact absurd h2 z.2.2⟩
  · rw [if_neg h]; exact ⟨fun z => ⟨z, fun y => h (.inl y), fun y => h (.inr ⟨o, z, y⟩)⟩, fun z => z.1⟩
def OwR (L : Lay) (F H : Hp) : D → Addr → Prop
  | .lst ds, a => ∃ vs, H a = some (.lst vs) ∧ Rps L F ds vs
  | .dct ks us, a => ∃ es, DctAt L.pr L.w H a es ∧ DRel L F ks us es
  | .dki ks us, a => ∃ kvs, DkAt L.pr L.w H a kvs ∧ ks = kvs.map (·.1) ∧ Rps L F us (kvs.map (·.2))
  | _, _ => False
def FlR (L : Lay) (F H : Hp) (p : Addr) (d : D) (v : V) : Prop :=
  match d with
  | .lst ds => ∃ (b : Addr) (ws : List V) (its : List Value) (n : Nat), v = .ref b ∧ H b = some (MkO b its n p) ∧ Vals ws its ∧ ws.length ≤ sizeLine ∧ Rps L F ds ws
  | d => Rp L F d v
def FlRs (L : Lay) (F H : Hp) (p : Addr) : List D → List V → Prop
  | [], vs => vs = []
  | d :: ds, vs => ∃ v r, vs = v :: r ∧ FlR L F H p d v ∧ FlRs L F H p ds r
def Apart (fs : List D) (vs : List V) : Prop := ∀ (i j : Nat) (b : Addr) (di dj : List D), fs[i]? = some (.lst di) → fs[j]? = some (.lst dj) → vs[i]? = some (.ref b) → vs[j]? = some (.ref b) → i = j
def ObI (L : Lay) (F H : Hp) (c : Nat) (ns : List Str) (fs : List D) (a : Addr) : Prop :=
  ∃ (dx : Addr) (vs : List V), H a = some (.ins (L.cls c) dx (ns.zip vs)) ∧ ns.length = vs.length ∧ FlRs L F H a fs vs ∧ Apart fs vs
def tbC : Nat := 1000000
def ObT (L : Lay) (F H : Hp) (c : Nat) (ns : List Str) (fs : List D) (a : Addr) : Prop :=
  c = tbC ∧ fs = [.obo 0 [] []] ∧ a = L.cls tbC ∧ ∃ (ps : Array Value) (q : Str), ns = [q] ∧ H a = some (.tbl ps) ∧ TriplesOk ps.toList ∧ ∀ (pos : Pos) (cv : Value), codeAmong pos ps.toList = some cv → ∃ e, cv = .ref e ∧ F e = some (LamX.CodeO e q)
def ObR (L : Lay) (F H : Hp) (c : Nat) (ns : List Str) (fs : List D) (a : Addr) : Prop := ObI L F H c ns fs a ∨ ObT L F H c ns fs a
theorem ObT.step {L : Lay} {F F' H H' : Hp} (e : Same F F') {c : Nat} {ns : List Str} {fs : List D} {a : Addr} (q : H' a = H a) (h : ObT L F H c ns fs a) : ObT L F' H' c ns fs a :=
  let ⟨h1, h2, h0, ps, n, h3, h4, h5, h6⟩ := h
  ⟨h1, h2, h0, ps, n, h3, by rw [q]; exact h4, h5, fun pos cv z => let ⟨e', z1, z2⟩ := h6 pos cv z; ⟨e', z1, e _ _ z2⟩⟩
def OwX (L : Lay) (F H : Hp) (d : D) (a : Addr) : Prop := OwR L F H d a ∨ ∃ c ns fs, d = .obo c ns fs ∧ ObR L F H c ns fs a
theorem FlR.step {L : Lay} {F F' H H' : Hp} {p : Addr} (e : Same F F') (k : ∀ b, MkBy (H b) p → H' b = H b) {d : D} {v : V} (h : FlR L F H p d v) : FlR L F' H' p d v := by
  cases d with
  | lst ds => obtain ⟨b, ws, its, n, e1, e2, e3, e4, e5⟩ := h; exact ⟨b, ws, its, n, e1, by rw [k b ⟨b, its, n, e2⟩]; exact e2, e3, e4, Rps.same e e5⟩
  | _ => exact Rp.same e h
theorem FlRs.step {L : Lay} {F F' H H' : Hp} {p : Addr} (e : Same F F') (k : ∀ b, MkBy (H b) p → H' b = H b) : ∀ {fs : List D} {vs : List V}, FlRs L F H p fs vs → FlRs L F' H' p fs vs
  | [], _, h => h
  | _ :: _, _, ⟨v, r, e1, e2, e3⟩ => ⟨v, r, e1, e2.step e k, e3.step e k⟩
theorem OwR.noMk {L : Lay} {F H : Hp} : ∀ {d : D} {a : Addr}, OwR L F H d a → ∀ o, H a = some o → ¬ MkH o
  | .lst _, _, ⟨_, h, _⟩, o, e => by rw [h] at e; cases e; exact NoMk.no
  | .dct _ _, _, ⟨_, ⟨_, h⟩, _⟩, o, e => by rw [h] at e; cases e; exact NoMk.no
  | .dki _ _, _, ⟨_, ⟨_, h⟩, _⟩, o, e => by rw [h] at e; cases e; exact NoMk.no
theorem OwX.noMk {L : Lay} {F H : Hp} {d : D} {a : Addr} (h : OwX L F H d a) : ∀ o, H a = some o → ¬ MkH o := by
  rcases h with h | ⟨c, ns, fs, rfl, ⟨dx, vs, h, _⟩ | ⟨_, _, _, ps, q, _, h, _⟩⟩
  · exact h.noMk
  · intro o e; rw [h] at e; cases e; exact NoMk.no
  · intro o e; rw [h] at e; cases e; exact NoMk.no
theorem OwR.x {L : Lay} {F H : Hp} {d : D} {a : Addr} (h : OwR L F H d a) : OwX L F H d a := .inl h
def SlR (L : Lay) (P : Pa) (F H : Hp) (s : Option (Option V)) : Sl → Prop
  | .un => True
  | .fz d => ∃ v, s = some (some v) ∧ Rp L F d v
  | .ow d => ∃ a, s = some (some (.ref a)) ∧ OwR L F H d a
  | .le d => ∃ a, s = some (some (.ref a)) ∧ OwR L F H d a
  | .io k d => ∃ a, s = some (some (.ref a)) ∧ P.args[k]? = some (.ref a) ∧ OwX L F H d a
  | .oo d => ∃ a, s = some (some (.ref a)) ∧ OwX L F H d a
structure StR (L : Lay) (P : Pa) (H : Hp) (σ : L2.St) (τ : List Sl) : Prop where
  len : σ.length = τ.length
  inj : ∀ (i j : Nat) (a : Addr), OwnAt σ τ i a → OwnAt σ τ j a → i = j
  dis : ∀ a, Own σ τ a → ¬ P.B a
  bth0 : ∀ a, P.B a → ∃ o, H a = some o ∧ ¬ MkH o
  sl : ∀ (i : Nat) (t : Sl), τ[i]? = some t → SlR L P (hid H (Hd P σ τ)) H σ[i]? t

theorem OwR.there {L : Lay} {F H : Hp} : ∀ {d : D} {a : Addr}, OwR L F H d a → ∃ o, H a = some o
  | .lst _, _, ⟨vs, h, _⟩ => ⟨_, h⟩
  | .dct _ _, _, ⟨es, ⟨_, h⟩, _⟩ => ⟨_, h⟩
  | .dki _ _, _, ⟨es, ⟨_, h⟩, _⟩ => ⟨_, h⟩
theorem OwR.step {L : Lay} {F F' H H' : Hp} (e : Same F F') : ∀ {d : D} {a : Addr}, (H' a = H a) → OwR L F H d a → OwR L F' H' d a
  | .lst _, _, q, ⟨vs, h, r⟩ => ⟨vs, by rw [q]; exact h, Rps.same e r⟩
  | .dct _ _, _, q, ⟨vs, h, r⟩ => ⟨vs, h.mono fun o e => by rw [q]; exact e, r.same e⟩
  | .dki _ _, _, q, ⟨vs, h, e2, r⟩ => ⟨vs, h.mono fun o e => by rw [q]; exact e, e2, Rps.same e r⟩
theorem OwX.there {L : Lay} {F H : Hp} {d : D} {a : Addr} (h : OwX L F H d a) : ∃ o, H a = some o := by
  rcases h with h | ⟨c, ns, fs, rfl, ⟨dx, vs, h, _⟩ | ⟨_, _, _, ps, q, _, h, _⟩⟩
  · exact h.there
  · exact ⟨_, h⟩
  · exact ⟨_, h⟩
theorem ObR.step {L : Lay} {F F' H H' : Hp} (e : Same F F') {c : Nat} {ns : List Str} {fs : List D} {a : Addr} (q : H' a = H a) (h : ObR L F H c ns fs a) (k : ∀ b, MkBy (H b) a → H' b = H b) : ObR L F' H' c ns fs a := by
  rcases h with ⟨dx, vs, h1, h3, h4, h5⟩ | h
  · exact .inl ⟨dx, vs, by rw [q]; exact h1, h3, h4.step e k, h5⟩
  · exact .inr (h.step e q)
theorem OwX.step {L : Lay} {F F' H H' : Hp} (e : Same F F') {d : D} {a : Addr} (h : OwX L F H d a) (q : H' a = H a) (k : ∀ b, MkBy (H b) a → H' b = H b := by first | exact fun _ _ => rfl | assumption) : OwX L F' H' d a := by
  rcases h with h | ⟨c, ns, fs, rfl, h⟩
  · exact .inl (h.step e q)
  · exact .inr ⟨c, ns, fs, rfl, h.step e q k⟩
theorem StR.own_there {L : Lay} {P : Pa} {H : Hp} {σ : L2.St} {τ : List Sl} (R : StR L P H σ τ) {a : Addr} (h : Own σ τ a) : ∃ o, H a = some o := by
  obtain ⟨i, e, t, et, ow⟩ := h
  have q := R.sl i t et
  cases t with
  | un => cases ow
  | fz d => cases ow
  | ow d => obtain ⟨b, e2, r⟩ := q; rw [e] at e2; cases e2; exact r.there
  | le d => obtain ⟨b, e2, r⟩ := q; rw [e] at e2; cases e2; exact r.there
  | io k d => obtain ⟨b, e2, _, r⟩ := q; rw [e] at e2; cases e2; exact r.there
  | oo d => obtain ⟨b, e2, r⟩ := q; rw [e] at e2; cases e2; exact r.there

theorem StR.own_noMk {L : Lay} {P : Pa} {H : Hp} {σ : L2.St} {τ : List Sl} (R : StR L P H σ τ) {a : Addr} (h : Own σ τ a) : ∀ o, H a = some o → ¬ MkH o := by
  obtain ⟨i, e, t, et, ow⟩ := h
  have q := R.sl i t et
  cases t with
  | un => cases ow
  | fz d => cases ow
  | ow d => obtain ⟨b, e2, r⟩ := q; rw [e] at e2; cases e2; exact r.noMk
  | le d => obtain ⟨b, e2, r⟩ := q; rw [e] at e2; cases e2; exact r.noMk
  | io k d => obtain ⟨b, e2, _, r⟩ := q; rw [e] at e2; cases e2; exact r.noMk
  | oo d => obtain ⟨b, e2, r⟩ := q; rw [e] at e2; cases e2; exact r.noMk

def Foot (H : Hp) (A : Addr → Prop) (a : Addr) : Prop := A a ∨ ∃ p, MkBy (H a) p ∧ (A p ∨ H p = none)
theorem foot_no {H : Hp} {A : Addr → Prop} {a : Addr} {o : HO} (h : H a = some o) (n : ¬ A a) (m : ¬ MkH o) : ¬ Foot H A a := fun z => by
  rcases z with z | ⟨p, e, _⟩
  · exact n z
  · rw [h] at e; exact m e.mk
theorem Foot.mono {H : Hp} {A A' : Addr → Prop} {a : Addr} (h : ∀ b, A b → A' b) (z : Foot H A a) : Foot H A' a := z.imp (h a) fun ⟨p, e, q⟩ => ⟨p, e, q.imp (h p) id⟩
structure Tr (H : Hp) (A : Addr → Prop) (H' : Hp) (A' : Addr → Prop) : Prop where
  keep0 : ∀ a o, H a = some o → ¬ Foot H A a → H' a = some o
  new : ∀ a, A' a → A a ∨ H a = none
  there : ∀ a o, H a = some o → ∃ o', H' a = some o'
theorem Tr.keep {H H' : Hp} {A A' : Addr → Prop} (x : Tr H A H' A') (a : Addr) (o : HO) (h : H a = some o) (n : ¬ A a) (m : ¬ MkH o := by first | assumption | exact NoMk.no) : H' a = some o := x.keep0 a o h (foot_no h n m)
theorem Tr.refl {H : Hp} {A : Addr → Prop} : Tr H A H A := ⟨fun _ _ h _ => h, fun _ h => .inl h, fun _ o h => ⟨o, h⟩⟩
theorem Tr.fresh {H H' : Hp} {A A' : Addr → Prop} (x : Tr H A H' A') {a : Addr} (h : H' a = none) : H a = none := by
  cases e : H a with
  | none => rfl
  | some o => obtain ⟨o', q⟩ := x.there a o e; rw [h] at q; cases q
theorem Tr.trans {H H1 H2 : Hp} {A A1 A2 : Addr → Prop} (x : Tr H A H1 A1) (y : Tr H1 A1 H2 A2) : Tr H A H2 A2 := by
  refine ⟨fun a o h n => ?_, fun a h => ?_, fun a o h => let ⟨o1, q⟩ := x.there a o h; y.there a o1 q⟩
  · have h1 := x.keep0 a o h n
    refine y.keep0 a o h1 fun z => ?_
    rcases z with z | ⟨p, e, z⟩
    · rcases x.new a z with q | q
      · exact n (.inl q)
      · rw [q] at h; cases h
    · rw [h1, ← h] at e
      refine n (.inr ⟨p, e, ?_⟩)
      rcases z with z | z
      · exact x.new p z
      · exact .inr (x.fresh z)
  · rcases y.new a h with q | q
    · exact x.new a q
    · exact .inr (x.fresh q)
theorem Tr.of {H H1 : Hp} {A : Addr → Prop} (x : Same H H1) : Tr H A H1 A := ⟨fun a o h _ => x a o h, fun _ h => .inl h, fun a o h => ⟨o, x a o h⟩⟩
theorem StR.bth {L : Lay} {P : Pa} {H : Hp} {σ : L2.St} {τ : List Sl} (R : StR L P H σ τ) (a : Addr) (h : P.B a) : ∃ o, H a = some o := let ⟨o, q, _⟩ := R.bth0 a h; ⟨o, q⟩
theorem StR.hd_there0 {L : Lay} {P : Pa} {H : Hp} {σ : L2.St} {τ : List Sl} (R : StR L P H σ τ) {a : Addr} (h : Hd P σ τ a) : ∃ o, H a = some o ∧ ¬ MkH o := h.elim (fun q => let ⟨o, e⟩ := R.own_there q; ⟨o, e, R.own_noMk q o e⟩) (R.bth0 a)
theorem StR.hd_there {L : Lay} {P : Pa} {H : Hp} {σ : L2.St} {τ : List Sl} (R : StR L P H σ τ) {a : Addr} (h : Hd P σ τ a) : ∃ o, H a = some o := h.elim (fun q => R.own_there q) (R.bth a)
theorem StR.fz {L : Lay} {P : Pa} {H H' : Hp} {σ σ' : L2.St} {τ τ' : List Sl} (R : StR L P H σ τ) (x : Tr H (Own σ τ) H' (Own σ' τ')) : Same (hid H (Hd P σ τ)) (hid H' (Hd P σ' τ')) := fun a o h => by
  obtain ⟨h1, h2, nk_h2⟩ := hid_some.mp h
  refine hid_some.mpr ⟨x.keep a o h1 fun z => h2 (.inl z), fun z => ?_, by first | assumption | exact NoMk.no⟩
  rcases z with z | z
  · rcases x.new a z with q | q
    · exact h2 (.inl q)
    · rw [q] at h1; cases h1
  · exact h2 (.inr z)
theorem hid_le {H : Hp} {A : Addr → Prop} : Same (hid H A) H := fun a o h => (hid_some.mp h).1
theorem hid_mono {H H' : Hp} {A A' : Addr → Prop} (e : Same H H') (h : ∀ a, A' a → A a) : Same (hid H A) (hid H' A') := fun a o q => by
  obtain ⟨h1, h2, nk_h2⟩ := hid_some.mp q
  exact hid_some.mpr ⟨e a o h1, fun z => h2 (h a z), by first | assumption | exact NoMk.no⟩
theorem StR.same {L : Lay} {P : Pa} {H H' : Hp} {σ : L2.St} {τ : List Sl} (R : StR L P H σ τ) (e : Same H H') : StR L P H' σ τ := by
  have f := hid_mono (A := Hd P σ τ) e fun _ z => z
  refine ⟨R.len, R.inj, R.dis, fun a h => let ⟨o, q, m⟩ := R.bth0 a h; ⟨o, e a o q, m⟩, fun i t h => ?_⟩
  have q := R.sl i t h
  cases t with
  | un => trivial
  | fz d => obtain ⟨v, e1, r⟩ := q; exact ⟨v, e1, r.same f⟩
  | ow d =>
    obtain ⟨a, e1, r⟩ := q
    obtain ⟨o, ho⟩ := r.there
    exact ⟨a, e1, r.step f (by rw [ho]; exact e a o ho)⟩
  | le d =>
    obtain ⟨a, e1, r⟩ := q
    obtain ⟨o, ho⟩ := r.there
    exact ⟨a, e1, r.step f (by rw [ho]; exact e a o ho)⟩
  | io k d =>
    obtain ⟨a, e1, e2, r⟩ := q
    obtain ⟨o, ho⟩ := r.there
    exact ⟨a, e1, e2, r.step f (by rw [ho]; exact e a o ho) (fun b z => same_mk e z)⟩
  | oo d =>
    obtain ⟨a, e1, r⟩ := q
    obtain ⟨o, ho⟩ := r.there
    exact ⟨a, e1, r.step f (by rw [ho]; exact e a o ho) (fun b z => same_mk e z)⟩
theorem StR.tr {L : Lay} {P : Pa} {H H' : Hp} {σ : L2.St} {τ : List Sl} {A A' : Addr → Prop} (R : StR L P H σ τ) (t : Tr H A H' A') (no : ∀ a, ¬ A a) : Tr H (Own σ τ) H' (Own σ τ) ∧ StR L P H' σ τ := by
  have tr : Tr H (Own σ τ) H' (Own σ τ) := ⟨fun a o e n => t.keep0 a o e fun z => n (z.mono fun b q => (no b q).elim), fun _ h => .inl h, t.there⟩
  have f := R.fz tr
  have root : ∀ {d : D} {a : Addr}, Own σ τ a → OwX L (hid H (Hd P σ τ)) H d a → OwX L (hid H' (Hd P σ τ)) H' d a := fun {d a} oa r => by
    obtain ⟨o, ho⟩ := r.there
    refine r.step f (by rw [ho]; exact t.keep a o ho (no a) (R.own_noMk oa o ho)) fun b z => ?_
    obtain ⟨u, hu, _⟩ := z.get
    rw [hu]
    refine t.keep0 b _ hu fun y => ?_
    rcases y with y | ⟨p, e, y | y⟩
    · exact no b y
    · exact no p y
    · rw [z.uniq e] at ho; rw [ho] at y; cases y
  have root1 : ∀ {d : D} {a : Addr}, Own σ τ a → OwR L (hid H (Hd P σ τ)) H d a → OwR L (hid H' (Hd P σ τ)) H' d a := fun {d a} oa r => by
    obtain ⟨o, ho⟩ := r.there
    exact r.step f (by rw [ho]; exact t.keep a o ho (no a) (R.own_noMk oa o ho))
  refine ⟨tr, R.len, R.inj, R.dis, fun a h => let ⟨o, q, m⟩ := R.bth0 a h; ⟨o, t.keep a o q (no a), m⟩, fun i t' h => ?_⟩
  have q := R.sl i t' h
  cases t' with
  | un => trivial
  | fz d => obtain ⟨v, e1, r⟩ := q; exact ⟨v, e1, r.same f⟩
  | ow d => obtain ⟨a, e1, r⟩ := q; exact ⟨a, e1, root1 ⟨i, e1, _, h, rfl⟩ r⟩
  | le d => obtain ⟨a, e1, r⟩ := q; exact ⟨a, e1, root1 ⟨i, e1, _, h, rfl⟩ r⟩
  | io k d => obtain ⟨a, e1, e2, r⟩ := q; exact ⟨a, e1, e2, root ⟨i, e1, _, h, rfl⟩ r⟩
  | oo d => obtain ⟨a, e1, r⟩ := q; exact ⟨a, e1, root ⟨i, e1, _, h, rfl⟩ r⟩
structure Kin (H H' : Hp) : Prop where
  tr : Tr H (fun _ => False) H' (fun _ => False)
theorem Kin.of {H H' : Hp} (x : Same H H') : Kin H H' := ⟨.of x⟩
instance {H H' : Hp} : Coe (Same H H') (Kin H H') := ⟨Kin.of⟩
theorem Kin.refl (H : Hp) : Kin H H := ⟨.refl⟩
theorem Kin.trans {H H1 H2 : Hp} (x : Kin H H1) (y : Kin H1 H2) : Kin H H2 := ⟨x.tr.trans y.tr⟩
structure Th (H : Hp) (A : Addr → Prop) : Prop where
  th : ∀ p, A p → ∃ o, H p = some o ∧ ¬ MkH o
theorem Th.at {H : Hp} {A : Addr → Prop} (x : Th H A) (p : Addr) (h : A p) : ∃ o, H p = some o := let ⟨o, e, _⟩ := x.th p h; ⟨o, e⟩
instance {H : Hp} {A : Addr → Prop} : CoeFun (Th H A) (fun _ => ∀ p, A p → ∃ o, H p = some o) := ⟨Th.at⟩
instance {H : Hp} {A : Addr → Prop} : Coe (Th H A) (∀ p, A p → ∃ o, H p = some o) := ⟨Th.at⟩
theorem StR.ths {L : Lay} {P : Pa} {H : Hp} {σ : L2.St} {τ : List Sl} (R : StR L P H σ τ) : Th H (Hd P σ τ) := ⟨fun _ h => R.hd_there0 h⟩
def Bp (L : Lay) (F H : Hp) (d : D) (v : V) : Prop :=
  match d with
  | .lst ds => ∃ a vs, v = .ref a ∧ H a = some (.lst vs) ∧ Rps L F ds vs
  | .dct ks us => ∃ a es, v = .ref a ∧ DctAt L.pr L.w H a es ∧ DRel L F ks us es
  | .dki ks us => ∃ a kvs, v = .ref a ∧ DkAt L.pr L.w H a kvs ∧ ks = kvs.map (·.1) ∧ Rps L F us (kvs.map (·.2))
  | .obo c ns fs => ∃ a, v = .ref a ∧ ObR L F H c ns fs a
  | d => Rp L F d v
theorem Rp.bp {L : Lay} {F H : Hp} (e : Same F H) {d : D} {v : V} (h : Rp L F d v) : Bp L F H d v := by
  cases d with
  | lst ds =>
    obtain ⟨a, vs, e1, q, r⟩ := Rp.lst_iff.mp h
    exact ⟨a, vs, e1, e _ _ q, r⟩
  | dct ks us =>
    obtain ⟨a, es, e1, q, r⟩ := Rp.dct_iff.mp h
    exact ⟨a, es, e1, q.mono fun o z => e _ _ z, r⟩
  | dki ks us =>
    obtain ⟨a, es, e1, q, e2, r⟩ := Rp.dki_iff.mp h
    exact ⟨a, es, e1, q.mono fun o z => e _ _ z, e2, r⟩
  | obo c ns fs => unfold Rp at h; exact h.elim
  | _ => exact h
theorem OwR.bp {L : Lay} {F H : Hp} : ∀ {d : D} {a : Addr}, OwR L F H d a → Bp L F H d (.ref a)
  | .lst _, _, ⟨vs, h, r⟩ => ⟨_, vs, rfl, h, r⟩
  | .dct _ _, _, ⟨vs, h, r⟩ => ⟨_, vs, rfl, h, r⟩
  | .dki _ _, _, ⟨vs, h, r⟩ => ⟨_, vs, rfl, h, r⟩
theorem OwX.bp {L : Lay} {F H : Hp} {d : D} {a : Addr} (h : OwX L F H d a) : Bp L F H d (.ref a) := by
  rcases h with h | ⟨c, ns, fs, rfl, h⟩
  · exact h.bp
  · exact ⟨a, rfl, h⟩
def Bps (L : Lay) (F H : Hp) : List D → List V → Prop
  | [], vs => vs = []
  | d :: ds, vs => ∃ v r, vs = v :: r ∧ Bp L F H d v ∧ Bps L F H ds r
theorem Rps.bps {L : Lay} {F H : Hp} (e : Same F H) : ∀ {ds : List D} {vs : List V}, Rps L F ds vs → Bps L F H ds vs
  | [], _, h => by unfold Rps at h; exact h
  | _ :: _, _, h => by
    unfold Rps at h
    obtain ⟨v, r, e1, q, rr⟩ := h
    exact ⟨v, r, e1, q.bp e, Rps.bps e rr⟩
theorem SlR.bp {L : Lay} {P : Pa} {F H : Hp} {s : Option (Option V)} (e : Same F H) : ∀ {t : Sl} {d : D}, SlR L P F H s t → t.get = some d → ∃ v, s = some (some v) ∧ Bp L F H d v
  | .fz _, _, ⟨v, h, r⟩, z => by cases z; exact ⟨v, h, r.bp e⟩
  | .ow _, _, ⟨a, h, r⟩, z => by cases z; exact ⟨_, h, r.bp⟩
  | .le _, _, ⟨a, h, r⟩, z => by cases z; exact ⟨_, h, r.bp⟩
  | .io _ _, _, ⟨a, h, _, r⟩, z => by cases z; exact ⟨_, h, r.bp⟩
  | .oo _, _, ⟨a, h, r⟩, z => by cases z; exact ⟨_, h, r.bp⟩

inductive Res (α : Type) where
  | ok (a : α) (τ : List Sl) | exc (c : Nat) (xs : List D) (τ : List Sl) | fail
abbrev M (α : Type) := List Sl → Res α
@[simp] def M.pure {α : Type} (a : α) : M α := fun τ => .ok a τ
def Res.bind {α β : Type} (r : Res α) (f : α → M β) : Res β :=
  match r with
  | .ok a τ => f a τ
  | .exc c xs τ => .exc c xs τ
  | .fail => .fail
@[simp] theorem Res.bind_ok {α β : Type} {a : α} {τ : List Sl} {f : α → M β} : (Res.ok a τ).bind f = f a τ := rfl
@[simp] theorem Res.bind_exc {α β : Type} {c : Nat} {xs : List D} {τ : List Sl} {f : α → M β} : (Res.exc c xs τ : Res α).bind f = .exc c xs τ := rfl
@[simp] theorem Res.bind_fail {α β : Type} {f : α → M β} : (Res.fail : Res α).bind f = .fail := rfl
@[simp] def M.bind {α β : Type} (m : M α) (f : α → M β) : M β := fun τ => (m τ).bind f
def Res.lift {α : Type} (o : Option α) (τ : List Sl) : Res α :=
  match o with
  | some a => .ok a τ
  | none => .fail
@[simp] theorem Res.lift_some {α : Type} {a : α} {τ : List Sl} : Res.lift (some a) τ = .ok a τ := rfl
@[simp] theorem Res.lift_none {α : Type} {τ : List Sl} : (Res.lift none τ : Res α) = .fail := rfl
@[simp] def M.lift {α : Type} (o : Option α) : M α := fun τ => Res.lift o τ

def ExR (L : Lay) (F : Hp) (c : Nat) (xs : List D) (cls : Value) (od : Option Addr) : Prop :=
  ∃ (ns : List Str) (fs : List D) (dx : Addr) (vs : List V), xs = [.exc c ns fs] ∧ cls = .ref (L.cls c) ∧ od = some dx ∧ F dx = some (.xd (ns.zip vs)) ∧ ns.length = vs.length ∧ Rps L F fs vs
theorem ExR.same {L : Lay} {F F' : Hp} {c : Nat} {xs : List D} {cls : Value} {od : Option Addr} (e : Same F F') (h : ExR L F c xs cls od) : ExR L F' c xs cls od :=
  let ⟨ns, fs, dx, vs, h1, h2, h3, h4, h5, h6⟩ := h
  ⟨ns, fs, dx, vs, h1, h2, h3, e _ _ h4, h5, Rps.same e h6⟩

def Post {α β : Type} (L : Lay) (P : Pa) (R : Hp → α → β → Prop) (H : Hp) (σ : L2.St) (τ : List Sl) (r : Res α) (Q : β → Hp → Prop) (E : XK) : Prop :=
  match r with
  | .ok a τ' => ∀ v H', Tr H (Own σ τ) H' (Own σ τ') → StR L P H' σ τ' → R (hid H' (Hd P σ τ')) a v → Q v H'
  | .exc c xs τ' => ∀ cls od H', Tr H (Own σ τ) H' (Own σ τ') → StR L P H' σ τ' → ExR L (hid H' (Hd P σ τ')) c xs cls od → E cls od H'
  | .fail => False
section
variable {α β γ δ : Type} {L : Lay} {P : Pa} {R : Hp → α → β → Prop} {R2 : Hp → γ → δ → Prop} {H H1 : Hp} {σ : L2.St} {τ τ1 : List Sl} {Q Q' : β → Hp → Prop} {E : XK}
theorem Post.imp {r : Res α} (h : Post L P R H σ τ r Q E) (f : ∀ v H', Q v H' → Q' v H') : Post L P R H σ τ r Q' E := by
  cases r with
  | ok a τ' => exact fun v H' x y z => f v H' (h v H' x y z)
  | exc c xs τ' => exact h
  | fail => exact h
theorem Post.from {r : Res α} (h : Post L P R H σ τ r Q E) (x : Tr H (Own σ τ) H1 (Own σ τ1)) : Post L P R H1 σ τ1 r Q E := by
  cases r with
  | ok a τ' => exact fun v H' y z w => h v H' (x.trans y) z w
  | exc c xs τ' => exact fun cls od H' y z w => h cls od H' (x.trans y) z w
  | fail => exact h
theorem Post.split {r : Res α} {f : α → M γ} {T : δ → Hp → Prop} (h : Post L P R2 H σ τ (r.bind f) T E) :
    Post L P R H σ τ r (fun v H1 => ∃ a τ1, Tr H (Own σ τ) H1 (Own σ τ1) ∧ StR L P H1 σ τ1 ∧ R (hid H1 (Hd P σ τ1)) a v ∧ Post L P R2 H1 σ τ1 (f a τ1) T E) E := by
  cases r with
  | ok a τ' => exact fun v H' x y z => ⟨a, τ', x, y, z, Post.from h x⟩
  | exc c xs τ' => exact h
  | fail => exact h
theorem StR.kin {L : Lay} {P : Pa} {H H' : Hp} {σ : L2.St} {τ : List Sl} (R : StR L P H σ τ) (s : Kin H H') : StR L P H' σ τ := (R.tr s.tr fun _ y => y).2
theorem StR.kinT {L : Lay} {P : Pa} {H H' : Hp} {σ : L2.St} {τ : List Sl} (R : StR L P H σ τ) (s : Kin H H') : Tr H (Own σ τ) H' (Own σ τ) := (R.tr s.tr fun _ y => y).1
theorem Post.lift {o : Option γ} {T : δ → Hp → Prop} (h : Post L P R2 H σ τ (Res.lift o τ) T E) : ∃ d, o = some d ∧ ∀ v H', Tr H (Own σ τ) H' (Own σ τ) → StR L P H' σ τ → R2 (hid H' (Hd P σ τ)) d v → T v H' := by
  cases o with
  | none => exact h.elim
  | some d => exact ⟨d, rfl, h⟩
end

abbrev RV (L : Lay) : Hp → D → V → Prop := fun F d v => Rp L F d v
abbrev RVs (L : Lay) : Hp → List D → List V → Prop := fun F d v => Rps L F d v
abbrev RB : Hp → Bool → Bool → Prop := fun _ a b => b = a
def tE (L : Lay) (P : Pa) (E : L2.St → XK) (m : M D) : TE := fun σ H Q => ∃ τ, StR L P H σ τ ∧ Post L P (RV L) H σ τ (m τ) Q (E σ)
def tT (L : Lay) (P : Pa) (E : L2.St → XK) (m : M Bool) : TT := fun σ H Q => ∃ τ, StR L P H σ τ ∧ Post L P RB H σ τ (m τ) Q (E σ)
def tA (L : Lay) (P : Pa) (E : L2.St → XK) (m : M (List D)) : TA := fun σ H Q => ∃ τ, StR L P H σ τ ∧ Post L P (RVs L) H σ τ (m τ) Q (E σ)
abbrev SE (L : Lay) (P : Pa) (E : L2.St → XK) (X : Cx) (e : Expr) (m : M D) : Prop := PE X e (tE L P E m)
abbrev ST (L : Lay) (P : Pa) (E : L2.St → XK) (X : Cx) (e : Expr) (m : M Bool) : Prop := PT X e (tT L P E m)
abbrev SA (L : Lay) (P : Pa) (E : L2.St → XK) (X : Cx) (es : List Expr) (m : M (List D)) : Prop := PA X es (tA L P E m)
theorem PE.weak {X : Cx} {e : Expr} {t u : TE} (h : PE X e t) (f : ∀ σ H Q, u σ H Q → t σ H Q) : PE X e u := ⟨fun pins s σ H Q I q => h.run pins s σ H Q I (f σ H Q q)⟩
theorem PT.weak {X : Cx} {e : Expr} {t u : TT} (h : PT X e t) (f : ∀ σ H Q, u σ H Q → t σ H Q) : PT X e u := ⟨fun pins s σ H Q I q => h.run pins s σ H Q I (f σ H Q q)⟩
theorem PW.weak {X : Cx} {e : Expr} {t u : TT} (h : PW X e t) (f : ∀ σ H Q, u σ H Q → t σ H Q) : PW X e u := ⟨fun w pins s σ H Q I q => h.run w pins s σ H Q I (f σ H Q q)⟩
theorem PA.weak {X : Cx} {e : List Expr} {t u : TA} (h : PA X e t) (f : ∀ σ H Q, u σ H Q → t σ H Q) : PA X e u := ⟨fun pos pins s σ H Q I q => h.run pos pins s σ H Q I (f σ H Q q)⟩
theorem PS.weak {X : Cx} {e : Stmt} {t u : TS} (h : PS X e t) (f : ∀ D σ H, u D σ H → t D σ H) : PS X e u := ⟨fun pins s σ H D I q => h.run pins s σ H D I (f D σ H q)⟩
theorem PSs.weak {X : Cx} {e : List Stmt} {t u : TS} (h : PSs X e t) (f : ∀ D σ H, u D σ H → t D σ H) : PSs X e u := ⟨fun pins s σ H D I q => h.run pins s σ H D I (f D σ H q)⟩
theorem PG.weak {X : Cx} {e : Expr} {t u : TG} (h : PG X e t) (f : ∀ v σ H Q, u v σ H Q → t v σ H Q) : PG X e u := ⟨fun pins s σ H v w Q I r q => h.run pins s σ H v w Q I r (f v σ H Q q)⟩

def OpS (L : Lay) (r : R2) (f : D → D → Option D) : Prop :=
  ∀ (a b d : D) (x y : V) (H : Hp) (A : Addr → Prop) (Q : VK), f a b = some d → Bp L (hid H A) H a x → Bp L (hid H A) H b y → Th H A →
    (∀ z H', Kin H H' → Rp L (hid H' A) d z → Q z H') → r x y H Q
def UnS (L : Lay) (r : V → Hp → VK → Prop) (f : D → Option D) : Prop :=
  ∀ (a d : D) (x : V) (H : Hp) (A : Addr → Prop) (Q : VK), f a = some d → Bp L (hid H A) H a x → Th H A →
    (∀ z H', Kin H H' → Rp L (hid H' A) d z → Q z H') → r x H Q
def FnS (L : Lay) (r : List V → Hp → VK → Prop) (f : List D → Option D) : Prop :=
  ∀ (ds : List D) (d : D) (xs : List V) (H : Hp) (A : Addr → Prop) (Q : VK), f ds = some d → Bps L (hid H A) H ds xs → Th H A →
    (∀ z H', Kin H H' → Rp L (hid H' A) d z → Q z H') → r xs H Q

section
variable {L : Lay} {P : Pa} {E : L2.St → XK} {X : Cx} {a b c : Expr} {ma mb mc : M D} {pos : Pos}
theorem Post.done {H : Hp} {σ : L2.St} {τ : List Sl} {o : Option D} {Q : VK} {e : XK} (R : StR L P H σ τ) (h : Post L P (RV L) H σ τ (Res.lift o τ) Q e) :
    ∃ d, o = some d ∧ ∀ z H', Kin H H' → Rp L (hid H' (Hd P σ τ)) d z → Q z H' := by
  obtain ⟨d, e, q⟩ := h.lift
  exact ⟨d, e, fun z H' s r => let x := R.tr s.tr fun _ y => y; q z H' x.1 x.2 r⟩
def mOp (f : D → D → Option D) (ma mb : M D) : M D := fun τ => (ma τ).bind fun x => fun τ => (mb τ).bind fun y => fun τ => Res.lift (f x y) τ
def mUn (f : D → Option D) (ma : M D) : M D := fun τ => (ma τ).bind fun x => fun τ => Res.lift (f x) τ
theorem tOp_of {r : R2} {f : D → D → Option D} (ho : OpS L r f) (σ : L2.St) (H : Hp) (Q : VK) (h : tE L P E (mOp f ma mb) σ H Q) : tOp r (tE L P E ma) (tE L P E mb) σ H Q := by
  obtain ⟨τ, R, h⟩ := h
  refine ⟨τ, R, (Post.split (R := RV L) h).imp fun x H1 ⟨d1, τ1, t1, R1, r1, h1⟩ => ?_⟩
  refine ⟨τ1, R1, (Post.split (R := RV L) h1).imp fun y H2 ⟨d2, τ2, t2, R2, r2, h2⟩ => ?_⟩
  obtain ⟨d, e, q⟩ := h2.done R2
  exact ho d1 d2 d x y H2 (Hd P σ τ2) Q e ((r1.same (R1.fz t2)).bp hid_le) (r2.bp hid_le) R2.ths q
theorem sE_op {op : Operator} {r : R2} {f : D → D → Option D} (hr : OpR X (binaryOp op) r) (ho : OpS L r f) (ha : SE L P E X a ma) (hb : SE L P E X b mb) : SE L P E X (.BinOp a op b pos) (mOp f ma mb) :=
  PE.weak (pe_op hr ha hb) fun σ H Q h => tOp_of ho σ H Q h
theorem sE_cmp {op : CmpOp} {r : R2} {f : D → D → Option D} (hr : OpR X (compareOp op) r) (ho : OpS L r f) (ha : SE L P E X a ma) (hb : SE L P E X b mb) (hm : behindInMarks op b = false) : SE L P E X (.Compare a [op] [b] pos) (mOp f ma mb) :=
  PE.weak (pe_cmpR hr ha hb hm) fun σ H Q h => tOp_of ho σ H Q h
theorem sE_un {op : UnaryOp} {r : V → Hp → VK → Prop} {f : D → Option D} (hr : UnR X (unaryOp op) r) (ho : UnS L r f) (ha : SE L P E X a ma) : SE L P E X (.UnaryOp op a pos) (mUn f ma) :=
  PE.weak (pe_un hr ha) fun σ H Q ⟨τ, R, h⟩ => by
    refine ⟨τ, R, (Post.split (R := RV L) h).imp fun x H1 ⟨d1, τ1, t1, R1, r1, h1⟩ => ?_⟩
    obtain ⟨d, e, q⟩ := h1.done R1
    exact ho d1 d x H1 (Hd P σ τ1) Q e (r1.bp hid_le) R1.ths q
def asB : D → Option Bool
  | .bl b => some b
  | _ => none
@[simp] theorem asB_bl {b : Bool} : asB (.bl b) = some b := rfl
def mB (m : M D) : M Bool := fun τ => (m τ).bind fun x => fun τ => Res.lift (asB x) τ
theorem tB_of {m : M D} (σ : L2.St) (H : Hp) (Q : Bool → Hp → Prop) (h : tT L P E (mB m) σ H Q) : tB (tE L P E m) σ H Q := by
  obtain ⟨τ, R, h⟩ := h
  refine ⟨τ, R, (Post.split (R := RV L) h).imp fun x H1 ⟨d1, τ1, t1, R1, r1, h1⟩ => ?_⟩
  obtain ⟨b, e, q⟩ := h1.lift
  cases d1 with
  | bl k =>
    have e' : b = k := (Option.some.inj e).symm
    subst e'
    exact ⟨b, Rp.bl_iff.mp r1, q b H1 .refl R1 rfl⟩
  | _ => cases e
theorem sT_val {e : Expr} {m : M D} (h : SE L P E X e m) (he : ∀ whole, isTrue e X.env whole = (do let v ← whole; standAt e.pos; holding [v] (truthy v)) := by intro _; rfl) : ST L P E X e (mB m) :=
  PT.weak (pt_val h he) fun σ H Q q => tB_of σ H Q q
theorem sT_cmp {op : CmpOp} {r : R2} {f : D → D → Option D} (hr : OpR X (compareOp op) r) (ho : OpS L r f) (ha : SE L P E X a ma) (hb : SE L P E X b mb) (hm : behindInMarks op b = false) : ST L P E X (.Compare a [op] [b] pos) (mB (mOp f ma mb)) :=
  PT.weak (pt_cmpR hr ha hb hm) fun σ H Q h => by
    obtain ⟨τ, R, h⟩ := h
    have q : tB (tE L P E (mOp f ma mb)) σ H Q := tB_of σ H Q ⟨τ, R, h⟩
    exact tOp_of ho σ H _ q

def mVar (i : Nat) : M D := fun τ =>
  match τ[i]? with
  | some (.fz d) => .ok d τ
  | some (.ow d) => .ok d (τ.set i (.fz d))
  | _ => .fail
def mC (d : D) : M D := fun τ => .ok d τ
theorem sE_int {i : Int} {j} : SE L P E X (.Constant (.int i) j pos) (mC (.int i)) :=
  PE.weak pe_int fun σ H Q ⟨τ, R, h⟩ => h (.int i) H .refl R (Rp.int_iff.mpr rfl)
theorem sE_bl {i : Bool} {j} : SE L P E X (.Constant (.bool i) j pos) (mC (.bl i)) :=
  PE.weak pe_bl fun σ H Q ⟨τ, R, h⟩ => h (.bl i) H .refl R (Rp.bl_iff.mpr rfl)
theorem sE_str {i : Str} {j} : SE L P E X (.Constant (.str i) j pos) (mC (.str i)) :=
  PE.weak pe_str fun σ H Q ⟨τ, R, h⟩ => h (.str i) H .refl R (Rp.str_iff.mpr rfl)
theorem sE_non {j} : SE L P E X (.Constant .none j pos) (mC .non) :=
  PE.weak pe_non fun σ H Q ⟨τ, R, h⟩ => h .non H .refl R (Rp.non_iff.mpr rfl)
theorem StR.freeze {H : Hp} {σ : L2.St} {τ : List Sl} {i : Nat} {d : D} (R : StR L P H σ τ) (h : τ[i]? = some (.ow d)) :
    Tr H (Own σ τ) H (Own σ (τ.set i (.fz d))) ∧ StR L P H σ (τ.set i (.fz d)) ∧ ∃ v, σ[i]? = some (some v) ∧ Rp L (hid H (Hd P σ (τ.set i (.fz d)))) d v := by
  have hi : i < τ.length := (List.getElem?_eq_some_iff.mp h).1
  have sub : ∀ j a, OwnAt σ (τ.set i (.fz d)) j a → OwnAt σ τ j a ∧ j ≠ i := fun j a ⟨e, t, et, ow⟩ => by
    by_cases hj : i = j
    · subst hj
      rw [List.getElem?_set_self hi] at et
      cases et
      cases ow
    · rw [List.getElem?_set_ne hj] at et
      exact ⟨⟨e, t, et, ow⟩, fun z => hj z.symm⟩
  have tr : Tr H (Own σ τ) H (Own σ (τ.set i (.fz d))) := ⟨fun _ _ q _ => q, fun a ⟨j, q⟩ => .inl ⟨j, (sub j a q).1⟩, fun _ o h => ⟨o, h⟩⟩
  obtain ⟨a, e1, r⟩ := R.sl i _ h
  have na : ¬ Hd P σ (τ.set i (.fz d)) a := fun z => by
    rcases z with ⟨j, q⟩ | z
    · obtain ⟨q1, q2⟩ := sub j a q
      exact q2 (R.inj j i a q1 ⟨e1, _, h, rfl⟩)
    · exact R.dis a ⟨i, e1, _, h, rfl⟩ z
  have rv : Rp L (hid H (Hd P σ (τ.set i (.fz d)))) d (.ref a) := by
    cases d with
    | lst ds =>
      obtain ⟨vs, hv, rr⟩ := r
      exact Rp.lst_iff.mpr ⟨a, vs, rfl, hid_some.mpr ⟨hv, na, by first | assumption | exact NoMk.no⟩, Rps.same (R.fz tr) rr⟩
    | dct ks us =>
      obtain ⟨es, hv, rr⟩ := r
      exact Rp.dct_iff.mpr ⟨a, es, rfl, hv.mono fun o z => hid_some.mpr ⟨z, na, by first | assumption | exact NoMk.no⟩, rr.same (R.fz tr)⟩
    | dki ks us =>
      obtain ⟨es, hv, e2, rr⟩ := r
      exact Rp.dki_iff.mpr ⟨a, es, rfl, hv.mono fun o z => hid_some.mpr ⟨z, na, by first | assumption | exact NoMk.no⟩, e2, Rps.same (R.fz tr) rr⟩
    | _ => exact r.elim
  refine ⟨tr, ⟨by rw [List.length_set]; exact R.len, fun j k b x y => R.inj j k b (sub j b x).1 (sub k b y).1, fun b ⟨j, q⟩ => R.dis b ⟨j, (sub j b q).1⟩, R.bth0, fun j t ht => ?_⟩, .ref a, e1, rv⟩
  by_cases hj : i = j
  · subst hj
    rw [List.getElem?_set_self hi] at ht
    cases ht
    exact ⟨.ref a, e1, rv⟩
  · rw [List.getElem?_set_ne hj] at ht
    have q := R.sl j t ht
    cases t with
    | un => trivial
    | fz d' => obtain ⟨v, e2, r2⟩ := q; exact ⟨v, e2, r2.same (R.fz tr)⟩
    | ow d' => obtain ⟨b, e2, r2⟩ := q; exact ⟨b, e2, r2.step (R.fz tr) rfl⟩
    | le d' => obtain ⟨b, e2, r2⟩ := q; exact ⟨b, e2, r2.step (R.fz tr) rfl⟩
    | io k d' => obtain ⟨b, e2, e3, r2⟩ := q; exact ⟨b, e2, e3, r2.step (R.fz tr) rfl⟩
    | oo d' => obtain ⟨b, e2, r2⟩ := q; exact ⟨b, e2, r2.step (R.fz tr) rfl⟩
theorem sE_var (i : Nat) {x : Str} (hN : X.N[i]? = some x := by rfl) (hv : Vis X.env.scope x := by first | exact Or.inl rfl | exact Or.inr (Or.inl rfl) | exact Or.inr (Or.inr rfl)) (hd : (x == ("__debug__" : Str)) = false := by decide)
    (hcd : (x == ("__classdict__" : Str)) = false := by decide) : SE L P E X (.Name x pos) (mVar i) :=
  PE.weak (pe_var hN hv hd hcd) fun σ H Q ⟨τ, R, h⟩ => by
    unfold mVar at h
    split at h
    · rename_i d e
      obtain ⟨v, e1, r⟩ := R.sl i _ e
      exact ⟨v, e1, h v H .refl R r⟩
    · rename_i d e
      obtain ⟨tr, R', v, e1, r⟩ := R.freeze e
      exact ⟨v, e1, h v H tr R' r⟩
    · exact h.elim

def mNil : M (List D) := fun τ => .ok [] τ
def mCons (m : M D) (ms : M (List D)) : M (List D) := fun τ => (m τ).bind fun x => fun τ => (ms τ).bind fun xs => fun τ => .ok (x :: xs) τ
variable {e : Expr} {es : List Expr} {m : M D} {ms : M (List D)}
theorem sA_nil : SA L P E X [] mNil := PA.weak pa_nil fun σ H Q ⟨τ, R, h⟩ => h [] H .refl R .nil
theorem sA_cons (ha : SE L P E X e m) (hr : SA L P E X es ms) (hs : starEach (e :: es) X.env = (false, eval e X.env) :: starEach es X.env := by rfl) : SA L P E X (e :: es) (mCons m ms) :=
  PA.weak (pa_cons ha hr hs) fun σ H Q ⟨τ, R, h⟩ => by
    refine ⟨τ, R, (Post.split (R := RV L) h).imp fun x H1 ⟨d1, τ1, t1, R1, r1, h1⟩ => ?_⟩
    refine ⟨τ1, R1, (Post.split (R := RVs L) h1).imp fun y H2 ⟨d2, τ2, t2, R2, r2, h2⟩ => ?_⟩
    exact h2 (x :: y) H2 .refl R2 (.cons (r1.same (R1.fz t2)) r2)
theorem same_upd {H : Hp} {p : Addr} {o : HO} (h : H p = none) : Same H (upd H p o) := fun b x e => by
  rw [upd_ne (ne_of_none e h)]
  exact e
theorem new_hid {H : Hp} {A : Addr → Prop} {p : Addr} {o : HO} (hA : ∀ q, A q → ∃ o, H q = some o) (h : H p = none) (m : ¬ MkH o := by first | assumption | exact NoMk.no) : hid (upd H p o) A p = some o :=
  hid_some.mpr ⟨upd_same, fun z => (by obtain ⟨o, q⟩ := hA p z; rw [h] at q; cases q), m⟩
def small (xs : List D) : Option (List D) := if xs.length ≤ 16000000 then some xs else none
theorem small_some {xs ys : List D} (h : small xs = some ys) : ys = xs ∧ xs.length ≤ sizeLine := by
  unfold small at h
  split at h
  · rename_i q
    cases h
    exact ⟨rfl, Nat.le_trans q (by decide)⟩
  · cases h
def mTup (ms : M (List D)) : M D := fun τ => (ms τ).bind fun xs => fun τ => Res.lift ((small xs).map D.tup) τ
def mLst (ms : M (List D)) : M D := fun τ => (ms τ).bind fun xs => fun τ => Res.lift ((small xs).map D.lst) τ
theorem new_tup {H : Hp} {A : Addr → Prop} {p : Addr} {ds : List D} {vs : List V} (hA : ∀ q, A q → ∃ o, H q = some o) (h : H p = none) (r : Rps L (hid H A) ds vs) : Rp L (hid (upd H p (.tup vs)) A) (.tup ds) (.ref p) :=
  Rp.tup_iff.mpr ⟨p, vs, rfl, .inl (.inl (new_hid hA h)), Rps.same (hid_mono (same_upd h) fun _ z => z) r⟩
theorem new_lst {H : Hp} {A : Addr → Prop} {p : Addr} {ds : List D} {vs : List V} (hA : ∀ q, A q → ∃ o, H q = some o) (h : H p = none) (r : Rps L (hid H A) ds vs) : Rp L (hid (upd H p (.lst vs)) A) (.lst ds) (.ref p) :=
  Rp.lst_iff.mpr ⟨p, vs, rfl, new_hid hA h, Rps.same (hid_mono (same_upd h) fun _ z => z) r⟩
theorem sE_tup {x1} (h : SA L P E X es ms) : SE L P E X (.Tuple es x1 pos) (mTup ms) :=
  PE.weak (pe_tup h) fun σ H Q ⟨τ, R, h⟩ => by
    refine ⟨τ, R, (Post.split (R := RVs L) h).imp fun xs H1 ⟨ds, τ1, t1, R1, r1, h1⟩ => ?_⟩
    obtain ⟨d, e, q⟩ := h1.done R1
    obtain ⟨ds', e1, rfl⟩ := Option.map_eq_some_iff.mp e
    obtain ⟨rfl, hz⟩ := small_some e1
    refine ⟨by rw [r1.length]; exact hz, fun p hp => q (.ref p) _ (.of (same_upd hp)) (new_tup (fun a ha => R1.hd_there ha) hp r1)⟩
theorem sE_lst (h : SA L P E X es ms) : SE L P E X (.List es pos) (mLst ms) :=
  PE.weak (pe_lst h) fun σ H Q ⟨τ, R, h⟩ => by
    refine ⟨τ, R, (Post.split (R := RVs L) h).imp fun xs H1 ⟨ds, τ1, t1, R1, r1, h1⟩ => ?_⟩
    obtain ⟨d, e, q⟩ := h1.done R1
    obtain ⟨ds', e1, rfl⟩ := Option.map_eq_some_iff.mp e
    obtain ⟨rfl, hz⟩ := small_some e1
    refine ⟨by rw [r1.length]; exact hz, fun p hp => q (.ref p) _ (.of (same_upd hp)) (new_lst (fun a ha => R1.hd_there ha) hp r1)⟩

def mAnd (a b : M Bool) : M Bool := fun τ => (a τ).bind fun k => fun τ => if k = true then b τ else .ok false τ
def mOr (a b : M Bool) : M Bool := fun τ => (a τ).bind fun k => fun τ => if k = true then .ok true τ else b τ
def mNot (a : M Bool) : M Bool := fun τ => (a τ).bind fun k => fun τ => .ok (!k) τ
abbrev SW (L : Lay) (P : Pa) (E : L2.St → XK) (X : Cx) (e : Expr) (m : M Bool) : Prop := PW X e (tT L P E m)
variable {na nb : M Bool} {rest : List Expr}
theorem sW_and1 (ha : ST L P E X a na) : SW L P E X (.BoolOp .And [a] pos) na := pw_and1 ha
theorem sW_or1 (ha : ST L P E X a na) : SW L P E X (.BoolOp .Or [a] pos) na := pw_or1 ha
theorem sW_and (ha : ST L P E X a na) (hb : SW L P E X (.BoolOp .And (b :: rest) pos) nb) : SW L P E X (.BoolOp .And (a :: b :: rest) pos) (mAnd na nb) :=
  PW.weak (pw_and ha hb) fun σ H Q ⟨τ, R, h⟩ => by
    refine ⟨τ, R, (Post.split (R := RB) h).imp fun k H1 ⟨k', τ1, t1, R1, r1, h1⟩ => ?_⟩
    cases r1
    cases k with
    | true => exact (if_pos rfl).mpr ⟨τ1, R1, h1⟩
    | false => exact h1 false H1 .refl R1 rfl
theorem sW_or (ha : ST L P E X a na) (hb : SW L P E X (.BoolOp .Or (b :: rest) pos) nb) : SW L P E X (.BoolOp .Or (a :: b :: rest) pos) (mOr na nb) :=
  PW.weak (pw_or ha hb) fun σ H Q ⟨τ, R, h⟩ => by
    refine ⟨τ, R, (Post.split (R := RB) h).imp fun k H1 ⟨k', τ1, t1, R1, r1, h1⟩ => ?_⟩
    cases r1
    cases k with
    | false => exact (if_neg Bool.false_ne_true).mpr ⟨τ1, R1, h1⟩
    | true => exact h1 true H1 .refl R1 rfl
theorem sT_w (h : SW L P E X e na) : ST L P E X e na := h.pt
theorem sT_not (ha : ST L P E X a na) : ST L P E X (.UnaryOp .Not a pos) (mNot na) :=
  PT.weak (pt_not ha) fun σ H Q ⟨τ, R, h⟩ => by
    refine ⟨τ, R, (Post.split (R := RB) h).imp fun k H1 ⟨k', τ1, t1, R1, r1, h1⟩ => ?_⟩
    cases r1
    exact h1 (!k) H1 .refl R1 rfl
def mIf {α : Type} (t : M Bool) (a b : M α) : M α := fun τ => (t τ).bind fun k => fun τ => if k = true then a τ else b τ
theorem sE_if (hc : ST L P E X c na) (ha : SE L P E X a ma) (hb : SE L P E X b mb) : SE L P E X (.IfExp c a b pos) (mIf na ma mb) :=
  PE.weak (pe_ifExp hc ha hb) fun σ H Q ⟨τ, R, h⟩ => by
    refine ⟨τ, R, (Post.split (R := RB) h).imp fun k H1 ⟨k', τ1, t1, R1, r1, h1⟩ => ?_⟩
    cases r1
    cases k with
    | false => exact (if_neg Bool.false_ne_true).mpr ⟨τ1, R1, h1⟩
    | true => exact (if_pos rfl).mpr ⟨τ1, R1, h1⟩
end
end Sm
set_option Elab.async false
set_option linter.all false
set_option maxRecDepth 100000
set_option maxHeartbeats 4000000
namespace Sm
open PySem PySem.Spec PyProof.Rows L2

inductive SR where
  | nx (τ : List Sl) | rt (d : D) (τ : List Sl) | ro (d : D) (τ : List Sl) | bk (τ : List Sl) | ct (τ : List Sl) | exc (c : Nat) (xs : List D) (τ : List Sl) | fail
abbrev MS := List Sl → SR

def rid (H : Hp) (a : Addr) : Hp := fun b => if b = a then none else H b
theorem rid_ne {H : Hp} {a b : Addr} (h : b ≠ a) : rid H a b = H b := if_neg h
theorem rid_same {H : Hp} {a : Addr} : rid H a a = none := if_pos rfl
theorem rid_le {H : Hp} {a : Addr} : Same (rid H a) H := fun b o h => by
  by_cases e : b = a
  · rw [e, rid_same] at h; cases h
  · rw [rid_ne e] at h; exact h
theorem rid_upd {H : Hp} {a : Addr} {o : HO} (h : H a = none) : rid (upd H a o) a = H := by
  funext b
  by_cases e : b = a
  · rw [e, rid_same, h]
  · rw [rid_ne e, upd_ne e]

theorem rid_mk {H : Hp} {a b p : Addr} (n : ∀ o, H a = some o → ¬ MkH o) (h : MkBy (H b) p) : rid H a b = H b := by
  obtain ⟨o, h1, h2⟩ := h.get
  exact rid_ne fun z => n o (by rw [← z]; exact h1) h2
theorem mk_rid {H : Hp} {a b p : Addr} (h : MkBy (rid H a b) p) : H b = rid H a b := same_mk rid_le h
structure TrO (H : Hp) (A : Addr → Prop) (H' : Hp) (A' : Addr → Prop) (a : Addr) : Prop where
  keep0 : ∀ b o, H b = some o → ¬ Foot H A b → rid H' a b = some o
  new : ∀ b, A' b → A b ∨ H b = none
  there : ∀ b o, b ≠ a → H b = some o → ∃ o', rid H' a b = some o'
  src : A a ∨ H a = none
theorem TrO.keep {H H' : Hp} {A A' : Addr → Prop} {a : Addr} (x : TrO H A H' A' a) (b : Addr) (o : HO) (h : H b = some o) (n : ¬ A b) (m : ¬ MkH o := by first | assumption | exact NoMk.no) : rid H' a b = some o := x.keep0 b o h (foot_no h n m)
theorem TrO.of {H H' : Hp} {A A' : Addr → Prop} {a : Addr} (x : Tr H A (rid H' a) A') : TrO H A H' A' a := ⟨x.keep0, x.new, fun b o _ h => x.there b o h, .inr (x.fresh rid_same)⟩
theorem TrO.after {H H1 H' : Hp} {A A1 A' : Addr → Prop} {a : Addr} (x : Tr H A H1 A1) (y : TrO H1 A1 H' A' a) : TrO H A H' A' a where
  keep0 := fun b o h n => by
    have h1 := x.keep0 b o h n
    refine y.keep0 b o h1 fun z => ?_
    rcases z with z | ⟨p, e, z⟩
    · rcases x.new b z with q | q
      · exact n (.inl q)
      · rw [q] at h; cases h
    · rw [h1, ← h] at e
      refine n (.inr ⟨p, e, ?_⟩)
      rcases z with z | z
      · exact x.new p z
      · exact .inr (x.fresh z)
  new := fun b z => by
    rcases y.new b z with z | z
    · exact x.new b z
    · exact .inr (x.fresh z)
  there := fun b o n h => by
    obtain ⟨o1, h1⟩ := x.there b o h
    exact y.there b o1 n h1
  src := by
    rcases y.src with z | z
    · exact x.new a z
    · exact .inr (x.fresh z)
def SPost (L : Lay) (P : Pa) (W : WX) (H : Hp) (σ : L2.St) (τ : List Sl) (r : SR) (D : Ends) : Prop :=
  match r with
  | .nx τ' => ∀ σ' H', Tr H (Own σ τ) H' (Own σ' τ') → StR L P H' σ' τ' → D.nx σ' H'
  | .bk τ' => ∀ σ' H', Tr H (Own σ τ) H' (Own σ' τ') → StR L P H' σ' τ' → D.bk σ' H'
  | .ct τ' => ∀ σ' H', Tr H (Own σ τ) H' (Own σ' τ') → StR L P H' σ' τ' → D.ct σ' H'
  | .rt d τ' => ∀ v σ' H', Tr H (Own σ τ) H' (Own σ' τ') → StR L P H' σ' τ' → Rp L (hid H' (Hd P σ' τ')) d v → D.rt v H'
  | .ro d τ' => ∀ a σ' H', TrO H (Own σ τ) H' (Own σ' τ') a → StR L P (rid H' a) σ' τ' → OwX L (hid (rid H' a) (Hd P σ' τ')) H' d a → D.rt (.ref a) H'
  | .exc c xs τ' => ∀ cls od σ' H', Tr H (Own σ τ) H' (Own σ' τ') → StR L P H' σ' τ' → ExR L (hid H' (Hd P σ' τ')) c xs cls od → W cls od σ' H'
  | .fail => False
section
variable {L : Lay} {P : Pa} {W : WX} {H H1 : Hp} {σ σ1 : L2.St} {τ τ1 : List Sl} {D : Ends}
theorem SPost.from {r : SR} (h : SPost L P W H σ τ r D) (x : Tr H (Own σ τ) H1 (Own σ1 τ1)) : SPost L P W H1 σ1 τ1 r D := by
  cases r with
  | nx τ' => exact fun σ' H' y z => h σ' H' (x.trans y) z
  | bk τ' => exact fun σ' H' y z => h σ' H' (x.trans y) z
  | ct τ' => exact fun σ' H' y z => h σ' H' (x.trans y) z
  | rt d τ' => exact fun v σ' H' y z w => h v σ' H' (x.trans y) z w
  | ro d τ' => exact fun v σ' H' y z w => h v σ' H' (TrO.after x y) z w
  | exc c xs τ' => exact fun cls od σ' H' y z w => h cls od σ' H' (x.trans y) z w
  | fail => exact h
end
def tS (L : Lay) (P : Pa) (W : WX) (m : MS) : TS := fun D σ H => ∃ τ, StR L P H σ τ ∧ SPost L P W H σ τ (m τ) D
abbrev SS (L : Lay) (P : Pa) (W : WX) (X : Cx) (st : Stmt) (m : MS) : Prop := PS X st (tS L P W m)
abbrev SSs (L : Lay) (P : Pa) (W : WX) (X : Cx) (st : List Stmt) (m : MS) : Prop := PSs X st (tS L P W m)

def Res.st {α : Type} (r : Res α) (f : α → MS) : SR :=
  match r with
  | .ok a τ => f a τ
  | .exc c xs τ => .exc c xs τ
  | .fail => .fail
@[simp] theorem Res.st_ok {α : Type} {a : α} {τ : List Sl} {f : α → MS} : (Res.ok a τ).st f = f a τ := rfl
@[simp] theorem Res.st_exc {α : Type} {c : Nat} {xs : List D} {τ : List Sl} {f : α → MS} : (Res.exc c xs τ : Res α).st f = .exc c xs τ := rfl
@[simp] theorem Res.st_fail {α : Type} {f : α → MS} : (Res.fail : Res α).st f = .fail := rfl
def SR.then (r : SR) (m : MS) : SR :=
  match r with
  | .nx τ => m τ
  | r => r
@[simp] theorem SR.then_nx {τ : List Sl} {m : MS} : (SR.nx τ).then m = m τ := rfl
@[simp] theorem SR.then_rt {d : D} {τ : List Sl} {m : MS} : (SR.rt d τ).then m = .rt d τ := rfl
@[simp] theorem SR.then_ro {d : D} {τ : List Sl} {m : MS} : (SR.ro d τ).then m = .ro d τ := rfl
@[simp] theorem SR.then_bk {τ : List Sl} {m : MS} : (SR.bk τ).then m = .bk τ := rfl
@[simp] theorem SR.then_ct {τ : List Sl} {m : MS} : (SR.ct τ).then m = .ct τ := rfl
@[simp] theorem SR.then_exc {c : Nat} {xs : List Sm.D} {τ : List Sl} {m : MS} : (SR.exc c xs τ).then m = .exc c xs τ := rfl
@[simp] theorem SR.then_fail {m : MS} : SR.fail.then m = .fail := rfl

section
variable {L : Lay} {P : Pa} {W : WX} {X : Cx} {e : Expr} {pos : Pos} {m : M D} {st : Stmt} {rest : List Stmt} {ms ns : MS}
theorem Post.sta {α β : Type} {R : Hp → α → β → Prop} {H : Hp} {σ : L2.St} {τ : List Sl} {r : Res α} {f : α → MS} {D : Ends} (h : SPost L P W H σ τ (r.st f) D) :
    Post L P R H σ τ r (fun v H1 => ∃ a τ1, Tr H (Own σ τ) H1 (Own σ τ1) ∧ StR L P H1 σ τ1 ∧ R (hid H1 (Hd P σ τ1)) a v ∧ SPost L P W H1 σ τ1 (f a τ1) D) (WE W σ) := by
  cases r with
  | ok a τ' => exact fun v H' x y z => ⟨a, τ', x, y, z, SPost.from h x⟩
  | exc c xs τ' => exact fun cls od H' x y z => h cls od σ H' x y z
  | fail => exact h
def mNx : MS := fun τ => .nx τ
theorem sS_nil : SSs L P W X [] mNx := PSs.weak pss_nil fun D σ H ⟨τ, R, h⟩ => h σ H .refl R
def mSeq (a b : MS) : MS := fun τ => (a τ).then b
theorem SPost.then {H : Hp} {σ : L2.St} {τ : List Sl} {r : SR} {D : Ends} (h : SPost L P W H σ τ (r.then ns) D) : SPost L P W H σ τ r { D with nx := tS L P W ns D } := by
  cases r with
  | nx τ' => exact fun σ' H' x y => ⟨τ', y, SPost.from h x⟩
  | _ => exact h
theorem sS_cons (h1 : SS L P W X st ms) (h2 : SSs L P W X rest ns) : SSs L P W X (st :: rest) (mSeq ms ns) :=
  PSs.weak (pss_cons h1 h2) fun D σ H ⟨τ, R, h⟩ => ⟨τ, R, h.then⟩
theorem sS_one (h1 : SS L P W X st ms) : SSs L P W X [st] ms := pss_one h1
def mBk : MS := fun τ => .bk τ
def mCt : MS := fun τ => .ct τ
def mRet (m : M D) : MS := fun τ => (m τ).st fun d τ => .rt d τ
theorem sS_ret (he : SE L P (WE W) X e m) : SS L P W X (.Return (some e) pos) (mRet m) :=
  PS.weak (ps_ret he) fun D σ H ⟨τ, R, h⟩ => ⟨τ, R, (Post.sta (R := RV L) h).imp fun v H1 ⟨d, τ1, t1, R1, r1, h1⟩ => h1 v σ H1 .refl R1 r1⟩
def mRetN : MS := fun τ => .rt .non τ
def mIfS (c : M Bool) (a b : MS) : MS := fun τ => (c τ).st fun k τ => if k = true then a τ else b τ
theorem sS_if {c : Expr} {a b : List Stmt} {mc : M Bool} (hc : ST L P (WE W) X c mc) (ha : SSs L P W X a ms) (hb : SSs L P W X b ns) : SS L P W X (.If c a b pos) (mIfS mc ms ns) :=
  PS.weak (ps_if hc ha hb) fun D σ H ⟨τ, R, h⟩ => by
    refine ⟨τ, R, (Post.sta (R := RB) h).imp fun k H1 ⟨k', τ1, t1, R1, r1, h1⟩ => ?_⟩
    cases r1
    cases k with
    | true => exact (if_pos rfl).mpr ⟨τ1, R1, h1⟩
    | false => exact (if_neg Bool.false_ne_true).mpr ⟨τ1, R1, h1⟩
def mDrop (m : M D) : MS := fun τ => (m τ).st fun _ τ => .nx τ
def Sl.free : Sl → Bool
  | .io _ _ => false
  | .le _ => false
  | _ => true
def setFz (i : Nat) (d : D) (τ : List Sl) : Option (List Sl) :=
  match τ[i]? with
  | some t => if t.free = true then some (τ.set i (.fz d)) else none
  | none => none
def setOw (i : Nat) (d : D) (τ : List Sl) : Option (List Sl) :=
  match τ[i]? with
  | some t => if t.free = true then some (τ.set i (.ow d)) else none
  | none => none
theorem setFz_some {i : Nat} {d : D} {τ τ' : List Sl} (h : setFz i d τ = some τ') : i < τ.length ∧ τ' = τ.set i (.fz d) := by
  unfold setFz at h
  split at h
  · rename_i t e
    split at h
    · cases h; exact ⟨(List.getElem?_eq_some_iff.mp e).1, rfl⟩
    · cases h
  · cases h
theorem setOw_some {i : Nat} {d : D} {τ τ' : List Sl} (h : setOw i d τ = some τ') : i < τ.length ∧ τ' = τ.set i (.ow d) := by
  unfold setOw at h
  split at h
  · rename_i t e
    split at h
    · cases h; exact ⟨(List.getElem?_eq_some_iff.mp e).1, rfl⟩
    · cases h
  · cases h
theorem StR.setFz {H : Hp} {σ : L2.St} {τ : List Sl} {i : Nat} {d : D} {v : V} (R : StR L P H σ τ) (hi : i < τ.length) (r : Rp L (hid H (Hd P σ τ)) d v) :
    Tr H (Own σ τ) H (Own (σ.set i (some v)) (τ.set i (.fz d))) ∧ StR L P H (σ.set i (some v)) (τ.set i (.fz d)) := by
  have hi' : i < σ.length := by rw [R.len]; exact hi
  have sub : ∀ j a, OwnAt (σ.set i (some v)) (τ.set i (.fz d)) j a → OwnAt σ τ j a := fun j a ⟨e, t, et, ow⟩ => by
    by_cases hj : i = j
    · subst hj
      rw [List.getElem?_set_self hi] at et
      cases et
      cases ow
    · rw [List.getElem?_set_ne hj] at et e
      exact ⟨e, t, et, ow⟩
  have tr : Tr H (Own σ τ) H (Own (σ.set i (some v)) (τ.set i (.fz d))) := ⟨fun _ _ q _ => q, fun a ⟨j, q⟩ => .inl ⟨j, sub j a q⟩, fun _ o h => ⟨o, h⟩⟩
  refine ⟨tr, by rw [List.length_set, List.length_set]; exact R.len, fun j k b x y => R.inj j k b (sub j b x) (sub k b y), fun b ⟨j, q⟩ => R.dis b ⟨j, sub j b q⟩, R.bth0, fun j t ht => ?_⟩
  by_cases hj : i = j
  · subst hj
    rw [List.getElem?_set_self hi] at ht
    cases ht
    exact ⟨v, List.getElem?_set_self hi', r.same (R.fz tr)⟩
  · rw [List.getElem?_set_ne hj] at ht
    rw [List.getElem?_set_ne hj]
    have q := R.sl j t ht
    cases t with
    | un => trivial
    | fz d' => obtain ⟨v, e2, r2⟩ := q; exact ⟨v, e2, r2.same (R.fz tr)⟩
    | ow d' => obtain ⟨b, e2, r2⟩ := q; exact ⟨b, e2, r2.step (R.fz tr) rfl⟩
    | le d' => obtain ⟨b, e2, r2⟩ := q; exact ⟨b, e2, r2.step (R.fz tr) rfl⟩
    | io k d' => obtain ⟨b, e2, e3, r2⟩ := q; exact ⟨b, e2, e3, r2.step (R.fz tr) rfl⟩
    | oo d' => obtain ⟨b, e2, r2⟩ := q; exact ⟨b, e2, r2.step (R.fz tr) rfl⟩
theorem StR.setOw {H' : Hp} {σ : L2.St} {τ : List Sl} {i : Nat} {d : D} {a : Addr} (R : StR L P (rid H' a) σ τ) (hi : i < τ.length) (r : OwR L (hid (rid H' a) (Hd P σ τ)) H' d a) :
    Tr (rid H' a) (Own σ τ) H' (Own (σ.set i (some (.ref a))) (τ.set i (.ow d))) ∧ StR L P H' (σ.set i (some (.ref a))) (τ.set i (.ow d)) := by
  have hi' : i < σ.length := by rw [R.len]; exact hi
  have old : ∀ j b, j ≠ i → OwnAt (σ.set i (some (.ref a))) (τ.set i (.ow d)) j b → OwnAt σ τ j b := fun j b hj ⟨e, t, et, ow⟩ => by
    rw [List.getElem?_set_ne (Ne.symm hj)] at et e
    exact ⟨e, t, et, ow⟩
  have new : ∀ b, OwnAt (σ.set i (some (.ref a))) (τ.set i (.ow d)) i b → b = a := fun b ⟨e, _⟩ => by
    rw [List.getElem?_set_self hi'] at e
    cases e; rfl
  have notA : ∀ j b, OwnAt σ τ j b → b ≠ a := fun j b q z => by
    obtain ⟨o, h⟩ := R.own_there ⟨j, q⟩
    rw [z, rid_same] at h; cases h
  have tr : Tr (rid H' a) (Own σ τ) H' (Own (σ.set i (some (.ref a))) (τ.set i (.ow d))) := by
    refine ⟨fun b o q _ => rid_le b o q, fun b ⟨j, q⟩ => ?_, fun b o q => ⟨o, rid_le b o q⟩⟩
    by_cases hj : j = i
    · subst hj; rw [new b q]; exact .inr rid_same
    · exact .inl ⟨j, old j b hj q⟩
  refine ⟨tr, by rw [List.length_set, List.length_set]; exact R.len, fun j k b x y => ?_, fun b ⟨j, q⟩ z => ?_, fun b z => let ⟨o, q, m⟩ := R.bth0 b z; ⟨o, rid_le b o q, m⟩, fun j t ht => ?_⟩
  · by_cases hj : j = i
    · by_cases hk : k = i
      · rw [hj, hk]
      · subst hj
        exact absurd (new b x) (notA k b (old k b hk y))
    · by_cases hk : k = i
      · subst hk
        exact absurd (new b y) (notA j b (old j b hj x))
      · exact R.inj j k b (old j b hj x) (old k b hk y)
  · by_cases hj : j = i
    · subst hj
      rw [new b q] at z
      obtain ⟨o, h⟩ := R.bth a z
      rw [rid_same] at h; cases h
    · exact R.dis b ⟨j, old j b hj q⟩ z
  · by_cases hj : i = j
    · subst hj
      rw [List.getElem?_set_self hi] at ht
      cases ht
      exact ⟨a, List.getElem?_set_self hi', r.step (R.fz tr) rfl⟩
    · rw [List.getElem?_set_ne hj] at ht
      rw [List.getElem?_set_ne hj]
      have q := R.sl j t ht
      have st : ∀ {d' : Sm.D} {b : Addr}, OwR L (hid (rid H' a) (Hd P σ τ)) (rid H' a) d' b → OwR L (hid H' (Hd P (σ.set i (some (.ref a))) (τ.set i (.ow d)))) H' d' b := fun {d' b} q => by
        obtain ⟨o, ho⟩ := q.there
        exact q.step (R.fz tr) (by rw [ho]; exact rid_le b o ho)
      have stx : ∀ {d' : Sm.D} {b : Addr}, OwX L (hid (rid H' a) (Hd P σ τ)) (rid H' a) d' b → OwX L (hid H' (Hd P (σ.set i (some (.ref a))) (τ.set i (.ow d)))) H' d' b := fun {d' b} q => by
        obtain ⟨o, ho⟩ := q.there
        exact q.step (R.fz tr) (by rw [ho]; exact rid_le b o ho) (fun b z => mk_rid z)
      cases t with
      | un => trivial
      | fz d' => obtain ⟨v, e2, r2⟩ := q; exact ⟨v, e2, r2.same (R.fz tr)⟩
      | ow d' => obtain ⟨b, e2, r2⟩ := q; exact ⟨b, e2, st r2⟩
      | le d' => obtain ⟨b, e2, r2⟩ := q; exact ⟨b, e2, st r2⟩
      | io k d' => obtain ⟨b, e2, e3, r2⟩ := q; exact ⟨b, e2, e3, stx r2⟩
      | oo d' => obtain ⟨b, e2, r2⟩ := q; exact ⟨b, e2, stx r2⟩

def SR.opt (o : Option (List Sl)) : SR :=
  match o with
  | some τ => .nx τ
  | none => .fail
@[simp] theorem SR.opt_some {τ : List Sl} : SR.opt (some τ) = .nx τ := rfl
@[simp] theorem SR.opt_none : SR.opt none = .fail := rfl
theorem SPost.opt {H : Hp} {σ : L2.St} {τ : List Sl} {o : Option (List Sl)} {D : Ends} (h : SPost L P W H σ τ (SR.opt o) D) : ∃ τ', o = some τ' ∧ ∀ σ' H', Tr H (Own σ τ) H' (Own σ' τ') → StR L P H' σ' τ' → D.nx σ' H' := by
  cases o with
  | none => exact h.elim
  | some τ' => exact ⟨τ', rfl, h⟩
def mSet (i : Nat) (m : M D) : MS := fun τ => (m τ).st fun d τ => SR.opt (setFz i d τ)
theorem sS_set {i : Nat} {x : Str} {pos' : Pos} (hN : X.N.Nodup) (hi : X.N[i]? = some x) (hx : Loc X.env.scope x) (he : SE L P (WE W) X e m) (hs : swapsWith e (some (.Name x pos')) pos.line X.env = pure false := by rfl) (hf : X.fn x = true ∨ X.env.scope.names.lookup x = some .local := by first | exact .inl rfl | exact .inr rfl | assumption) :
    SS L P W X (.Assign [.Name x pos'] e pos) (mSet i m) :=
  PS.weak (ps_set hN hi hx he hs hf) fun D σ H ⟨τ, R, h⟩ => by
    refine ⟨τ, R, (Post.sta (R := RV L) h).imp fun v H1 ⟨d, τ1, t1, R1, r1, h1⟩ => ?_⟩
    obtain ⟨τ', e, q⟩ := h1.opt
    obtain ⟨hi, rfl⟩ := setFz_some e
    obtain ⟨tr, R2⟩ := R1.setFz hi r1
    exact q _ H1 tr R2

def PostF (L : Lay) (P : Pa) (H : Hp) (σ : L2.St) (τ : List Sl) (r : Res D) (Q : VK) (E : XK) : Prop :=
  match r with
  | .ok d τ' => ∀ a H', Tr H (Own σ τ) (rid H' a) (Own σ τ') → StR L P (rid H' a) σ τ' → OwR L (hid (rid H' a) (Hd P σ τ')) H' d a → Q (.ref a) H'
  | .exc c xs τ' => ∀ cls od H', Tr H (Own σ τ) H' (Own σ τ') → StR L P H' σ τ' → ExR L (hid H' (Hd P σ τ')) c xs cls od → E cls od H'
  | .fail => False
def tF (L : Lay) (P : Pa) (E : L2.St → XK) (m : M D) : TE := fun σ H Q => ∃ τ, StR L P H σ τ ∧ PostF L P H σ τ (m τ) Q (E σ)
abbrev SF (L : Lay) (P : Pa) (E : L2.St → XK) (X : Cx) (e : Expr) (m : M D) : Prop := PE X e (tF L P E m)
theorem fresh_rp {H' : Hp} {σ : L2.St} {τ : List Sl} {d : D} {a : Addr} (R : StR L P (rid H' a) σ τ) (r : OwR L (hid (rid H' a) (Hd P σ τ)) H' d a) : Rp L (hid H' (Hd P σ τ)) d (.ref a) := by
  have na : ¬ Hd P σ τ a := fun z => by
    obtain ⟨o, h⟩ := R.hd_there z
    rw [rid_same] at h; cases h
  cases d with
  | lst ds =>
    obtain ⟨vs, h, rr⟩ := r
    exact Rp.lst_iff.mpr ⟨a, vs, rfl, hid_some.mpr ⟨h, na, by first | assumption | exact NoMk.no⟩, Rps.same (hid_mono rid_le fun _ z => z) rr⟩
  | dct ks us =>
    obtain ⟨es, h, rr⟩ := r
    exact Rp.dct_iff.mpr ⟨a, es, rfl, h.mono fun o z => hid_some.mpr ⟨z, na, by first | assumption | exact NoMk.no⟩, rr.same (hid_mono rid_le fun _ z => z)⟩
  | dki ks us =>
    obtain ⟨es, h, e2, rr⟩ := r
    exact Rp.dki_iff.mpr ⟨a, es, rfl, h.mono fun o z => hid_some.mpr ⟨z, na, by first | assumption | exact NoMk.no⟩, e2, Rps.same (hid_mono rid_le fun _ z => z) rr⟩
  | _ => exact r.elim
theorem SE.of {E : L2.St → XK} (h : SF L P E X e m) : SE L P E X e m :=
  PE.weak h fun σ H Q ⟨τ, R, h⟩ => by
    refine ⟨τ, R, ?_⟩
    revert h
    cases m τ with
    | ok d τ' => exact fun h a H' t R' o => h (.ref a) H' (t.trans (.of rid_le)) (R'.same rid_le) (fresh_rp R' o)
    | exc c xs τ' => exact fun h => h
    | fail => exact fun h => h
theorem tLst_fresh {es : List Expr} {E : L2.St → XK} {k : M (List D)} (h : SA L P E X es k) : SF L P E X (.List es pos) (mLst k) :=
  PE.weak (pe_lst h) fun σ H Q ⟨τ, R, h⟩ => by
    have h : PostF L P H σ τ ((k τ).bind fun xs τ => Res.lift ((small xs).map D.lst) τ) Q (E σ) := h
    refine ⟨τ, R, ?_⟩
    revert h
    cases k τ with
    | ok ds τ1 =>
      intro h vs H1 t1 R1 r1
      cases e : small ds with
      | none => rw [Res.bind_ok, e] at h; exact h.elim
      | some ds' =>
        rw [Res.bind_ok, e] at h
        obtain ⟨rfl, hz⟩ := small_some e
        refine ⟨by rw [r1.length]; exact hz, fun p hp => h p _ ?_ ?_ ?_⟩
        · rw [rid_upd hp]; exact t1
        · rw [rid_upd hp]; exact R1
        · rw [rid_upd hp]; exact ⟨vs, upd_same, r1⟩
    | exc c xs τ' => exact fun h => h
    | fail => exact fun h => h
def mSetO (i : Nat) (m : M D) : MS := fun τ => (m τ).st fun d τ => SR.opt (setOw i d τ)
theorem sS_setO {i : Nat} {x : Str} {pos' : Pos} (hN : X.N.Nodup) (hi : X.N[i]? = some x) (hx : Loc X.env.scope x) (he : SF L P (WE W) X e m) (hs : swapsWith e (some (.Name x pos')) pos.line X.env = pure false := by rfl) (hf : X.fn x = true ∨ X.env.scope.names.lookup x = some .local := by first | exact .inl rfl | exact .inr rfl | assumption) :
    SS L P W X (.Assign [.Name x pos'] e pos) (mSetO i m) :=
  PS.weak (ps_set hN hi hx he hs hf) fun D σ H ⟨τ, R, h⟩ => by
    refine ⟨τ, R, ?_⟩
    have h : SPost L P W H σ τ ((m τ).st fun d τ => SR.opt (setOw i d τ)) D := h
    revert h
    cases m τ with
    | ok d τ1 =>
      intro h a H1 t1 R1 r1
      obtain ⟨τ', e, q⟩ := SPost.opt h
      obtain ⟨hi, rfl⟩ := setOw_some e
      obtain ⟨tr, R2⟩ := R1.setOw hi r1
      exact q _ H1 (t1.trans tr) R2
    | exc c xs τ' => exact fun h cls od H' x y z => h cls od σ H' x y z
    | fail => exact fun h => h
def mRetO (m : M D) : MS := fun τ => (m τ).st fun d τ => .ro d τ
theorem sS_retO (he : SF L P (WE W) X e m) : SS L P W X (.Return (some e) pos) (mRetO m) :=
  PS.weak (ps_ret he) fun D σ H ⟨τ, R, h⟩ => by
    refine ⟨τ, R, ?_⟩
    have h : SPost L P W H σ τ ((m τ).st fun d τ => .ro d τ) D := h
    revert h
    cases m τ with
    | ok d τ1 => exact fun h a H1 t1 R1 r1 => h a σ H1 (.of t1) R1 r1.x
    | exc c xs τ' => exact fun h cls od H' x y z => h cls od σ H' x y z
    | fail => exact fun h => h

theorem StR.give {L : Lay} {P : Pa} {H : Hp} {σ : L2.St} {τ : List Sl} {i : Nat} {d : D} (R : StR L P H σ τ) (h : τ[i]? = some (.ow d) ∨ τ[i]? = some (.oo d)) :
    ∃ a, σ[i]? = some (some (.ref a)) ∧ TrO H (Own σ τ) H (Own σ (τ.set i .un)) a ∧ StR L P (rid H a) σ (τ.set i .un) ∧ OwX L (hid (rid H a) (Hd P σ (τ.set i .un))) H d a := by
  obtain ⟨t0, h, ow0, r0⟩ : ∃ t, τ[i]? = some t ∧ t.own = true ∧ ∃ a, σ[i]? = some (some (.ref a)) ∧ OwX L (hid H (Hd P σ τ)) H d a := by
    rcases h with h | h
    · obtain ⟨a, e, r⟩ := R.sl i _ h
      exact ⟨_, h, rfl, a, e, r.x⟩
    · obtain ⟨a, e, r⟩ := R.sl i _ h
      exact ⟨_, h, rfl, a, e, r⟩
  have hi : i < τ.length := (List.getElem?_eq_some_iff.mp h).1
  have sub : ∀ j a, OwnAt σ (τ.set i .un) j a → OwnAt σ τ j a ∧ j ≠ i := fun j a ⟨e, t, et, ow⟩ => by
    by_cases hj : i = j
    · subst hj
      rw [List.getElem?_set_self hi] at et
      cases et
      cases ow
    · rw [List.getElem?_set_ne hj] at et
      exact ⟨⟨e, t, et, ow⟩, fun z => hj z.symm⟩
  obtain ⟨a, e1, r⟩ := r0
  have oa : OwnAt σ τ i a := ⟨e1, _, h, ow0⟩
  have mono : Same (hid H (Hd P σ τ)) (hid (rid H a) (Hd P σ (τ.set i .un))) := fun b o q => by
    obtain ⟨q1, q2, nk_q2⟩ := hid_some.mp q
    have nb : b ≠ a := fun z => q2 (.inl ⟨i, by rw [z]; exact oa⟩)
    refine hid_some.mpr ⟨by rw [rid_ne nb]; exact q1, fun z => q2 ?_, by first | assumption | exact NoMk.no⟩
    rcases z with ⟨j, z⟩ | z
    · exact .inl ⟨j, (sub j b z).1⟩
    · exact .inr z
  have far : ∀ j b, OwnAt σ (τ.set i .un) j b → b ≠ a := fun j b z e => by
    obtain ⟨z1, z2⟩ := sub j b z
    rw [e] at z1
    exact z2 (R.inj j i a z1 oa)
  refine ⟨a, e1, ⟨fun b o q n => ?_, fun b ⟨j, q⟩ => .inl ⟨j, (sub j b q).1⟩, fun b o n q => ⟨o, by rw [rid_ne n]; exact q⟩, .inl ⟨i, oa⟩⟩,
    ⟨by rw [List.length_set]; exact R.len, fun j k b x y => R.inj j k b (sub j b x).1 (sub k b y).1, fun b ⟨j, q⟩ => R.dis b ⟨j, (sub j b q).1⟩, fun b hb => ?_, fun j t ht => ?_⟩, r.step mono rfl⟩
  · rw [rid_ne fun z => n (.inl ⟨i, by rw [z]; exact oa⟩)]; exact q
  · obtain ⟨o, q, m⟩ := R.bth0 b hb
    exact ⟨o, by rw [rid_ne fun z => R.dis a ⟨i, oa⟩ (by rw [← z]; exact hb)]; exact q, m⟩
  · by_cases hj : i = j
    · subst hj
      rw [List.getElem?_set_self hi] at ht
      cases ht
      trivial
    · have ht2 := ht
      rw [List.getElem?_set_ne hj] at ht
      have q := R.sl j t ht
      cases t with
      | un => trivial
      | fz d' => obtain ⟨v, e2, r2⟩ := q; exact ⟨v, e2, r2.same mono⟩
      | ow d' => obtain ⟨b, e2, r2⟩ := q; exact ⟨b, e2, r2.step mono (rid_ne (far j b ⟨e2, _, ht2, rfl⟩))⟩
      | le d' => obtain ⟨b, e2, r2⟩ := q; exact ⟨b, e2, r2.step mono (rid_ne (far j b ⟨e2, _, ht2, rfl⟩))⟩
      | io k d' => obtain ⟨b, e2, e3, r2⟩ := q; exact ⟨b, e2, e3, r2.step mono (rid_ne (far j b ⟨e2, _, ht2, rfl⟩)) fun b z => rid_mk r.noMk z⟩
      | oo d' => obtain ⟨b, e2, r2⟩ := q; exact ⟨b, e2, r2.step mono (rid_ne (far j b ⟨e2, _, ht2, rfl⟩)) fun b z => rid_mk r.noMk z⟩
abbrev MG := D → List Sl → Option (List Sl)
def tG (L : Lay) (P : Pa) (g : MG) : TG := fun v σ H Q => ∃ τ d τ', StR L P H σ τ ∧ Rp L (hid H (Hd P σ τ)) d v ∧ g d τ = some τ' ∧ ∀ σ' H', Tr H (Own σ τ) H' (Own σ' τ') → StR L P H' σ' τ' → Q σ' H'
abbrev SG (L : Lay) (P : Pa) (X : Cx) (tg : Expr) (g : MG) : Prop := PG X tg (tG L P g)
def gN (i : Nat) : MG := fun d τ => setFz i d τ
theorem sG_name {i : Nat} {x : Str} (hN : X.N.Nodup) (hi : X.N[i]? = some x) (hx : Loc X.env.scope x) (hf : X.fn x = true ∨ X.env.scope.names.lookup x = some .local := by first | exact .inl rfl | exact .inr rfl | assumption) : SG L P X (.Name x pos) (gN i) :=
  PG.weak (pg_name hN hi hx hf) fun v σ H Q ⟨τ, d, τ', R, r, e, q⟩ => by
    obtain ⟨hi, rfl⟩ := setFz_some e
    obtain ⟨tr, R2⟩ := R.setFz hi r
    exact q _ H tr R2
abbrev MGs := List D → List Sl → Option (List Sl)
def tGs (L : Lay) (P : Pa) (g : MGs) : TGs := fun vs σ H Q => ∃ τ ds τ', StR L P H σ τ ∧ Rps L (hid H (Hd P σ τ)) ds vs ∧ g ds τ = some τ' ∧ ∀ σ' H', Tr H (Own σ τ) H' (Own σ' τ') → StR L P H' σ' τ' → Q σ' H'
abbrev SGs (L : Lay) (P : Pa) (X : Cx) (tg : List Expr) (g : MGs) : Prop := PGs X tg (tGs L P g)
def gNil : MGs := fun ds τ =>
  match ds with
  | [] => some τ
  | _ => none
def gCons (g : MG) (gs : MGs) : MGs := fun ds τ =>
  match ds with
  | d :: r => (g d τ).bind (gs r)
  | [] => none
theorem PGs.weak {X : Cx} {e : List Expr} {t u : TGs} (h : PGs X e t) (f : ∀ v σ H Q, u v σ H Q → t v σ H Q) : PGs X e u := ⟨fun pins s σ H v w Q I r q => h.run pins s σ H v w Q I r (f v σ H Q q)⟩
theorem sGs_nil : SGs L P X [] Sm.gNil :=
  PGs.weak pgs_nil fun vs σ H Q ⟨τ, ds, τ', R, r, e, q⟩ => by
    cases ds with
    | nil => cases e; unfold Rps at r; exact ⟨r, q σ H .refl R⟩
    | cons d r => cases e
theorem sGs_cons {e : Expr} {es : List Expr} {g : MG} {gs : MGs} (h1 : SG L P X e g) (h2 : SGs L P X es gs) (hs : (assignEach (e :: es) X.env).map (·.2) = assign e X.env :: (assignEach es X.env).map (·.2) := by rfl) : SGs L P X (e :: es) (Sm.gCons g gs) :=
  PGs.weak (pgs_cons h1 h2 hs) fun vs σ H Q ⟨τ, ds, τ', R, r, e, q⟩ => by
    cases ds with
    | nil => cases e
    | cons d ds =>
      unfold Rps at r
      obtain ⟨v, vr, rfl, rd, rr⟩ := r
      obtain ⟨τ1, e1, e2⟩ := Option.bind_eq_some_iff.mp e
      refine ⟨v, vr, rfl, τ, d, τ1, R, rd, e1, fun σ1 H1 t1 R1 => ?_⟩
      exact ⟨τ1, ds, τ', R1, Rps.same (R.fz t1) rr, e2, fun σ' H' t2 R2 => q σ' H' (t1.trans t2) R2⟩
def gT (n : Nat) (gs : MGs) : MG := fun d τ =>
  match d with
  | .tup ds => if ds.length = n then gs ds τ else none
  | .lst ds => if ds.length = n then gs ds τ else none
  | _ => none
theorem PG.or {X : Cx} {tg : Expr} {g g' : TG} (h : PG X tg g) (h' : PG X tg g') : PG X tg (fun v σ H Q => g v σ H Q ∨ g' v σ H Q) :=
  ⟨fun pins s σ H v w Q I r q => q.elim (fun q => h.run pins s σ H v w Q I r q) fun q => h'.run pins s σ H v w Q I r q⟩
theorem sG_tup {es : List Expr} {k : Nat} {gs : MGs} {n : Nat} (hK : X.K = L.K) (hc : X.calm = true) (h : SGs L P X es gs)
    (hn : (assignEach es X.env).length = n := by rfl) (hst : (assignEach es X.env).findIdx? (·.1) = none := by rfl) : SG L P X (.Tuple es k pos) (gT n gs) :=
  PG.weak (Sm.PG.or (pg_tup hc h hn hst) (pg_lst hc h hn hst)) fun v σ H Q ⟨τ, d, τ', R, r, e, q⟩ => by
    cases d with
    | tup ds =>
      obtain ⟨a, vs, rfl, s, rr⟩ := Rp.tup_iff.mp r
      have e : (if ds.length = n then gs ds τ else none) = some τ' := e
      by_cases hl : ds.length = n
      · rw [if_pos hl] at e
        refine .inl ⟨a, vs, rfl, by rw [hK]; exact SqT.same hid_le s, by rw [rr.length]; exact hl, τ, ds, τ', R, rr, e, q⟩
      · rw [if_neg hl] at e; cases e
    | lst ds =>
      obtain ⟨a, vs, rfl, s, rr⟩ := Rp.lst_iff.mp r
      have e : (if ds.length = n then gs ds τ else none) = some τ' := e
      by_cases hl : ds.length = n
      · rw [if_pos hl] at e
        refine .inr ⟨a, vs, rfl, .inl (.inl (hid_le _ _ s)), by rw [rr.length]; exact hl, τ, ds, τ', R, rr, e, q⟩
      · rw [if_neg hl] at e; cases e
    | _ => cases e
def mAsg (g : MG) (m : M D) : MS := fun τ => (m τ).st fun d τ => SR.opt (g d τ)
theorem sS_asg {tg : Expr} {g : MG} (he : SE L P (WE W) X e m) (hg : SG L P X tg g) (hs : swapsWithSole [tg] e pos.line X.env = pure false := by rfl) (hw : swappedStores [tg] e X.env = pure none := by rfl)
    (h1 : (assignEach [tg] X.env).map (·.2) = [assign tg X.env] := by rfl) : SS L P W X (.Assign [tg] e pos) (mAsg g m) :=
  PS.weak (ps_asg he hg hs hw h1) fun D σ H ⟨τ, R, h⟩ => by
    refine ⟨τ, R, (Post.sta (R := RV L) h).imp fun v H1 ⟨d, τ1, t1, R1, r1, h1⟩ => ?_⟩
    obtain ⟨τ', e, q⟩ := h1.opt
    exact ⟨τ1, d, τ', R1, r1, e, q⟩
def mPar (i j : Nat) (ma mb : M D) : MS := fun τ => (ma τ).st fun a τ => (mb τ).st fun b τ => SR.opt ((setFz i a τ).bind (setFz j b))
theorem sS_par {i j : Nat} {x y : Str} {a b : Expr} {ma mb : M D} {px py pt : Pos} {kt k2 pt2} (hc : X.calm = true) (hN : X.N.Nodup) (hi : X.N[i]? = some x) (hj : X.N[j]? = some y) (hij : i ≠ j)
    (hx : X.env.scope.names.lookup x = some .local) (hy : X.env.scope.names.lookup y = some .local) (ha : SE L P (WE W) X a ma) (hb : SE L P (WE W) X b mb)
    (hw : swappedStores [.Tuple [.Name x px, .Name y py] kt pt] (.Tuple [a, b] k2 pt2) X.env = pure (some [x, y]))
    (hs : swapsWithSole [.Tuple [.Name x px, .Name y py] kt pt] (.Tuple [a, b] k2 pt2) pos.line X.env = pure false := by rfl)
    (hs1 : starEach [a, b] X.env = (false, eval a X.env) :: starEach [b] X.env := by rfl) (hs2 : starEach [b] X.env = (false, eval b X.env) :: starEach [] X.env := by rfl) :
    SS L P W X (.Assign [.Tuple [.Name x px, .Name y py] kt pt] (.Tuple [a, b] k2 pt2) pos) (mPar i j ma mb) :=
  PS.weak (ps_par hc hN hi hj hij hx hy (pa_cons ha (pa_cons hb pa_nil hs2) hs1) hw hs) fun D σ H ⟨τ, R, h⟩ => by
    refine ⟨τ, R, (Post.sta (R := RV L) h).imp fun v H1 ⟨d, τ1, t1, R1, r1, h1⟩ => ?_⟩
    refine ⟨τ1, R1, (Post.sta (R := RV L) h1).imp fun u H2 ⟨d2, τ2, t2, R2, r2, h2⟩ => ?_⟩
    obtain ⟨τ', e, q⟩ := h2.opt
    obtain ⟨τ3, e1, e2⟩ := Option.bind_eq_some_iff.mp e
    obtain ⟨hi, rfl⟩ := setFz_some e1
    obtain ⟨tr, R3⟩ := R2.setFz hi (r1.same (R1.fz t2))
    obtain ⟨hj, rfl⟩ := setFz_some e2
    obtain ⟨tr2, R4⟩ := R3.setFz hj (r2.same (R2.fz tr))
    exact ⟨v, u, rfl, q _ H2 (tr.trans tr2) R4⟩

def ItR (L : Lay) (J : It) (G : Hp → (Addr → Prop) → Prop) (ds : List D) : Prop :=
  ∀ (i : Nat) (H : Hp) (A : Addr → Prop), G H A → Th H A →
    (∀ d, ds[i]? = some d → J.go i H ∧ ∀ x H', J.yld i H x H' → Same H H' ∧ Rp L (hid H' A) d x) ∧ (ds[i]? = none → J.stop i H)
def tI (L : Lay) (P : Pa) (E : L2.St → XK) (m : M (List D)) : TI := fun σ H R => ∃ τ, StR L P H σ τ ∧
  match m τ with
  | .ok ds τ' => ∀ J H', Tr H (Own σ τ) H' (Own σ τ') → StR L P H' σ τ' → ItR L J (fun H2 A2 => Same (hid H' (Hd P σ τ')) (hid H2 A2)) ds → R J H'
  | .exc c xs τ' => ∀ cls od H', Tr H (Own σ τ) H' (Own σ τ') → StR L P H' σ τ' → ExR L (hid H' (Hd P σ τ')) c xs cls od → E σ cls od H'
  | .fail => False
abbrev SI (L : Lay) (P : Pa) (E : L2.St → XK) (X : Cx) (tg iter : Expr) (m : M (List D)) : Prop := PI X tg iter (tI L P E m)
theorem PI.weak {tg iter : Expr} {t u : TI} (h : PI X tg iter t) (f : ∀ σ H R, u σ H R → t σ H R) : PI X tg iter u := ⟨fun pins s σ H R I q => h.run pins s σ H R I (f σ H R q)⟩
def asL : D → Option (List D)
  | .lst ds => some ds
  | _ => none
def asT : D → Option (List D)
  | .tup ds => some ds
  | _ => none
@[simp] theorem asL_lst {ds : List D} : asL (.lst ds) = some ds := rfl
@[simp] theorem asT_tup {ds : List D} : asT (.tup ds) = some ds := rfl
def mOn {α β : Type} (f : α → Option β) (m : M α) : M β := fun τ => (m τ).bind fun d => fun τ => Res.lift (f d) τ
theorem itl_ok {a : Addr} {vs : List V} {ds : List D} {F : Hp} (s : F a = some (.lst vs)) (r : Rps L F ds vs) : ItR L (Itl L.K a) (fun H2 A2 => Same F (hid H2 A2)) ds := by
  intro i H A g hA
  have s2 : SqL L.K H a vs := .inl (.inl ((g.trans hid_le) _ _ s))
  refine ⟨fun d e => ?_, fun e => ⟨vs, s2, ?_⟩⟩
  · obtain ⟨v, hv, rv⟩ := r.get e
    refine ⟨⟨vs, v, s2, hv⟩, fun x H' y => ?_⟩
    obtain ⟨rfl, y⟩ := y
    have e2 : v = x := Option.some.inj (hv.symm.trans (y vs s2))
    subst e2
    exact ⟨.refl _, rv.same g⟩
  · rw [r.length]
    exact List.getElem?_eq_none_iff.mp e
theorem itt_ok {a : Addr} {vs : List V} {ds : List D} {F : Hp} (s : SqT L.K F a vs) (r : Rps L F ds vs) : ItR L (Itt L.K a) (fun H2 A2 => Same F (hid H2 A2)) ds := by
  intro i H A g hA
  have s2 : SqT L.K H a vs := SqT.same (g.trans hid_le) s
  refine ⟨fun d e => ?_, fun e => ⟨vs, s2, ?_⟩⟩
  · obtain ⟨v, hv, rv⟩ := r.get e
    refine ⟨⟨vs, v, s2, hv⟩, fun x H' y => ?_⟩
    obtain ⟨rfl, y⟩ := y
    have e2 : v = x := Option.some.inj (hv.symm.trans (y vs s2))
    subst e2
    exact ⟨.refl _, rv.same g⟩
  · rw [r.length]
    exact List.getElem?_eq_none_iff.mp e
theorem tI_on {E : L2.St → XK} {f : D → Option (List D)} {R : It → Hp → Prop} {σ : L2.St} {H : Hp} (h : tI L P E (mOn f m) σ H R) :
    ∃ τ, StR L P H σ τ ∧ Post L P (RV L) H σ τ (m τ) (fun v H1 => ∃ d ds τ1, StR L P H1 σ τ1 ∧ Rp L (hid H1 (Hd P σ τ1)) d v ∧ f d = some ds ∧
      ∀ J H', Tr H1 (Own σ τ1) H' (Own σ τ1) → StR L P H' σ τ1 → ItR L J (fun H2 A2 => Same (hid H' (Hd P σ τ1)) (hid H2 A2)) ds → R J H') (E σ) := by
  obtain ⟨τ, R0, h⟩ := h
  refine ⟨τ, R0, ?_⟩
  revert h
  show (match (m τ).bind fun d => fun τ => Res.lift (f d) τ with | .ok ds τ' => _ | .exc c xs τ' => _ | .fail => _) → _
  cases m τ with
  | ok d τ1 =>
    intro h v H1 t1 R1 r1
    rw [Res.bind_ok] at h
    cases e : f d with
    | none => rw [e] at h; exact h.elim
    | some ds =>
      rw [e] at h
      exact ⟨d, ds, τ1, R1, r1, e, fun J H' t R' it => h J H' (t1.trans t) R' it⟩
  | exc c xs τ' => exact fun h => h
  | fail => exact fun h => h
def upFrom (lo : Int) : Nat → List D
  | 0 => []
  | n + 1 => .int lo :: upFrom (lo + 1) n
theorem upFrom_get : ∀ (n : Nat) (lo : Int) (i : Nat), (upFrom lo n)[i]? = if i < n then some (.int (lo + i)) else none
  | 0, lo, i => by simp [upFrom]
  | n + 1, lo, 0 => by simp [upFrom]
  | n + 1, lo, i + 1 => by
    show (upFrom (lo + 1) n)[i]? = _
    rw [upFrom_get n (lo + 1) i]
    by_cases h : i < n
    · rw [if_pos h, if_pos (by omega)]
      congr 2
      omega
    · rw [if_neg h, if_neg (by omega)]
theorem itr_ok {lo : Int} {n : Nat} {G : Hp → (Addr → Prop) → Prop} : ItR L (Itr lo n) G (upFrom lo n) := by
  intro i H A g hA
  rw [upFrom_get]
  by_cases h : i < n
  · rw [if_pos h]
    refine ⟨fun d e => ⟨h, fun x H' y => ?_⟩, fun e => (by cases e)⟩
    obtain ⟨rfl, rfl⟩ := y
    cases e
    exact ⟨.refl _, Rp.int_iff.mpr rfl⟩
  · rw [if_neg h]
    exact ⟨fun d e => (by cases e), fun _ => (show n ≤ i by omega)⟩
def rng1 : List D → Option (List D)
  | [.int n] => if n < 16000000 ∧ n.natAbs < 2 ^ 60 then some (upFrom 0 n.toNat) else none
  | _ => none
end
end Sm
set_option Elab.async false
set_option linter.all false
set_option maxRecDepth 100000
set_option maxHeartbeats 400000
namespace Sm
open PySem PySem.Spec PyProof.Rows L2

section
variable {L : Lay} {P : Pa} {W : WX} {X : Cx} {E : L2.St → XK}
theorem StR.upd1x {H H' : Hp} {σ : L2.St} {τ : List Sl} {i : Nat} {a : Addr} {t' : Sl} (R : StR L P H σ τ) (ha : OwnAt σ τ i a) (keep : ∀ b o, H b = some o → ¬ Foot H (fun x => x = a) b → H' b = some o) (there : ∀ b o, H b = some o → ∃ o', H' b = some o')
    (hn : t' = .un ∨ (t'.own = true ∧ (Tr H (Own σ τ) H' (Own σ (τ.set i t')) → SlR L P (hid H' (Hd P σ (τ.set i t'))) H' σ[i]? t'))) : Tr H (Own σ τ) H' (Own σ (τ.set i t')) ∧ StR L P H' σ (τ.set i t') := by
  have ks : ∀ b, ¬ MkBy (H a) b := fun b z => by
    obtain ⟨o, h1, h2⟩ := z.get
    exact R.own_noMk ⟨i, ha⟩ o h1 h2
  obtain ⟨e0, t0, et0, ow0⟩ := ha
  have hi : i < τ.length := (List.getElem?_eq_some_iff.mp et0).1
  have sub : ∀ j b, OwnAt σ (τ.set i t') j b → OwnAt σ τ j b := fun j b ⟨e, t, et, ow⟩ => by
    by_cases hj : i = j
    · subst hj
      rw [e0] at e
      cases e
      exact ⟨e0, t0, et0, ow0⟩
    · rw [List.getElem?_set_ne hj] at et
      exact ⟨e, t, et, ow⟩
  have tr : Tr H (Own σ τ) H' (Own σ (τ.set i t')) := by
    exact ⟨fun b o h n => keep b o h fun z => n (z.mono fun x e => by rw [e]; exact ⟨i, e0, t0, et0, ow0⟩), fun b ⟨j, q⟩ => .inl ⟨j, sub j b q⟩, there⟩
  refine ⟨tr, by rw [List.length_set]; exact R.len, fun j k b x y => R.inj j k b (sub j b x) (sub k b y), fun b ⟨j, q⟩ => R.dis b ⟨j, sub j b q⟩, fun b z => ?_, fun j t ht => ?_⟩
  · obtain ⟨o, q, m⟩ := R.bth0 b z
    exact ⟨o, tr.keep b o q (fun y => R.dis b y z), m⟩
  · by_cases hj : i = j
    · subst hj
      rw [List.getElem?_set_self hi] at ht
      cases ht
      rcases hn with rfl | ⟨_, q⟩
      · trivial
      · exact q tr
    · rw [List.getElem?_set_ne hj] at ht
      have q := R.sl j t ht
      have st : ∀ {d' : Sm.D} {b : Addr}, σ[j]? = some (some (.ref b)) → t.own = true → OwR L (hid H (Hd P σ τ)) H d' b → OwR L (hid H' (Hd P σ (τ.set i t'))) H' d' b := fun {d' b} e ow q => by
        obtain ⟨o, ho⟩ := q.there
        have hb : b ≠ a := fun z => hj (R.inj i j a ⟨e0, t0, et0, ow0⟩ ⟨by rw [← z]; exact e, t, ht, ow⟩)
        exact q.step (R.fz tr) (by rw [ho]; exact keep b o ho (foot_no ho hb (q.noMk o ho)))
      have stx : ∀ {d' : Sm.D} {b : Addr}, σ[j]? = some (some (.ref b)) → t.own = true → OwX L (hid H (Hd P σ τ)) H d' b → OwX L (hid H' (Hd P σ (τ.set i t'))) H' d' b := fun {d' b} e ow q => by
        obtain ⟨o, ho⟩ := q.there
        have hb : b ≠ a := fun z => hj (R.inj i j a ⟨e0, t0, et0, ow0⟩ ⟨by rw [← z]; exact e, t, ht, ow⟩)
        refine q.step (R.fz tr) (by rw [ho]; exact keep b o ho (foot_no ho hb (q.noMk o ho))) fun b' z => ?_
        obtain ⟨u, hu, _⟩ := z.get
        rw [hu]
        refine keep b' _ hu fun y => ?_
        rcases y with y | ⟨p, e, y | y⟩
        · exact ks b (by rw [← y]; exact z)
        · exact hb ((z.uniq e).trans y)
        · rw [z.uniq e] at ho; rw [ho] at y; cases y
      cases t with
      | un => trivial
      | fz d' => obtain ⟨v, e2, r2⟩ := q; exact ⟨v, e2, r2.same (R.fz tr)⟩
      | ow d' => obtain ⟨b, e2, r2⟩ := q; exact ⟨b, e2, st e2 rfl r2⟩
      | le d' => obtain ⟨b, e2, r2⟩ := q; exact ⟨b, e2, st e2 rfl r2⟩
      | io k d' => obtain ⟨b, e2, e3, r2⟩ := q; exact ⟨b, e2, e3, stx e2 rfl r2⟩
      | oo d' => obtain ⟨b, e2, r2⟩ := q; exact ⟨b, e2, stx e2 rfl r2⟩

theorem StR.upd1 {H H' : Hp} {σ : L2.St} {τ : List Sl} {i : Nat} {a : Addr} {t' : Sl} (R : StR L P H σ τ) (ha : OwnAt σ τ i a) (keep : ∀ b o, H b = some o → b ≠ a → H' b = some o) (there : ∃ o, H' a = some o)
    (hn : t' = .un ∨ (t'.own = true ∧ (Tr H (Own σ τ) H' (Own σ (τ.set i t')) → SlR L P (hid H' (Hd P σ (τ.set i t'))) H' σ[i]? t'))) : Tr H (Own σ τ) H' (Own σ (τ.set i t')) ∧ StR L P H' σ (τ.set i t') :=
  R.upd1x ha (fun b o h n => keep b o h fun z => n (.inl z)) (fun b o h => by
    by_cases hb : b = a
    · rw [hb]; exact there
    · exact ⟨o, keep b o h hb⟩) hn
inductive RF where
  | ok (d : D) (outs : List (Option D)) | own (d : D) | exc (c : Nat) (xs : List D) | fail
  /-- raised; what is left of the owned arguments -/
  | exo (c : Nat) (xs : List D) (outs : List (Option D))
def argS : Nat → List Bool → List D → List Sl
  | k, b :: io, d :: ds => (if b = true then .io k d else .fz d) :: argS (k + 1) io ds
  | _, _, _ => []
def outS : Nat → List (Option D) → List Sl
  | k, o :: os => (match o with | some d => .io k d | none => .un) :: outS (k + 1) os
  | _, [] => []
def outE (k : Nat) (b : Bool) (t : Option Sl) : Option D :=
  match t with
  | some (.io j d) => if b = true ∧ j = k then some d else none
  | _ => none
theorem outE_some {k : Nat} {b : Bool} {t : Option Sl} {d : D} (h : outE k b t = some d) : t = some (.io k d) := by
  unfold outE at h
  split at h
  · split at h
    · rename_i e
      cases h
      rw [e.2]
    · cases h
  · cases h
def outD : Nat → List Bool → List Sl → List (Option D)
  | k, b :: io, τ => outE k b τ[k]? :: outD (k + 1) io τ
  | _, [], _ => []
def mkF (n : Nat) (io : List Bool) (b : MS) : List D → RF := fun ds =>
  if ds.length = io.length then
    match b (argS 0 io ds ++ List.replicate (n - io.length) .un) with
    | .nx τ => .ok .non (outD 0 io τ)
    | .rt d τ => .ok d (outD 0 io τ)
    | .ro d _ => if io.any id = true then .fail else .own d
    | .exc c xs τ => if io.any id = true then .exo c xs (outD 0 io τ) else .exc c xs
    | _ => .fail
  else .fail
def FPost (L : Lay) (P : Pa) (H : Hp) (τ : List Sl) (r : RF) (Q : VK) (E : XK) : Prop :=
  match r with
  | .ok d outs => ∀ v H', Tr H (Own (P.args.map some) τ) H' (Own (P.args.map some) (outS 0 outs)) → StR L P H' (P.args.map some) (outS 0 outs) → Rp L (hid H' (Hd P (P.args.map some) (outS 0 outs))) d v → Q v H'
  | .own d => ∀ a H', Tr H (Own (P.args.map some) τ) (rid H' a) (fun _ => False) → OwX L (hid (rid H' a) P.B) H' d a → Q (.ref a) H'
  | .exc c xs => ∀ cls od H', Tr H (Own (P.args.map some) τ) H' (fun _ => False) → ExR L (hid H' P.B) c xs cls od → E cls od H'
  | .exo c xs outs => ∀ cls od H', Tr H (Own (P.args.map some) τ) H' (Own (P.args.map some) (outS 0 outs)) → StR L P H' (P.args.map some) (outS 0 outs) → ExR L (hid H' (Hd P (P.args.map some) (outS 0 outs))) c xs cls od → E cls od H'
  | .fail => False
def spF (L : Lay) (io : List Bool) (f : List D → RF) : Sp := fun vs H Q E => ∃ (ds : List D) (B : Addr → Prop), ds.length = io.length ∧ StR L ⟨vs, B⟩ H (vs.map some) (argS 0 io ds) ∧ FPost L ⟨vs, B⟩ H (argS 0 io ds) (f ds) Q E
theorem argS_own : ∀ (k : Nat) (io : List Bool) (ds : List D), io.any id = false → ∀ t ∈ argS k io ds, t.own = false
  | _, [], ds, _ => fun t ht => by cases ds <;> cases ht
  | _, _ :: _, [], _ => fun t ht => by cases ht
  | k, b :: io, d :: ds, h => fun t ht => by
    rw [List.any_cons, Bool.or_eq_false_iff] at h
    have hb : b = false := h.1
    subst hb
    rcases List.mem_cons.mp ht with rfl | ht
    · rfl
    · exact argS_own (k + 1) io ds h.2 t ht
theorem argS_length : ∀ (k : Nat) (io : List Bool) (ds : List D), ds.length = io.length → (argS k io ds).length = io.length
  | _, [], [], _ => rfl
  | k, b :: io, d :: ds, h => by
    show (argS (k + 1) io ds).length + 1 = io.length + 1
    rw [argS_length (k + 1) io ds (by simpa using h)]
  | _, [], _ :: _, h => by simp at h
  | _, _ :: _, [], h => by simp at h
theorem outS_length : ∀ (k : Nat) (os : List (Option D)), (outS k os).length = os.length
  | _, [] => rfl
  | k, o :: os => by
    show (outS (k + 1) os).length + 1 = os.length + 1
    rw [outS_length]
theorem outS_get : ∀ (k : Nat) (os : List (Option D)) (i : Nat), (outS k os)[i]? = (os[i]?).map fun o => match o with | some d => Sl.io (k + i) d | none => Sl.un
  | _, [], i => by simp [outS]
  | k, o :: os, 0 => by simp [outS]
  | k, o :: os, i + 1 => by
    show (outS (k + 1) os)[i]? = (os[i]?).map _
    rw [outS_get (k + 1) os i]
    have e : k + 1 + i = k + (i + 1) := by omega
    rw [e]
theorem outD_length : ∀ (k : Nat) (io : List Bool) (τ : List Sl), (outD k io τ).length = io.length
  | _, [], _ => rfl
  | k, b :: io, τ => by
    show (outD (k + 1) io τ).length + 1 = io.length + 1
    rw [outD_length]
theorem outD_get : ∀ (k : Nat) (io : List Bool) (τ : List Sl) (i : Nat) (d : D), (outD k io τ)[i]? = some (some d) → τ[k + i]? = some (.io (k + i) d)
  | _, [], _, i, d, h => by cases h
  | k, b :: io, τ, 0, d, h => by
    have h : some (outE k b τ[k]?) = some (some d) := h
    exact outE_some (Option.some.inj h)
  | k, b :: io, τ, i + 1, d, h => by
    have h : (outD (k + 1) io τ)[i]? = some (some d) := h
    have q := outD_get (k + 1) io τ i d h
    have e : k + 1 + i = k + (i + 1) := Nat.add_right_comm k 1 i
    rw [e] at q
    exact q

theorem out_ok {H H' : Hp} {σ' : L2.St} {τ' : List Sl} {io : List Bool} {vs : List V} {B A : Addr → Prop} (hl : vs.length = io.length) (t : Tr H A H' (Own σ' τ')) (R : StR L ⟨vs, B⟩ H' σ' τ') :
    Tr H A H' (Own (vs.map some) (outS 0 (outD 0 io τ'))) ∧ StR L ⟨vs, B⟩ H' (vs.map some) (outS 0 (outD 0 io τ')) ∧ Same (hid H' (Hd ⟨vs, B⟩ σ' τ')) (hid H' (Hd ⟨vs, B⟩ (vs.map some) (outS 0 (outD 0 io τ')))) := by
  have at1 : ∀ (i : Nat) (t : Sl), (outS 0 (outD 0 io τ'))[i]? = some t → t.own = true → ∃ d, t = .io i d ∧ τ'[i]? = some (.io i d) := fun i t h ow => by
    rw [outS_get] at h
    cases e : (outD 0 io τ')[i]? with
    | none => rw [e] at h; cases h
    | some o =>
      rw [e] at h
      cases o with
      | none => cases h; cases ow
      | some d =>
        have q := outD_get 0 io τ' i d e
        rw [Nat.zero_add] at q
        refine ⟨d, ?_, q⟩
        have h : some (Sl.io (0 + i) d) = some t := h
        rw [Nat.zero_add] at h
        exact (Option.some.inj h).symm
  have at2 : ∀ (i : Nat) (d : D), τ'[i]? = some (.io i d) → ∃ a, vs[i]? = some (.ref a) ∧ σ'[i]? = some (some (.ref a)) ∧ OwX L (hid H' (Hd ⟨vs, B⟩ σ' τ')) H' d a := fun i d h => by
    obtain ⟨a, e1, e2, r⟩ := R.sl i _ h
    exact ⟨a, e2, e1, r⟩
  have sub : ∀ (i : Nat) (a : Addr), OwnAt (vs.map some) (outS 0 (outD 0 io τ')) i a → OwnAt σ' τ' i a := fun i a ⟨e, t, et, ow⟩ => by
    obtain ⟨d, rfl, h⟩ := at1 i t et ow
    obtain ⟨b, e1, e2, _⟩ := at2 i d h
    rw [List.getElem?_map, e1] at e
    cases e
    exact ⟨e2, _, h, rfl⟩
  have subO : ∀ a, Own (vs.map some) (outS 0 (outD 0 io τ')) a → Own σ' τ' a := fun a ⟨i, q⟩ => ⟨i, sub i a q⟩
  have mono : Same (hid H' (Hd ⟨vs, B⟩ σ' τ')) (hid H' (Hd ⟨vs, B⟩ (vs.map some) (outS 0 (outD 0 io τ')))) := hid_mono (.refl _) fun a z => z.elim (fun q => .inl (subO a q)) .inr
  refine ⟨⟨t.keep0, fun a q => t.new a (subO a q), t.there⟩, ⟨?_, fun i j a x y => R.inj i j a (sub i a x) (sub j a y), fun a q => R.dis a (subO a q), R.bth0, fun i t h => ?_⟩, mono⟩
  · rw [List.length_map, outS_length, outD_length 0 io τ', hl]
  · cases ow : t.own with
    | true =>
      obtain ⟨d, rfl, h2⟩ := at1 i t h ow
      obtain ⟨a, e1, e2, r⟩ := at2 i d h2
      exact ⟨a, by rw [List.getElem?_map, e1]; rfl, e1, r.step mono rfl⟩
    | false =>
      cases t with
      | un => trivial
      | fz d =>
        rw [outS_get] at h
        cases e : (outD 0 io τ')[i]? with
        | none => rw [e] at h; cases h
        | some o => rw [e] at h; cases o <;> cases h
      | _ => cases ow
theorem start_ok {H : Hp} {N : List Str} {io : List Bool} {vs : List V} {B : Addr → Prop} {ds : List D} (hd : ds.length = io.length) (hn : io.length ≤ N.length) (R : StR L ⟨vs, B⟩ H (vs.map some) (argS 0 io ds)) :
    StR L ⟨vs, B⟩ H (L2.start N vs) (argS 0 io ds ++ List.replicate (N.length - io.length) Sl.un) ∧ ∀ a, Own (L2.start N vs) (argS 0 io ds ++ List.replicate (N.length - io.length) Sl.un) a ↔ Own (vs.map some) (argS 0 io ds) a := by
  have hl := R.len
  rw [List.length_map, argS_length 0 io ds hd] at hl
  have la := argS_length 0 io ds hd
  have get : ∀ (i : Nat) (t : Sl), (argS 0 io ds ++ List.replicate (N.length - io.length) Sl.un)[i]? = some t → (t = .un) ∨ ((argS 0 io ds)[i]? = some t ∧ (L2.start N vs)[i]? = (vs.map some)[i]?) := fun i t h => by
    by_cases hi : i < io.length
    · rw [List.getElem?_append_left (by rw [la]; exact hi)] at h
      refine .inr ⟨h, ?_⟩
      unfold L2.start
      rw [List.getElem?_append_left (by rw [List.length_map, hl]; exact hi)]
    · rw [List.getElem?_append_right (by rw [la]; omega), List.getElem?_replicate] at h
      split at h
      · exact .inl (Option.some.inj h).symm
      · cases h
  have o1 : ∀ (i : Nat) (a : Addr), OwnAt (L2.start N vs) (argS 0 io ds ++ List.replicate (N.length - io.length) Sl.un) i a → OwnAt (vs.map some) (argS 0 io ds) i a := fun i a ⟨e, t, et, ow⟩ => by
    rcases get i t et with rfl | ⟨h1, h2⟩
    · cases ow
    · exact ⟨by rw [← h2]; exact e, t, h1, ow⟩
  have o2 : ∀ (i : Nat) (a : Addr), OwnAt (vs.map some) (argS 0 io ds) i a → OwnAt (L2.start N vs) (argS 0 io ds ++ List.replicate (N.length - io.length) Sl.un) i a := fun i a ⟨e, t, et, ow⟩ => by
    have hi : i < (argS 0 io ds).length := (List.getElem?_eq_some_iff.mp et).1
    have hv : i < (vs.map some).length := (List.getElem?_eq_some_iff.mp e).1
    refine ⟨?_, t, by rw [List.getElem?_append_left hi]; exact et, ow⟩
    unfold L2.start
    rw [List.getElem?_append_left hv]
    exact e
  have oo : ∀ a, Own (L2.start N vs) (argS 0 io ds ++ List.replicate (N.length - io.length) Sl.un) a ↔ Own (vs.map some) (argS 0 io ds) a := fun a => ⟨fun ⟨i, q⟩ => ⟨i, o1 i a q⟩, fun ⟨i, q⟩ => ⟨i, o2 i a q⟩⟩
  have mono : Same (hid H (Hd ⟨vs, B⟩ (vs.map some) (argS 0 io ds))) (hid H (Hd ⟨vs, B⟩ (L2.start N vs) (argS 0 io ds ++ List.replicate (N.length - io.length) Sl.un))) := hid_mono (.refl _) fun a z => z.elim (fun q => .inl ((oo a).mp q)) .inr
  refine ⟨⟨?_, fun i j a x y => R.inj i j a (o1 i a x) (o1 j a y), fun a q => R.dis a ((oo a).mp q), R.bth0, fun i t h => ?_⟩, oo⟩
  · unfold L2.start
    rw [List.length_append, List.length_append, List.length_map, List.length_replicate, List.length_replicate, la, hl]
  · rcases get i t h with rfl | ⟨h1, h2⟩
    · trivial
    · have q := R.sl i t h1
      rw [h2]
      cases t with
      | un => trivial
      | fz d' => obtain ⟨v, e2, r2⟩ := q; exact ⟨v, e2, r2.same mono⟩
      | ow d' => obtain ⟨b, e2, r2⟩ := q; exact ⟨b, e2, r2.step mono rfl⟩
      | le d' => obtain ⟨b, e2, r2⟩ := q; exact ⟨b, e2, r2.step mono rfl⟩
      | io k d' => obtain ⟨b, e2, e3, r2⟩ := q; exact ⟨b, e2, e3, r2.step mono rfl⟩
      | oo d' => obtain ⟨b, e2, r2⟩ := q; exact ⟨b, e2, r2.step mono rfl⟩
abbrev Wof (E : XK) : WX := fun cls od _ H => E cls od H
abbrev cxB (Pr : Program) (w : World) (K : PySem.W.Frag) (mg : Str → Option Value) (base : Heap) (N : List Str) (qual : Str) (sc : Scope) (f : Addr) (cdv : Value) (A : Around) (outer : List Env) (s : Shared) (H : Hp) (E : XK) : Cx := cxOf (L2.CX Pr w) Pr w K mg base N qual sc f cdv A outer s H E
theorem fn_ok {Pr : Program} {w : World} {mg : Str → Option Value} {base : Heap} {x qual : Str} {st : Stmt} {f : Addr} {fd : FuncData} {N ps : List Str} {k : Nat} {io : List Bool} {b : MS} (F : Fun L.K x qual st f fd) (S : FnScope N ps (defScope st))
    (hio : io.length = ps.length) (hN : io.length ≤ N.length)
    (body : ∀ (cdv : Value) (A : Around) (outer : List Env) (s : Shared) (H : Hp) (E : XK) (P : Pa), Room k (A.deeper (envOfC qual (defScope st) s.heap.objs.size f cdv)) →
      SSs L P (Wof E) (cxB Pr w L.K mg base N qual (defScope st) f cdv A outer s H E) (defBody st) b) : FnOk Pr w L.K mg base (L2.CX Pr w) (k + 1) f fd ps (spF L io (mkF N.length io b)) := by
  refine F.okX S (fun vs H Q E ⟨ds, B, hd, R, _⟩ => ?_) (fun cdv A outer s H vs Q E hr ⟨ds, B, hd, R, h⟩ => ⟨_, body cdv A outer s H E ⟨vs, B⟩ hr, ?_⟩)
  · have hl := R.len
    rw [List.length_map, argS_length 0 io ds hd] at hl
    rw [hl, hio]
  · have hl : vs.length = io.length := by
      have hl := R.len
      rw [List.length_map, argS_length 0 io ds hd] at hl
      exact hl
    obtain ⟨R0, oo⟩ := start_ok (N := N) hd hN R
    refine ⟨_, R0, ?_⟩
    unfold mkF at h
    rw [if_pos hd] at h
    have tr : ∀ {H' : Hp} {A' : Addr → Prop}, Tr H (Own (L2.start N vs) (argS 0 io ds ++ List.replicate (N.length - io.length) Sl.un)) H' A' → Tr H (Own (vs.map some) (argS 0 io ds)) H' A' := fun {H' A'} t =>
      ⟨fun a o e n => t.keep0 a o e fun z => n (z.mono fun b q => (oo b).mp q), fun a q => (t.new a q).elim (fun z => .inl ((oo a).mp z)) .inr, t.there⟩
    revert h
    cases b (argS 0 io ds ++ List.replicate (N.length - io.length) Sl.un) with
    | nx τ' =>
      intro h σ' H' t R'
      obtain ⟨t2, R2, mono⟩ := out_ok hl (tr t) R'
      exact h .non H' t2 R2 (Rp.non_iff.mpr rfl)
    | rt d τ' =>
      intro h v σ' H' t R' r
      obtain ⟨t2, R2, mono⟩ := out_ok hl (tr t) R'
      exact h v H' t2 R2 (r.same mono)
    | ro d τ' =>
      intro h a σ' H' t R' r
      by_cases hany : io.any id = true
      · replace h : FPost L ⟨vs, B⟩ H (argS 0 io ds) (if io.any id = true then RF.fail else .own d) Q E := h
        rw [if_pos hany] at h
        exact h.elim
      · replace h : FPost L ⟨vs, B⟩ H (argS 0 io ds) (if io.any id = true then RF.fail else .own d) Q E := h
        rw [if_neg hany] at h
        have no : ∀ b, ¬ Own (vs.map some) (argS 0 io ds) b := fun b ⟨j, _, t, et, ow⟩ => by
          rw [argS_own 0 io ds (by simpa using hany) t (List.mem_of_getElem? et)] at ow
          cases ow
        have fr : H a = none := t.src.resolve_left fun z => no a ((oo a).mp z)
        exact h a H' ⟨fun b o e n => t.keep0 b o e fun z => n (z.mono fun b q => (oo b).mp q), fun _ z => z.elim, fun b o e => by
          by_cases hb : b = a
          · rw [hb, fr] at e; cases e
          · exact t.there b o hb e⟩ (r.step (hid_mono (.refl _) fun b z => .inr z) rfl)
    | exc c xs τ' =>
      intro h cls od σ' H' t R' ex
      have h : FPost L ⟨vs, B⟩ H (argS 0 io ds) (if io.any id = true then RF.exo c xs (outD 0 io τ') else .exc c xs) Q E := h
      by_cases hany : io.any id = true
      · rw [if_pos hany] at h
        obtain ⟨t2, R2, mono⟩ := out_ok hl (tr t) R'
        exact h cls od H' t2 R2 (ex.same mono)
      · rw [if_neg hany] at h
        exact h cls od H' ⟨(tr t).keep0, fun _ z => z.elim, (tr t).there⟩ (ex.same (hid_mono (.refl _) fun b z => .inr z))
    | bk τ' => exact fun h => h.elim
    | ct τ' => exact fun h => h.elim
    | fail => exact fun h => h.elim
end
end Sm
set_option Elab.async false
set_option linter.all false
set_option maxRecDepth 100000
set_option maxHeartbeats 400000
namespace Sm
open PySem PySem.Spec PyProof.Rows L2

inductive Ar where
  | v (d : D) | io (i : Nat)
instance : Inhabited Ar := ⟨.v .non⟩
def Ar.Rel (L : Lay) (σ : L2.St) (F : Hp) : Ar → V → Prop
  | .v d, x => Rp L F d x
  | .io i, x => σ[i]? = some (some x)
def Ars (L : Lay) (σ : L2.St) (F : Hp) : List Ar → List V → Prop
  | [], vs => vs = []
  | a :: as, vs => ∃ x r, vs = x :: r ∧ a.Rel L σ F x ∧ Ars L σ F as r
theorem Ar.Rel.same {L : Lay} {σ : L2.St} {F F' : Hp} (e : Same F F') : ∀ {a : Ar} {x : V}, a.Rel L σ F x → a.Rel L σ F' x
  | .v _, _, h => Rp.same e h
  | .io _, _, h => h
theorem Ars.same {L : Lay} {σ : L2.St} {F F' : Hp} (e : Same F F') : ∀ {as : List Ar} {vs : List V}, Ars L σ F as vs → Ars L σ F' as vs
  | [], _, h => h
  | _ :: _, _, ⟨x, r, e1, h, t⟩ => ⟨x, r, e1, Ar.Rel.same e h, Ars.same e t⟩
theorem Ars.length {L : Lay} {σ : L2.St} {F : Hp} : ∀ {as : List Ar} {vs : List V}, Ars L σ F as vs → vs.length = as.length
  | [], _, h => by rw [show _ = [] from h]; rfl
  | _ :: _, _, ⟨x, r, e1, _, t⟩ => by rw [e1, List.length_cons, List.length_cons, Ars.length t]
theorem Ars.app {L : Lay} {σ : L2.St} {F : Hp} : ∀ {as bs : List Ar} {vs us : List V}, Ars L σ F as vs → Ars L σ F bs us → Ars L σ F (as ++ bs) (vs ++ us)
  | [], _, _, _, h, t => by rw [show _ = [] from h]; exact t
  | _ :: _, _, _, _, ⟨x, r, e1, h, t⟩, u => by rw [e1]; exact ⟨x, _, rfl, h, Ars.app t u⟩
theorem Ars.get {L : Lay} {σ : L2.St} {F : Hp} : ∀ {as : List Ar} {vs : List V} {i : Nat} {a : Ar}, Ars L σ F as vs → as[i]? = some a → ∃ x, vs[i]? = some x ∧ a.Rel L σ F x
  | [], _, _, _, _, e => by simp at e
  | _ :: _, _, 0, _, ⟨x, r, e1, h, t⟩, e => by
    rw [List.getElem?_cons_zero] at e; cases e; rw [e1]; exact ⟨x, rfl, h⟩
  | _ :: _, _, i + 1, _, ⟨x, r, e1, h, t⟩, e => by
    rw [List.getElem?_cons_succ] at e
    obtain ⟨y, h1, h2⟩ := Ars.get t e
    rw [e1]
    exact ⟨y, by rw [List.getElem?_cons_succ]; exact h1, h2⟩
theorem Rps.ars {L : Lay} {σ : L2.St} {F : Hp} : ∀ {ds : List D} {vs : List V}, Rps L F ds vs → Ars L σ F (ds.map Ar.v) vs
  | [], _, h => by unfold Rps at h; exact h
  | _ :: _, _, h => by
    unfold Rps at h
    obtain ⟨v, r, e1, q, rr⟩ := h
    exact ⟨v, r, e1, q, Rps.ars rr⟩
def ownD : Option Sl → Option D
  | some (.ow d) => some d
  | some (.io _ d) => some d
  | some (.oo d) => some d
  | _ => none
def D.isObo : D → Bool
  | .obo _ _ _ => true
  | _ => false
theorem OwX.list {L : Lay} {F H : Hp} {d : D} {a : Addr} (h : OwX L F H d a) (n : d.isObo = false) : OwR L F H d a := by
  rcases h with h | ⟨c, ns, fs, rfl, _⟩
  · exact h
  · cases n
def Ar.get (τ : List Sl) : Ar → Option D
  | .v d => some d
  | .io i => ownD τ[i]?
def Ar.isIo : Ar → Bool
  | .v _ => false
  | .io _ => true
def Ar.ix : Ar → Option Nat
  | .v _ => none
  | .io i => some i
def getAll (τ : List Sl) : List Ar → Option (List D)
  | [] => some []
  | a :: as => (a.get τ).bind fun d => (getAll τ as).map (d :: ·)
def give (τ : List Sl) (i : Nat) (o : Option D) : List Sl :=
  match o, τ[i]? with
  | some d, some (.ow _) => if d.isObo = true then τ.set i .un else τ.set i (.ow d)
  | some d, some (.io k _) => τ.set i (.io k d)
  | some d, some (.oo _) => τ.set i (.oo d)
  | _, _ => τ.set i .un
def ioAt : List Ar → Option (Nat × Nat)
  | [] => none
  | .io i :: _ => some (0, i)
  | .v _ :: as => (ioAt as).map fun p => (p.1 + 1, p.2)
def noIo (as : List Ar) : Bool := as.all fun a => !a.isIo
def oneIo : List Ar → Bool
  | [] => true
  | .io _ :: as => noIo as
  | .v _ :: as => oneIo as
def callB (p : Option (Nat × Nat)) (r : RF) : M D := fun τ =>
  match p with
  | none =>
    match r with
    | .ok d _ => .ok d τ
    | .exc c xs => .exc c xs τ
    | _ => .fail
  | some (k, i) =>
    match r with
    | .ok d outs => .ok d (give τ i (outs.getD k none))
    | .exc c xs => .exc c xs (τ.set i .un)
    | .exo c xs outs => .exc c xs (give τ i (outs.getD k none))
    | _ => .fail
def callR (io : List Bool) (f : List D → RF) (as : List Ar) : M D := fun τ =>
  if as.map Ar.isIo = io ∧ oneIo as = true then
    match getAll τ as with
    | none => .fail
    | some ds => callB (ioAt as) (f ds) τ
  else .fail

section
variable {L : Lay} {P : Pa} {W : WX} {X : Cx} {E : L2.St → XK} {H : Hp} {σ : L2.St} {τ : List Sl}
theorem noIo_get : ∀ {as : List Ar} {i j : Nat}, noIo as = true → as[j]? = some (.io i) → False
  | [], _, _, _, e => by simp at e
  | .v _ :: as, i, 0, h, e => by rw [List.getElem?_cons_zero] at e; cases e
  | .v _ :: as, i, j + 1, h, e => by
    rw [List.getElem?_cons_succ] at e
    exact noIo_get (as := as) (by simpa [noIo, Ar.isIo] using h) e
  | .io _ :: as, i, j, h, e => by simp [noIo, Ar.isIo] at h
theorem ioAt_none : ∀ {as : List Ar}, ioAt as = none → noIo as = true
  | [], _ => rfl
  | .io _ :: _, h => by cases h
  | .v _ :: as, h => by
    have h2 : ioAt as = none := by
      cases e : ioAt as with
      | none => rfl
      | some p => simp [ioAt, e] at h
    have := ioAt_none h2
    simpa [noIo, Ar.isIo] using this
theorem ioAt_some : ∀ {as : List Ar} {k i : Nat}, ioAt as = some (k, i) → oneIo as = true → as[k]? = some (.io i) ∧ ∀ j i', as[j]? = some (.io i') → j = k ∧ i' = i
  | [], _, _, h, _ => by cases h
  | .io i0 :: as, k, i, h, o => by
    cases h
    refine ⟨rfl, fun j i' e => ?_⟩
    cases j with
    | zero => rw [List.getElem?_cons_zero] at e; cases e; exact ⟨rfl, rfl⟩
    | succ j => rw [List.getElem?_cons_succ] at e; exact (noIo_get (as := as) o e).elim
  | .v d :: as, k, i, h, o => by
    cases e : ioAt as with
    | none => simp [ioAt, e] at h
    | some p =>
      obtain ⟨k0, i0⟩ := p
      have h : (k0 + 1, i0) = (k, i) := by simpa [ioAt, e] using h
      cases h
      obtain ⟨h1, h2⟩ := ioAt_some (as := as) e o
      refine ⟨by rw [List.getElem?_cons_succ]; exact h1, fun j i' e' => ?_⟩
      cases j with
      | zero => rw [List.getElem?_cons_zero] at e'; cases e'
      | succ j =>
        rw [List.getElem?_cons_succ] at e'
        obtain ⟨q1, q2⟩ := h2 j i' e'
        exact ⟨by rw [q1], q2⟩
theorem getAll_length : ∀ {as : List Ar} {ds : List D}, getAll τ as = some ds → ds.length = as.length
  | [], _, h => by cases h; rfl
  | a :: as, ds, h => by
    obtain ⟨d, e1, h⟩ := Option.bind_eq_some_iff.mp h
    obtain ⟨r, e2, rfl⟩ := Option.map_eq_some_iff.mp h
    rw [List.length_cons, List.length_cons, getAll_length e2]
theorem getAll_get : ∀ {as : List Ar} {ds : List D} {j : Nat} {a : Ar}, getAll τ as = some ds → as[j]? = some a → ∃ d, ds[j]? = some d ∧ a.get τ = some d
  | [], _, _, _, _, e => by simp at e
  | a :: as, ds, j, b, h, e => by
    obtain ⟨d, e1, h⟩ := Option.bind_eq_some_iff.mp h
    obtain ⟨r, e2, rfl⟩ := Option.map_eq_some_iff.mp h
    cases j with
    | zero => rw [List.getElem?_cons_zero] at e; cases e; exact ⟨d, rfl, e1⟩
    | succ j =>
      rw [List.getElem?_cons_succ] at e
      obtain ⟨d', h1, h2⟩ := getAll_get e2 e
      exact ⟨d', by rw [List.getElem?_cons_succ]; exact h1, h2⟩
theorem argS_get : ∀ (k : Nat) (io : List Bool) (ds : List D) (j : Nat) (t : Sl), (argS k io ds)[j]? = some t → ∃ b d, io[j]? = some b ∧ ds[j]? = some d ∧ t = if b = true then .io (k + j) d else .fz d
  | _, [], ds, j, t, h => by simp [argS] at h
  | _, _ :: _, [], j, t, h => by simp [argS] at h
  | k, b :: io, d :: ds, 0, t, h => by
    have h : some (if b = true then Sl.io k d else Sl.fz d) = some t := h
    exact ⟨b, d, rfl, rfl, (Option.some.inj h).symm⟩
  | k, b :: io, d :: ds, j + 1, t, h => by
    have h : (argS (k + 1) io ds)[j]? = some t := h
    obtain ⟨b', d', h1, h2, h3⟩ := argS_get (k + 1) io ds j t h
    refine ⟨b', d', by rw [List.getElem?_cons_succ]; exact h1, by rw [List.getElem?_cons_succ]; exact h2, ?_⟩
    rw [h3, Nat.add_right_comm k 1 j]
    rfl
theorem io_get {as : List Ar} {io : List Bool} {j : Nat} {b : Bool} (h : as.map Ar.isIo = io) (e : io[j]? = some b) : ∃ a, as[j]? = some a ∧ a.isIo = b := by
  rw [← h, List.getElem?_map] at e
  cases q : as[j]? with
  | none => rw [q] at e; cases e
  | some a => rw [q] at e; exact ⟨a, rfl, Option.some.inj e⟩

def Post0 (L : Lay) (P : Pa) (H : Hp) (σ : L2.St) (τ : List Sl) (r : RF) (Q : VK) (E : XK) : Prop :=
  match r with
  | .ok d _ => ∀ v H', Tr H (Own σ τ) H' (Own σ τ) → StR L P H' σ τ → Rp L (hid H' (Hd P σ τ)) d v → Q v H'
  | .own d => ∀ a H', Tr H (Own σ τ) (rid H' a) (Own σ τ) → StR L P (rid H' a) σ τ → OwX L (hid (rid H' a) (Hd P σ τ)) H' d a → Q (.ref a) H'
  | .exc c xs => ∀ cls od H', Tr H (Own σ τ) H' (Own σ τ) → StR L P H' σ τ → ExR L (hid H' (Hd P σ τ)) c xs cls od → E cls od H'
  | _ => False
def Post1 (L : Lay) (P : Pa) (H : Hp) (σ : L2.St) (τ : List Sl) (k i : Nat) (r : RF) (Q : VK) (E : XK) : Prop :=
  match r with
  | .ok d outs => ∀ v H', Tr H (Own σ τ) H' (Own σ (give τ i (outs.getD k none))) → StR L P H' σ (give τ i (outs.getD k none)) → Rp L (hid H' (Hd P σ (give τ i (outs.getD k none)))) d v → Q v H'
  | .exc c xs => ∀ cls od H', Tr H (Own σ τ) H' (Own σ (τ.set i .un)) → StR L P H' σ (τ.set i .un) → ExR L (hid H' (Hd P σ (τ.set i .un))) c xs cls od → E cls od H'
  | .exo c xs outs => ∀ cls od H', Tr H (Own σ τ) H' (Own σ (give τ i (outs.getD k none))) → StR L P H' σ (give τ i (outs.getD k none)) → ExR L (hid H' (Hd P σ (give τ i (outs.getD k none)))) c xs cls od → E cls od H'
  | _ => False
theorem call_0 {io : List Bool} {f : List D → RF} {as : List Ar} {ds : List D} {vs : List V} {Q : VK} (R : StR L P H σ τ) (ra : Ars L σ (hid H (Hd P σ τ)) as vs) (hio : as.map Ar.isIo = io) (hn : noIo as = true) (hg : getAll τ as = some ds)
    (h : Post0 L P H σ τ (f ds) Q (E σ)) : spF L io f vs H Q (E σ) := by
  have hl : ds.length = io.length := by rw [getAll_length hg, ← hio, List.length_map]
  have at0 : ∀ (i : Nat) (t : Sl), (argS 0 io ds)[i]? = some t → ∃ d x, t = .fz d ∧ vs[i]? = some x ∧ Rp L (hid H (Hd P σ τ)) d x := fun i t e => by
    obtain ⟨b, d, e1, e2, e3⟩ := argS_get 0 io ds i t e
    obtain ⟨a, ea, eb⟩ := io_get hio e1
    cases a with
    | io j => exact (noIo_get hn ea).elim
    | v d' =>
      have eb : false = b := eb
      subst eb
      obtain ⟨d'', h1, h2⟩ := getAll_get hg ea
      rw [e2] at h1; cases h1
      have h2 : some d' = some d := h2
      cases h2
      obtain ⟨x, hx, rx⟩ := ra.get ea
      exact ⟨_, x, e3, hx, rx⟩
  have no : ∀ (i : Nat) (a : Addr), ¬ OwnAt (vs.map some) (argS 0 io ds) i a := fun i a ⟨_, t, et, ow⟩ => by
    obtain ⟨d, x, rfl, _⟩ := at0 i t et
    cases ow
  have noO : ∀ (a : Addr), ¬ Own (vs.map some) (argS 0 io ds) a := fun a ⟨i, q⟩ => no i a q
  refine ⟨ds, Hd P σ τ, hl, ⟨by rw [List.length_map, ra.length, argS_length 0 io ds hl, ← hio, List.length_map], fun i j a x _ => (no i a x).elim, fun a q => (noO a q).elim, fun a q => R.hd_there0 q, fun i t e => ?_⟩, ?_⟩
  · obtain ⟨d, x, rfl, hx, rx⟩ := at0 i t e
    exact ⟨x, by rw [List.getElem?_map, hx]; rfl, rx.same (hid_mono (.refl _) fun a z => z.elim (fun q => (noO a q).elim) id)⟩
  · revert h
    cases f ds with
    | ok d outs =>
      intro h v H' t R' r
      have s := R.tr t noO
      refine h v H' s.1 s.2 (r.same (hid_mono (.refl _) fun a z => .inr z))
    | own d =>
      intro h a H' t r
      have s := R.tr t noO
      exact h a H' s.1 s.2 r
    | exc c xs =>
      intro h cls od H' t ex
      have s := R.tr t noO
      exact h cls od H' s.1 s.2 ex
    | exo c xs outs => exact fun h => h.elim
    | fail => exact fun h => h
theorem ownD_at (R : StR L P H σ τ) {i : Nat} {d : D} (h : ownD τ[i]? = some d) : ∃ a, OwnAt σ τ i a ∧ OwX L (hid H (Hd P σ τ)) H d a := by
  cases e : τ[i]? with
  | none => rw [e] at h; cases h
  | some t =>
    have q := R.sl i t e
    rw [e] at h
    cases t with
    | ow d' =>
      have h : some d' = some d := h
      cases h
      obtain ⟨a, e1, r⟩ := q
      exact ⟨a, ⟨e1, _, e, rfl⟩, r.x⟩
    | oo d' =>
      have h : some d' = some d := h
      cases h
      obtain ⟨a, e1, r⟩ := q
      exact ⟨a, ⟨e1, _, e, rfl⟩, r⟩
    | io k d' =>
      have h : some d' = some d := h
      cases h
      obtain ⟨a, e1, _, r⟩ := q
      exact ⟨a, ⟨e1, _, e, rfl⟩, r⟩
    | _ => cases h
theorem call_1 {io : List Bool} {f : List D → RF} {as : List Ar} {ds : List D} {vs : List V} {Q : VK} {k i : Nat} (R : StR L P H σ τ) (ra : Ars L σ (hid H (Hd P σ τ)) as vs) (hio : as.map Ar.isIo = io) (h1 : oneIo as = true) (hk : ioAt as = some (k, i)) (hg : getAll τ as = some ds)
    (h : Post1 L P H σ τ k i (f ds) Q (E σ)) : spF L io f vs H Q (E σ) := by
  have hl : ds.length = io.length := by rw [getAll_length hg, ← hio, List.length_map]
  obtain ⟨hk1, hk2⟩ := ioAt_some hk h1
  obtain ⟨dk, ek, gk⟩ := getAll_get hg hk1
  obtain ⟨a, oa, rw0⟩ := ownD_at R (show ownD τ[i]? = some dk from gk)
  obtain ⟨xk, hxk, rxk⟩ := ra.get hk1
  have exk : xk = .ref a := by
    have rxk : σ[i]? = some (some xk) := rxk
    rw [oa.1] at rxk
    cases rxk; rfl
  subst exk
  have iok : io[k]? = some true := by rw [← hio, List.getElem?_map, hk1]; rfl
  have at0 : ∀ (j : Nat) (t : Sl), (argS 0 io ds)[j]? = some t → (j = k ∧ t = .io k dk) ∨ ∃ d x, t = .fz d ∧ vs[j]? = some x ∧ Rp L (hid H (Hd P σ τ)) d x := fun j t e => by
    obtain ⟨b, d, e1, e2, e3⟩ := argS_get 0 io ds j t e
    obtain ⟨ar, ea, eb⟩ := io_get hio e1
    cases ar with
    | io i' =>
      obtain ⟨q1, q2⟩ := hk2 j i' ea
      subst q1
      have eb : true = b := eb
      subst eb
      rw [e2] at ek; cases ek
      refine .inl ⟨rfl, ?_⟩
      rw [e3, Nat.zero_add]
      rfl
    | v d' =>
      have eb : false = b := eb
      subst eb
      obtain ⟨d'', h1, h2⟩ := getAll_get hg ea
      rw [e2] at h1; cases h1
      have h2 : some d' = some d := h2
      cases h2
      obtain ⟨x, hx, rx⟩ := ra.get ea
      exact .inr ⟨_, x, e3, hx, rx⟩
  have ow1 : ∀ (j : Nat) (b : Addr), OwnAt (vs.map some) (argS 0 io ds) j b → j = k ∧ b = a := fun j b ⟨e, t, et, ow⟩ => by
    rcases at0 j t et with ⟨rfl, _⟩ | ⟨d, x, rfl, _⟩
    · rw [List.getElem?_map, hxk] at e
      cases e
      exact ⟨rfl, rfl⟩
    · cases ow
  have B0 : ∀ b, Own (vs.map some) (argS 0 io ds) b → b = a := fun b ⟨j, q⟩ => (ow1 j b q).2
  have la : (argS 0 io ds).length = io.length := argS_length 0 io ds hl
  have kl : k < (argS 0 io ds).length := by rw [la]; exact (List.getElem?_eq_some_iff.mp iok).1
  have there : ∃ o, H a = some o := rw0.there
  have hidE : Same (hid H (Hd P σ τ)) (hid H (Hd ⟨vs, fun b => Hd P σ τ b ∧ b ≠ a⟩ (vs.map some) (argS 0 io ds))) := hid_mono (.refl _) fun b z => by
    rcases z with q | q
    · rw [B0 b q]; exact .inl ⟨i, oa⟩
    · exact q.1
  refine ⟨ds, fun b => Hd P σ τ b ∧ b ≠ a, hl, ⟨by rw [List.length_map, ra.length, la, ← hio, List.length_map], fun j j' b x y => by rw [(ow1 j b x).1, (ow1 j' b y).1], fun b q z => z.2 (B0 b q), fun b q => R.hd_there0 q.1, fun j t e => ?_⟩, ?_⟩
  · rcases at0 j t e with ⟨rfl, rfl⟩ | ⟨d, x, rfl, hx, rx⟩
    · exact ⟨a, by rw [List.getElem?_map, hxk]; rfl, hxk, rw0.step hidE rfl⟩
    · exact ⟨x, by rw [List.getElem?_map, hx]; rfl, rx.same hidE⟩
  · -- behind the call
    have lose : ∀ {H' : Hp} {A' : Addr → Prop}, Tr H (Own (vs.map some) (argS 0 io ds)) H' A' → Tr H (Own σ τ) H' (Own σ (τ.set i .un)) ∧ StR L P H' σ (τ.set i .un) := fun {H' A'} t => by
      exact R.upd1x oa (fun b o e n => t.keep0 b o e fun z => n (z.mono fun b q => B0 b q)) t.there (.inl rfl)
    have offI : ∀ (t' : Sl) (b : Addr), t'.own = false → OwnAt σ (τ.set i t') i b → False := fun t' b hf ⟨_, t, et, ow⟩ => by
      rw [List.getElem?_set_self (List.getElem?_eq_some_iff.mp oa.2.choose_spec.1).1] at et
      cases et
      rw [hf] at ow; cases ow
    have go : ∀ (outs : List (Option Sm.D)) (H' : Hp), Tr H (Own (vs.map some) (argS 0 io ds)) H' (Own (vs.map some) (outS 0 outs)) → StR L ⟨vs, fun b => Hd P σ τ b ∧ b ≠ a⟩ H' (vs.map some) (outS 0 outs) → ∀ K : Prop,
        (Tr H (Own σ τ) H' (Own σ (give τ i (outs.getD k none))) → StR L P H' σ (give τ i (outs.getD k none)) → Same (hid H' (Hd ⟨vs, fun b => Hd P σ τ b ∧ b ≠ a⟩ (vs.map some) (outS 0 outs))) (hid H' (Hd P σ (give τ i (outs.getD k none)))) → K) → K := by
      intro outs H' t R' K h
      have keep : ∀ b o, H b = some o → ¬ Foot H (fun x => x = a) b → H' b = some o := fun b o e n => t.keep0 b o e fun z => n (z.mono fun b q => B0 b q)
      obtain ⟨o, ho⟩ := there
      have ath := t.there a o ho
      have subset : ∀ (t' : Sl) (b : Addr), (b ≠ a → Hd P σ (τ.set i t') b → Hd P σ τ b) := fun t' b n z => by
        rcases z with ⟨j, q⟩ | z
        · refine .inl ⟨j, ?_⟩
          obtain ⟨e, t, et, ow⟩ := q
          by_cases hj : i = j
          · subst hj
            rw [oa.1] at e
            exact absurd (by cases e; rfl) n
          · rw [List.getElem?_set_ne hj] at et
            exact ⟨e, t, et, ow⟩
        · exact .inr z
      -- the changed argument
      cases eo : outs.getD k none with
      | none =>
        rw [eo] at h
        have eg : give τ i none = τ.set i .un := rfl
        rw [eg] at h
        obtain ⟨t2, R2⟩ := lose t
        refine h t2 R2 (hid_mono (.refl _) fun b z => .inr ⟨subset _ b ?_ z, ?_⟩) <;>
        · intro e
          subst e
          rcases z with ⟨j, q⟩ | z
          · by_cases hj : j = i
            · subst hj
              exact offI _ _ rfl q
            · obtain ⟨e, t, et, ow⟩ := q
              rw [List.getElem?_set_ne (Ne.symm hj)] at et
              exact hj (R.inj j i _ ⟨e, t, et, ow⟩ oa)
          · exact R.dis _ ⟨i, oa⟩ z
      | some d' =>
        rw [eo] at h
        have eo2 : outs[k]? = some (some d') := by
          rw [List.getD_eq_getElem?_getD] at eo
          cases q : outs[k]? with
          | none => rw [q] at eo; cases eo
          | some o => rw [q] at eo; exact congrArg some eo
        have es : (outS 0 outs)[k]? = some (.io k d') := by rw [outS_get, eo2, Nat.zero_add]; rfl
        obtain ⟨a', e1, e2, r'⟩ := R'.sl k _ es
        have ea : a' = a := by
          have e2 : vs[k]? = some (.ref a') := e2
          rw [hxk] at e2
          cases e2; rfl
        subst ea
        have aOwn : Own (vs.map some) (outS 0 outs) a' := ⟨k, e1, _, es, rfl⟩
        -- the slot's kind
        obtain ⟨t0, et0, ow0⟩ := oa.2
        have fin : ∀ (t' : Sl), t'.own = true → (SlR L P (hid H' (Hd P σ (τ.set i t'))) H' σ[i]? t' ↔ True ∧ SlR L P (hid H' (Hd P σ (τ.set i t'))) H' σ[i]? t') := fun t' _ => ⟨fun z => ⟨trivial, z⟩, fun z => z.2⟩
        have sm : ∀ (t' : Sl), Same (hid H' (Hd ⟨vs, fun b => Hd P σ τ b ∧ b ≠ a'⟩ (vs.map some) (outS 0 outs))) (hid H' (Hd P σ (τ.set i t'))) := fun t' => hid_mono (.refl _) fun b z => by
          by_cases hb : b = a'
          · rw [hb]; exact .inl aOwn
          · exact .inr ⟨subset t' b hb z, hb⟩
        cases t0 with
        | ow d0 =>
          cases hb : d'.isObo with
          | true =>
            have eg : give τ i (some d') = τ.set i .un := by unfold give; rw [et0]; exact if_pos hb
            rw [eg] at h
            obtain ⟨t2, R2⟩ := lose t
            exact h t2 R2 (sm _)
          | false =>
            have eg : give τ i (some d') = τ.set i (.ow d') := by unfold give; rw [et0]; exact if_neg (by rw [hb]; exact Bool.false_ne_true)
            rw [eg] at h
            obtain ⟨t2, R2⟩ := R.upd1x (t' := .ow d') oa keep t.there (.inr ⟨rfl, fun _ => ⟨a', oa.1, (r'.step (sm _) rfl).list hb⟩⟩)
            exact h t2 R2 (sm _)
        | io k0 d0 =>
          have eg : give τ i (some d') = τ.set i (.io k0 d') := by unfold give; rw [et0]
          rw [eg] at h
          obtain ⟨a0, q1, q2, _⟩ := R.sl i _ et0
          have ea0 : a0 = a' := by rw [oa.1] at q1; cases q1; rfl
          subst ea0
          obtain ⟨t2, R2⟩ := R.upd1x (t' := .io k0 d') oa keep t.there (.inr ⟨rfl, fun _ => ⟨a0, oa.1, q2, r'.step (sm _) rfl⟩⟩)
          exact h t2 R2 (sm _)
        | oo d0 =>
          have eg : give τ i (some d') = τ.set i (.oo d') := by unfold give; rw [et0]
          rw [eg] at h
          obtain ⟨t2, R2⟩ := R.upd1x (t' := .oo d') oa keep t.there (.inr ⟨rfl, fun _ => ⟨a', oa.1, r'.step (sm _) rfl⟩⟩)
          exact h t2 R2 (sm _)
        | le d0 =>
          have gk : ownD τ[i]? = some dk := gk
          rw [et0] at gk; cases gk
        | un => cases ow0
        | fz d0 => cases ow0
    revert h
    cases f ds with
    | ok d outs =>
      intro h v H' t R' r
      exact go outs H' t R' _ fun x y z => h v H' x y (r.same z)
    | exo c xs outs =>
      intro h cls od H' t R' ex
      exact go outs H' t R' _ fun x y z => h cls od H' x y (ex.same z)
    | own d => exact fun h => h.elim
    | exc c xs =>
      intro h cls od H' t ex
      obtain ⟨t2, R2⟩ := lose t
      have sub1 : ∀ b, Hd P σ (τ.set i .un) b → Hd P σ τ b ∧ b ≠ a := fun b z => by
        rcases z with ⟨j, q⟩ | z
        · by_cases hj : j = i
          · subst hj
            exact (offI _ _ rfl q).elim
          · obtain ⟨e, t, et, ow⟩ := q
            rw [List.getElem?_set_ne (Ne.symm hj)] at et
            exact ⟨.inl ⟨j, e, t, et, ow⟩, fun z => hj (R.inj j i _ ⟨by rw [← z]; exact e, t, et, ow⟩ oa)⟩
        · exact ⟨.inr z, fun e => R.dis _ ⟨i, oa⟩ (by rw [← e]; exact z)⟩
      exact h cls od H' t2 R2 (ex.same (hid_mono (.refl _) sub1))
    | fail => exact fun h => h.elim
theorem call_ok {io : List Bool} {f : List D → RF} {as : List Ar} {vs : List V} {Q : VK} (R : StR L P H σ τ) (ra : Ars L σ (hid H (Hd P σ τ)) as vs) (h : Post L P (RV L) H σ τ (callR io f as τ) Q (E σ)) : spF L io f vs H Q (E σ) := by
  unfold callR at h
  split at h
  · rename_i hc
    obtain ⟨hio, h1⟩ := hc
    cases hg : getAll τ as with
    | none => rw [hg] at h; exact h.elim
    | some ds =>
      rw [hg] at h
      have h : Post L P (RV L) H σ τ (callB (ioAt as) (f ds) τ) Q (E σ) := h
      cases hk : ioAt as with
      | none =>
        rw [hk] at h
        refine call_0 R ra hio (ioAt_none hk) hg ?_
        generalize f ds = r at h ⊢
        cases r with
        | ok d outs => exact h
        | own d => exact h.elim
        | exo c xs outs => exact h.elim
        | exc c xs => exact h
        | fail => exact h.elim
      | some p =>
        obtain ⟨k, i⟩ := p
        rw [hk] at h
        refine call_1 R ra hio h1 hk hg ?_
        generalize f ds = r at h ⊢
        cases r with
        | ok d outs => exact h
        | own d => exact h.elim
        | exo c xs outs => exact h
        | exc c xs => exact h
        | fail => exact h.elim
  · exact h.elim
end
end Sm
set_option Elab.async false
set_option linter.all false
set_option maxRecDepth 100000
set_option maxHeartbeats 400000
namespace Sm
open PySem PySem.Spec PyProof.Rows L2

section
variable {L : Lay} {P : Pa} {W : WX} {X : Cx} {E : L2.St → XK} {pos : Pos}
def tAr (L : Lay) (P : Pa) (E : L2.St → XK) (m : M (List Ar)) : TA := fun σ H Q => ∃ τ, StR L P H σ τ ∧ Post L P (fun F a v => Ars L σ F a v) H σ τ (m τ) Q (E σ)
abbrev SAr (L : Lay) (P : Pa) (E : L2.St → XK) (X : Cx) (es : List Expr) (m : M (List Ar)) : Prop := PA X es (tAr L P E m)
def aNil : M (List Ar) := fun τ => .ok [] τ
def aV (m : M D) (ms : M (List Ar)) : M (List Ar) := fun τ => (m τ).bind fun x => fun τ => (ms τ).bind fun xs => fun τ => .ok (.v x :: xs) τ
def aIo (i : Nat) (ms : M (List Ar)) : M (List Ar) := fun τ =>
  match ownD τ[i]? with
  | some _ => (ms τ).bind fun xs => fun τ => .ok (.io i :: xs) τ
  | none => .fail
variable {e : Expr} {es : List Expr} {m : M D} {ms : M (List Ar)}
theorem sAr_nil : SAr L P E X [] aNil := PA.weak pa_nil fun σ H Q ⟨τ, R, h⟩ => h [] H .refl R rfl
theorem sAr_v (ha : SE L P E X e m) (hr : SAr L P E X es ms) (hs : starEach (e :: es) X.env = (false, eval e X.env) :: starEach es X.env := by rfl) : SAr L P E X (e :: es) (aV m ms) :=
  PA.weak (pa_cons ha hr hs) fun σ H Q ⟨τ, R, h⟩ => by
    refine ⟨τ, R, (Post.split (R := RV L) h).imp fun x H1 ⟨d1, τ1, t1, R1, r1, h1⟩ => ?_⟩
    refine ⟨τ1, R1, (Post.split (R := fun F a v => Ars L σ F a v) h1).imp fun y H2 ⟨d2, τ2, t2, R2, r2, h2⟩ => ?_⟩
    exact h2 (x :: y) H2 .refl R2 ⟨x, y, rfl, r1.same (R1.fz t2), r2⟩
theorem sAr_io {x : Str} {p : Pos} (i : Nat) (hr : SAr L P E X es ms) (hN : X.N[i]? = some x := by rfl) (hv : Vis X.env.scope x := by first | exact Or.inl rfl | exact Or.inr (Or.inl rfl) | exact Or.inr (Or.inr rfl)) (hd : (x == ("__debug__" : Str)) = false := by decide)
    (hcd : (x == ("__classdict__" : Str)) = false := by decide) (hs : starEach (.Name x p :: es) X.env = (false, eval (.Name x p) X.env) :: starEach es X.env := by rfl) : SAr L P E X (.Name x p :: es) (aIo i ms) :=
  PA.weak (pa_cons (pe_var hN hv hd hcd) hr hs) fun σ H Q ⟨τ, R, h⟩ => by
    unfold aIo at h
    split at h
    · rename_i d e
      obtain ⟨a, oa, _⟩ := ownD_at R e
      refine ⟨.ref a, oa.1, τ, R, (Post.split (R := fun F a v => Ars L σ F a v) h).imp fun y H2 ⟨d2, τ2, t2, R2, r2, h2⟩ => ?_⟩
      exact h2 (.ref a :: y) H2 .refl R2 ⟨.ref a, y, rfl, oa.1, r2⟩
    · exact h.elim
abbrev SK (L : Lay) (P : Pa) (E : L2.St → XK) (X : Cx) (kws : List Keyword) (m : M (List D)) : Prop := PK X kws (tA L P E m)
theorem PK.weak {X : Cx} {e : List Keyword} {t u : TA} (h : PK X e t) (f : ∀ σ H Q, u σ H Q → t σ H Q) : PK X e u := ⟨fun pos pins s σ H Q I q => h.run pos pins s σ H Q I (f σ H Q q)⟩
variable {nm : Option Str} {kpos : Pos} {kws : List Keyword} {mk : M (List D)}
theorem sK_nil : SK L P E X [] mNil := PK.weak pk_nil fun σ H Q ⟨τ, R, h⟩ => h [] H .refl R .nil
theorem sK_cons (ha : SE L P E X e m) (hr : SK L P E X kws mk) : SK L P E X (⟨nm, e, kpos⟩ :: kws) (mCons m mk) :=
  PK.weak (pk_cons ha hr) fun σ H Q ⟨τ, R, h⟩ => by
    refine ⟨τ, R, (Post.split (R := RV L) h).imp fun x H1 ⟨d1, τ1, t1, R1, r1, h1⟩ => ?_⟩
    refine ⟨τ1, R1, (Post.split (R := RVs L) h1).imp fun y H2 ⟨d2, τ2, t2, R2, r2, h2⟩ => ?_⟩
    exact h2 (x :: y) H2 .refl R2 (.cons (r1.same (R1.fz t2)) r2)

structure Bd (L : Lay) (fd : FuncData) (ps : List Str) (n : Nat) (ks : List Str) (ix : List Nat) (dds : List D) : Prop where
  ex : ∃ (dvs : List V) (dws : List Value), Vals dvs dws ∧ (∀ F, Rps L F dds dvs) ∧
    ∀ (s : Shared) (us ws : List Value), L.K.In s.heap → us.length = n → ws.length = ks.length → BindsTo s fd ⟨us, ks.zip ws⟩ (ps.zip (ix.map fun i => (us ++ ws ++ dws).getD i Value.none))
def pick (ix : List Nat) (l : List Ar) : List Ar := ix.map fun i => l.getD i (.v .non)
theorem vals_pick {vs : List V} {us : List Value} (r : Vals vs us) : ∀ ix : List Nat, Vals (ix.map fun i => vs.getD i .non) (ix.map fun i => us.getD i Value.none)
  | [] => .nil
  | i :: ix => by
    refine .cons ?_ (vals_pick r ix)
    show RelV (vs.getD i .non) (us.getD i Value.none)
    rw [List.getD_eq_getElem?_getD, List.getD_eq_getElem?_getD]
    cases e : vs[i]? with
    | none => rw [r.none_of e]; rfl
    | some v =>
      obtain ⟨u, h1, h2⟩ := r.get e
      rw [h1]; exact h2
theorem ars_none {σ : L2.St} {F : Hp} {as : List Ar} {vs : List V} {i : Nat} (r : Ars L σ F as vs) (h : as[i]? = none) : vs[i]? = none := by
  rw [List.getElem?_eq_none_iff] at h ⊢
  rw [r.length]; exact h
theorem ars_pick {σ : L2.St} {F : Hp} {as : List Ar} {vs : List V} (r : Ars L σ F as vs) : ∀ ix : List Nat, Ars L σ F (pick ix as) (ix.map fun i => vs.getD i .non)
  | [] => rfl
  | i :: ix => by
    refine ⟨_, _, rfl, ?_, ars_pick r ix⟩
    show (as.getD i (.v .non)).Rel L σ F (vs.getD i .non)
    rw [List.getD_eq_getElem?_getD, List.getD_eq_getElem?_getD]
    cases e : as[i]? with
    | none => rw [ars_none r e]; exact (Rp.non_iff (L := L) (F := F)).mpr rfl
    | some a =>
      obtain ⟨x, h1, h2⟩ := r.get e
      rw [h1]; exact h2
def mCall (io : List Bool) (fn : List D → RF) (n k : Nat) (ix : List Nat) (dds : List D) (m : M (List Ar)) (mk : M (List D)) : M D := fun τ =>
  (m τ).bind fun as => fun τ => (mk τ).bind fun es => fun τ =>
    if as.length = n ∧ es.length = k then callR io fn (pick ix (as ++ es.map Ar.v ++ dds.map Ar.v)) τ else .fail
variable {k n : Nat} {f : Addr} {fd : FuncData} {ps ks : List Str} {io : List Bool} {fn : List D → RF} {ix : List Nat} {dds : List D} {x : Str} {p : Pos} {ma : M (List Ar)}
theorem run_call {pins : List (Addr × Obj)} {σ : L2.St} {τ : List Sl} {H : Hp} {s : Shared} {Q : VK} {us ws : List Value} {vs zs : List V} {as : List Ar} {ds : List D} (hK : X.K = L.K) (F : FnOk X.prog X.w X.K X.mg X.base (L2.CX X.prog X.w) k f fd ps (spF L io fn)) (hr : Room k X.A)
    (hb : Bd L fd ps n ks ix dds) (hx : PassesAt (L2.CX X.prog X.w) X σ (E σ)) (I : Inv X pins σ H s) (R : StR L P H σ τ) (r1 : Vals vs us) (r2 : Vals zs ws) (q1 : Ars L σ (hid H (Hd P σ τ)) as vs) (q2 : Rps L (hid H (Hd P σ τ)) ds zs)
    (h : Post L P (RV L) H σ τ (if as.length = n ∧ ds.length = ks.length then callR io fn (pick ix (as ++ ds.map Ar.v ++ dds.map Ar.v)) τ else .fail) Q (E σ)) :
    wpAny (model X.prog X.w) X.A (call (.ref f) us (ks.zip ws)) (EP X pins σ Q) X.xe s := by
  split at h
  · rename_i hl
    obtain ⟨dvs, dws, dv, dd, to⟩ := hb.ex
    have ra : Ars L σ (hid H (Hd P σ τ)) (as ++ ds.map Ar.v ++ dds.map Ar.v) (vs ++ zs ++ dvs) := (q1.app q2.ars).app (dd _).ars
    have rv : Vals (vs ++ zs ++ dvs) (us ++ ws ++ dws) := (r1.append r2).append dv
    have sp : spF L io fn (ix.map fun i => (vs ++ zs ++ dvs).getD i .non) H Q (E σ) := call_ok R (ars_pick ra ix) h
    refine wpAny_call (codeAny_mono (F.run X.A X.stack s H ⟨us, ks.zip ws⟩ _ _ Q (E σ) hr I.env0 (to s us ws (by rw [← hK]; exact I.kIn) (by rw [← r1.length, q1.length]; exact hl.1) (by rw [← r2.length, q2.length]; exact hl.2)) (vals_pick rv ix) sp) fun r s' hq => ?_)
    cases r with
    | error e => exact hx pins H s e s' I hq
    | ok fl =>
      cases fl with
      | ret u => exact I.after hq
      | next => exact False.elim hq
      | brk => exact False.elim hq
      | cont => exact False.elim hq
  · exact h.elim
theorem sE_call (hK : X.K = L.K) (F : FnOk X.prog X.w X.K X.mg X.base (L2.CX X.prog X.w) k f fd ps (spF L io fn)) (hr : Room k X.A) (hg : Gl X x) (hm : X.mg x = some (.ref f)) (hk : PySem.W.keepIn X.K (.ref f) = true) (hb : Bd L fd ps n [] ix dds)
    (hx : ∀ σ, PassesAt (L2.CX X.prog X.w) X σ (E σ)) (ha : SAr L P E X (e :: es) ma) (hdb : (x == ("__debug__" : Str)) = false := by decide) (he : starEach (e :: es) X.env = (false, eval e X.env) :: starEach es X.env := by rfl) (hpl : (backTo pos (starEach es X.env)).any (·.1) = false := by rfl) :
    SE L P E X (.Call (.Name x p) (e :: es) [] pos) (mCall io fn n 0 ix dds ma mNil) := by
  refine ⟨fun pins s σ H Q I ⟨τ, R, h⟩ => ?_⟩
  refine wpAny_Call_Name_kw (ld_glob I hg hm ?_ hdb)
  refine PySem.W.callWith_K (h₀ := X.base) I.ok.mod.kin hk (thn (ha.run pos pins s σ H _ I ⟨τ, R, Post.split (R := fun F a v => Ars L σ F a v) h⟩) fun us s1 ⟨vs, H1, I1, r, as, τ1, t1, R1, q1, h1⟩ => ⟨I1.kIn, ?_⟩) he hpl
  exact run_call (ks := []) (ws := []) hK F hr hb (hx σ) I1 R1 r .nil q1 .nil h1
theorem sE_call0 (hK : X.K = L.K) (F : FnOk X.prog X.w X.K X.mg X.base (L2.CX X.prog X.w) k f fd ps (spF L io fn)) (hr : Room k X.A) (hg : Gl X x) (hm : X.mg x = some (.ref f)) (hk : PySem.W.keepIn X.K (.ref f) = true) (hb : Bd L fd ps 0 [] ix dds)
    (hx : ∀ σ, PassesAt (L2.CX X.prog X.w) X σ (E σ)) (hdb : (x == ("__debug__" : Str)) = false := by decide) :
    SE L P E X (.Call (.Name x p) [] [] pos) (mCall io fn 0 0 ix dds aNil mNil) := by
  refine ⟨fun pins s σ H Q I ⟨τ, R, h⟩ => ?_⟩
  refine wpAny_Call_Name_kw (ld_glob I hg hm ?_ hdb)
  exact PySem.W.callWith_K0 I.kIn hk (run_call (ks := []) (ws := []) (us := []) (as := []) hK F hr hb (hx σ) I R .nil .nil rfl .nil h)
theorem sE_callK0 (hK : X.K = L.K) (F : FnOk X.prog X.w X.K X.mg X.base (L2.CX X.prog X.w) k f fd ps (spF L io fn)) (hr : Room k X.A) (hg : Gl X x) (hm : X.mg x = some (.ref f)) (hk : PySem.W.keepIn X.K (.ref f) = true) (hb : Bd L fd ps 0 ks ix dds)
    (hx : ∀ σ, PassesAt (L2.CX X.prog X.w) X σ (E σ)) (hkw : SK L P E X kws mk) (hall : (backToKw pos (keywordEach kws X.env)).all (·.1.isSome) = true := by rfl) (hks : (backToKw pos (keywordEach kws X.env)).filterMap (·.1) = ks := by rfl)
    (hdb : (x == ("__debug__" : Str)) = false := by decide)
    (hpl : ((backTo pos (starEach [] X.env)).any (·.1) || (backToKw pos (keywordEach kws X.env)).any (·.1.isNone)) = false := by rfl) :
    SE L P E X (.Call (.Name x p) [] kws pos) (mCall io fn 0 ks.length ix dds aNil mk) := by
  refine ⟨fun pins s σ H Q I ⟨τ, R, h⟩ => ?_⟩
  refine wpAny_Call_Name_kw (ld_glob I hg hm ?_ hdb)
  refine PySem.W.callWith_KW0 (h₀ := X.base) I.ok.mod.kin hk hall ?_ hpl
  refine thn (hkw.run pos pins s σ H _ I ⟨τ, R, Post.split (R := RVs L) h⟩) fun ws s2 ⟨zs, H2, I2, rz, ds, τ2, t2, R2, q2, h2⟩ => ⟨I2.kIn, ?_⟩
  rw [hks]
  exact run_call (us := []) (as := []) hK F hr hb (hx σ) I2 R2 .nil rz rfl q2 h2
def callF (io : List Bool) (fn : List D → RF) (as : List Ar) : M D := fun τ =>
  if as.map Ar.isIo = io ∧ noIo as = true then
    match getAll τ as with
    | none => .fail
    | some ds =>
      match fn ds with
      | .own d => if d.isObo = true then .fail else .ok d τ
      | .exc c xs => .exc c xs τ
      | _ => .fail
  else .fail
def mCallF (io : List Bool) (fn : List D → RF) (n : Nat) (ix : List Nat) (dds : List D) (m : M (List Ar)) : M D := fun τ =>
  (m τ).bind fun as => fun τ => if as.length = n then callF io fn (pick ix (as ++ dds.map Ar.v)) τ else .fail
theorem callF_ok {σ : L2.St} {τ : List Sl} {H : Hp} {as : List Ar} {vs : List V} {Q : VK} (R : StR L P H σ τ) (ra : Ars L σ (hid H (Hd P σ τ)) as vs) (h : PostF L P H σ τ (callF io fn as τ) Q (E σ)) : spF L io fn vs H Q (E σ) := by
  unfold callF at h
  split at h
  · rename_i hc
    obtain ⟨hio, h1⟩ := hc
    cases hg : getAll τ as with
    | none => rw [hg] at h; exact h.elim
    | some ds =>
      rw [hg] at h
      refine call_0 R ra hio h1 hg ?_
      revert h
      dsimp only
      cases fn ds with
      | ok d outs => exact fun h => h.elim
      | own d =>
        intro h
        replace h : PostF L P H σ τ (if d.isObo = true then Res.fail else Res.ok d τ) Q (E σ) := h
        cases hb : d.isObo with
        | true => rw [if_pos hb] at h; exact h.elim
        | false => rw [if_neg (by rw [hb]; exact Bool.false_ne_true)] at h; exact fun a H' t R' o => h a H' t R' (o.list hb)
      | exo c xs outs => exact fun h => h.elim
      | exc c xs => exact fun h => h
      | fail => exact fun h => h
  · exact h.elim
theorem sF_call (hK : X.K = L.K) (F : FnOk X.prog X.w X.K X.mg X.base (L2.CX X.prog X.w) k f fd ps (spF L io fn)) (hr : Room k X.A) (hg : Gl X x) (hm : X.mg x = some (.ref f)) (hk : PySem.W.keepIn X.K (.ref f) = true) (hb : Bd L fd ps n [] ix dds)
    (hx : ∀ σ, PassesAt (L2.CX X.prog X.w) X σ (E σ)) (ha : SAr L P E X (e :: es) ma) (hdb : (x == ("__debug__" : Str)) = false := by decide) (he : starEach (e :: es) X.env = (false, eval e X.env) :: starEach es X.env := by rfl) (hpl : (backTo pos (starEach es X.env)).any (·.1) = false := by rfl) :
    SF L P E X (.Call (.Name x p) (e :: es) [] pos) (mCallF io fn n ix dds ma) := by
  refine ⟨fun pins s σ H Q I ⟨τ, R, h⟩ => ?_⟩
  refine wpAny_Call_Name_kw (ld_glob I hg hm ?_ hdb)
  have h : PostF L P H σ τ ((ma τ).bind fun as => fun τ => if as.length = n then callF io fn (pick ix (as ++ dds.map Ar.v)) τ else .fail) Q (E σ) := h
  have h2 : Post L P (fun F a v => Ars L σ F a v) H σ τ (ma τ) (fun vs H1 => ∃ as τ1, StR L P H1 σ τ1 ∧ Ars L σ (hid H1 (Hd P σ τ1)) as vs ∧ PostF L P H1 σ τ1 (if as.length = n then callF io fn (pick ix (as ++ dds.map Ar.v)) τ1 else .fail) Q (E σ)) (E σ) := by
    revert h
    cases ma τ with
    | ok as τ1 =>
      intro h vs H1 t1 R1 q1
      refine ⟨as, τ1, R1, q1, ?_⟩
      rw [Res.bind_ok] at h
      revert h
      cases (if as.length = n then callF io fn (pick ix (as ++ dds.map Ar.v)) τ1 else .fail) with
      | ok d τ2 => exact fun h a H' t R' o => h a H' (t1.trans t) R' o
      | exc c xs τ2 => exact fun h cls od H' t R' ex => h cls od H' (t1.trans t) R' ex
      | fail => exact fun h => h
    | exc c xs τ1 => exact fun h => h
    | fail => exact fun h => h
  refine PySem.W.callWith_K (h₀ := X.base) I.ok.mod.kin hk (thn (ha.run pos pins s σ H _ I ⟨τ, R, h2⟩) fun us s1 ⟨vs, H1, I1, r, as, τ1, R1, q1, h1⟩ => ⟨I1.kIn, ?_⟩) he hpl
  split at h1
  · rename_i hl
    obtain ⟨dvs, dws, dv, dd, to⟩ := hb.ex
    have ra : Ars L σ (hid H1 (Hd P σ τ1)) (as ++ dds.map Ar.v) (vs ++ dvs) := q1.app (dd _).ars
    have rv : Vals (vs ++ dvs) (us ++ dws) := r.append dv
    have sp := callF_ok R1 (ars_pick ra ix) h1
    have b := to s1 us [] (by rw [← hK]; exact I1.kIn) (by rw [← r.length, q1.length]; exact hl) rfl
    rw [List.append_nil] at b
    refine wpAny_call (codeAny_mono (F.run X.A X.stack s1 H1 ⟨us, []⟩ _ _ Q (E σ) hr I1.env0 b (vals_pick rv ix) sp) fun r s' hq => ?_)
    cases r with
    | error e => exact hx σ pins H1 s1 e s' I1 hq
    | ok fl =>
      cases fl with
      | ret u => exact I1.after hq
      | next => exact False.elim hq
      | brk => exact False.elim hq
      | cont => exact False.elim hq
  · exact h1.elim

def mLoop (g : MG) (b : MS) : List D → MS
  | [] => fun τ => .nx τ
  | d :: ds => fun τ =>
    match g d τ with
    | none => .fail
    | some τ =>
      match b τ with
      | .nx τ => mLoop g b ds τ
      | .ct τ => mLoop g b ds τ
      | .bk τ => .nx τ
      | r => r
def mFor (mi : M (List D)) (g : MG) (b : MS) : MS := fun τ => (mi τ).st fun ds τ => mLoop g b ds τ
theorem sS_for {tg iter : Expr} {body : List Stmt} {mi : M (List D)} {g : MG} {b : MS} (hp : PassesOwn (model X.prog X.w) X.A X.env X.xe) (hc : X.calm = true) (hi : SI L P (WE W) X tg iter mi) (hg : SG L P X tg g) (hb : SSs L P W X body b)
    (hs : ∀ x, foldedSetIterable iter X.env x = pure x := by intro _; rfl) : SS L P W X (.For tg iter body [] pos) (mFor mi g b) :=
  PS.weak (ps_for hp hc hi hg hb hs) fun D σ H ⟨τ, R, h⟩ => by
    refine ⟨τ, R, ?_⟩
    have h : SPost L P W H σ τ ((mi τ).st fun ds τ => mLoop g b ds τ) D := h
    revert h
    cases mi τ with
    | exc c xs τ' => exact fun h cls od H' x y z => h cls od σ H' x y z
    | fail => exact fun h => h
    | ok ds τ1 =>
      intro h J H1 t1 R1 it
      have h : SPost L P W H σ τ (mLoop g b ds τ1) D := h
      refine ⟨fun i k σ2 H2 => i + k = ds.length ∧ ∃ τ2, Tr H1 (Own σ τ1) H2 (Own σ2 τ2) ∧ StR L P H2 σ2 τ2 ∧ SPost L P W H2 σ2 τ2 (mLoop g b (ds.drop i) τ2) D, ⟨ds.length, Nat.zero_add _, τ1, .refl, R1, SPost.from h t1⟩, ?_⟩
      rintro i k σ2 H2 ⟨hik, τ2, t2, R2, h2⟩
      have gg : Same (hid H1 (Hd P σ τ1)) (hid H2 (Hd P σ2 τ2)) := R1.fz t2
      obtain ⟨go, stop⟩ := it i H2 (Hd P σ2 τ2) gg R2.ths
      cases e : ds[i]? with
      | none =>
        refine .inl ⟨stop e, ?_⟩
        rw [List.drop_eq_nil_of_le (List.getElem?_eq_none_iff.mp e)] at h2
        exact h2 σ2 H2 .refl R2
      | some d =>
        obtain ⟨g1, g2⟩ := go d e
        have hi : i < ds.length := (List.getElem?_eq_some_iff.mp e).1
        have ed : ds.drop i = d :: ds.drop (i + 1) := by
          rw [List.drop_eq_getElem_cons hi]
          rw [List.getElem?_eq_getElem hi] at e
          cases e; rfl
        rw [ed] at h2
        refine .inr ⟨g1, fun σ3 H3 => ∃ τ3, Tr H1 (Own σ τ1) H3 (Own σ3 τ3) ∧ StR L P H3 σ3 τ3 ∧ SPost L P W H3 σ3 τ3 (mLoop g b (ds.drop (i + 1)) τ3) D, fun σ3 H3 ⟨τ3, q1, q2, q3⟩ => ⟨k - 1, by omega, by omega, τ3, q1, q2, q3⟩, fun x H3 y => ?_⟩
        obtain ⟨sm, rx⟩ := g2 x H3 y
        unfold mLoop at h2
        cases eg : g d τ2 with
        | none => rw [eg] at h2; exact h2.elim
        | some τ4 =>
          rw [eg] at h2
          refine ⟨τ2, d, τ4, R2.same sm, rx, eg, fun σ4 H4 t4 R4 => ⟨τ4, R4, ?_⟩⟩
          have t24 : Tr H2 (Own σ2 τ2) H4 (Own σ4 τ4) := (Tr.of sm).trans t4
          have t14 := t2.trans t24
          revert h2
          dsimp only
          cases b τ4 with
          | nx τ5 => exact fun h2 σ5 H5 t5 R5 => ⟨τ5, t14.trans t5, R5, SPost.from h2 (t24.trans t5)⟩
          | ct τ5 => exact fun h2 σ5 H5 t5 R5 => ⟨τ5, t14.trans t5, R5, SPost.from h2 (t24.trans t5)⟩
          | bk τ5 => exact fun h2 σ5 H5 t5 R5 => h2 σ5 H5 (t24.trans t5) R5
          | rt d τ5 => exact fun h2 v σ5 H5 t5 R5 r => h2 v σ5 H5 (t24.trans t5) R5 r
          | ro d τ5 => exact fun h2 v σ5 H5 t5 R5 r => h2 v σ5 H5 (TrO.after t24 t5) R5 r
          | exc c xs τ5 => exact fun h2 cls od σ5 H5 t5 R5 r => h2 cls od σ5 H5 (t24.trans t5) R5 r
          | fail => exact fun h2 => h2
end
end Sm
set_option Elab.async false
set_option linter.all false
set_option maxRecDepth 100000
set_option maxHeartbeats 400000
namespace Sm
open PySem PySem.Spec PyProof.Rows L2

def mulOk (i j : Int) : Bool := decide (i.natAbs < 2 ^ 63) || decide (j.natAbs < 2 ^ 63) || (decide (i.natAbs < 2 ^ 20000) && decide (j.natAbs < 2 ^ 20000))
def dAdd : D → D → Option D
  | .int i, .int j => some (.int (i + j))
  | .str a, .str b => if a.length + b.length ≤ 16000000 then some (.str (a ++ b)) else none
  | .lst xs, .lst ys => (small (xs ++ ys)).map .lst
  | .tup xs, .tup ys => (small (xs ++ ys)).map .tup
  | _, _ => none
def dSub : D → D → Option D
  | .int i, .int j => some (.int (i - j))
  | _, _ => none
def dMul : D → D → Option D
  | .int i, .int j => if mulOk i j = true then some (.int (i * j)) else none
  | .lst xs, .int k => if k.natAbs < 2 ^ 62 ∧ xs.length * k.toNat ≤ 16000000 then some (.lst (List.replicate k.toNat xs).flatten) else none
  | _, _ => none
def dFdiv : D → D → Option D
  | .int i, .int j => if 0 < j ∧ j.natAbs < 2 ^ 8000 then some (.int (i / j)) else none
  | _, _ => none
def dMod : D → D → Option D
  | .int i, .int j => if 0 < j then some (.int (i % j)) else none
  | _, _ => none
def dPow : D → D → Option D
  | .int i, .int j => if 0 ≤ j ∧ j ≤ 1000000 ∧ i.natAbs < 2 ^ 64 then some (.int (i ^ j.toNat)) else none
  | _, _ => none
def dNeg : D → Option D
  | .int i => some (.int (-i))
  | _ => none
section
variable {L : Lay} {X : Cx}
theorem Bp.int {F H : Hp} {i : Int} {v : V} (h : Bp L F H (.int i) v) : v = .int i := (Rp.int_iff (L := L) (F := F)).mp h
theorem Bp.bl {F H : Hp} {i : Bool} {v : V} (h : Bp L F H (.bl i) v) : v = .bl i := (Rp.bl_iff (L := L) (F := F)).mp h
theorem Bp.str {F H : Hp} {i : Str} {v : V} (h : Bp L F H (.str i) v) : v = .str i := (Rp.str_iff (L := L) (F := F)).mp h
theorem Bp.non {F H : Hp} {v : V} (h : Bp L F H .non v) : v = .non := (Rp.non_iff (L := L) (F := F)).mp h
theorem Bp.tup {F H : Hp} {ds : List D} {v : V} (h : Bp L F H (.tup ds) v) : ∃ a vs, v = .ref a ∧ SqT L.K F a vs ∧ Rps L F ds vs := (Rp.tup_iff (L := L) (F := F)).mp h
theorem Bp.dct {F H : Hp} {ks us : List D} {v : V} (h : Bp L F H (.dct ks us) v) : ∃ a es, v = .ref a ∧ DctAt L.pr L.w H a es ∧ DRel L F ks us es := h
theorem Bp.obj {F H : Hp} {c : Nat} {fs : List D} {v : V} (h : Bp L F H (.obj c fs) v) : (∃ (a dx : Addr) (vs : List V), v = .ref a ∧ F a = some (SlX.SlO a (L.cls c) dx (vs.map some)) ∧ F dx = some (.xd []) ∧ Rps L F fs vs ∧ c < 1000000) ∨ (v = .ref (if c = 1000000 then L.self else L.cls c) ∧ 1000000 ≤ c ∧ fs = []) := (Rp.obj_iff (L := L) (F := F)).mp h
theorem Bp.exc {F H : Hp} {c : Nat} {ns : List Str} {fs : List D} {v : V} (h : Bp L F H (.exc c ns fs) v) : ∃ (a dx : Addr) (vs : List V), v = .ref a ∧ ExoL F a (L.cls c) dx (ns.zip vs) ∧ ns.length = vs.length ∧ Rps L F fs vs := (Rp.exc_iff (L := L) (F := F)).mp h
theorem Bp.scr {F H : Hp} {ds : List D} {v : V} (h : Bp L F H (.scr ds) v) : ∃ a vs, v = .ref a ∧ SqL L.K F a vs ∧ Rps L F ds vs := (Rp.scr_iff (L := L) (F := F)).mp h
theorem Bp.lst {F H : Hp} {ds : List D} {v : V} (h : Bp L F H (.lst ds) v) : ∃ a vs, v = .ref a ∧ H a = some (.lst vs) ∧ Rps L F ds vs := h
theorem small16 {n : Nat} (h : n ≤ 16000000) : n ≤ sizeLine := Nat.le_trans h (by decide)
theorem Rp.mk_int {F : Hp} {i : Int} : Rp L F (.int i) (.int i) := Rp.int_iff.mpr rfl
theorem Rp.mk_bl {F : Hp} {i : Bool} : Rp L F (.bl i) (.bl i) := Rp.bl_iff.mpr rfl
theorem Rp.mk_str {F : Hp} {i : Str} : Rp L F (.str i) (.str i) := Rp.str_iff.mpr rfl
abbrev rAddA (K : PySem.W.Frag) : R2 := fun x y H Q => rI0 (fun i j => .int (i + j)) x y H Q ∨ (∃ i j, x = .str i ∧ y = .str j ∧ i.length + j.length ≤ sizeLine ∧ Q (.str (i ++ j)) H) ∨ rCat x y H Q ∨ rCatA K x y H Q
theorem or_add : OpR X (binaryOp .Add) (rAddA X.K) := op_add.or (op_add_str.or (op_cat.or op_catA))
theorem os_add : OpS L (rAddA L.K) dAdd := by
  intro a b d x y H A Q e ra rb hA q
  cases a with
  | int i =>
    cases b with
    | int j =>
      cases e
      exact .inl ⟨i, j, ra.int, rb.int, q _ H (.refl _) .mk_int⟩
    | _ => cases e
  | str i =>
    cases b with
    | str j =>
      have e : (if i.length + j.length ≤ 16000000 then some (D.str (i ++ j)) else none) = some d := e
      split at e
      · rename_i hz
        cases e
        exact .inr (.inl ⟨i, j, ra.str, rb.str, small16 hz, q _ H (.refl _) .mk_str⟩)
      · cases e
    | _ => cases e
  | lst xs =>
    cases b with
    | lst ys =>
      obtain ⟨zs, e1, rfl⟩ := Option.map_eq_some_iff.mp e
      obtain ⟨rfl, hz⟩ := small_some e1
      obtain ⟨p, vs, rfl, hp, r1⟩ := ra.lst
      obtain ⟨p', vs', rfl, hp', r2⟩ := rb.lst
      refine .inr (.inr (.inl ⟨p, p', vs, vs', rfl, rfl, hp, hp', ?_, fun n hn => q _ _ (.of (same_upd hn)) (new_lst hA hn (r1.app r2))⟩))
      rw [List.length_append] at hz
      rw [r1.length, r2.length]; exact hz
    | _ => cases e
  | tup xs =>
    cases b with
    | tup ys =>
      obtain ⟨zs, e1, rfl⟩ := Option.map_eq_some_iff.mp e
      obtain ⟨rfl, hz⟩ := small_some e1
      obtain ⟨p, vs, rfl, hp, r1⟩ := ra.tup
      obtain ⟨p', vs', rfl, hp', r2⟩ := rb.tup
      have l1 := r1.length
      have l2 := r2.length
      rw [List.length_append] at hz
      have nil : ∀ {ds : List D} {us : List V}, us.length = ds.length → us = [] → ds = [] := fun h e => by subst e; exact List.length_eq_zero_iff.mp h.symm
      refine .inr (.inr (.inr ⟨p, p', vs, vs', rfl, rfl, SqT.same hid_le hp, SqT.same hid_le hp', by omega, fun e => ?_, fun _ e => ?_, fun _ _ n hn => q _ _ (.of (same_upd hn)) (new_tup hA hn (r1.app r2))⟩))
      · rw [nil l1 e, List.nil_append] at q
        exact q _ H (.refl _) (Rp.tup_iff.mpr ⟨p', vs', rfl, hp', r2⟩)
      · rw [nil l2 e, List.append_nil] at q
        exact q _ H (.refl _) (Rp.tup_iff.mpr ⟨p, vs, rfl, hp, r1⟩)
    | _ => cases e
  | _ => cases e
theorem os_sub : OpS L (rI0 fun i j => .int (i - j)) dSub := by
  intro a b d x y H A Q e ra rb hA q
  cases a with
  | int i =>
    cases b with
    | int j =>
      cases e
      exact ⟨i, j, ra.int, rb.int, q _ H (.refl _) .mk_int⟩
    | _ => cases e
  | _ => cases e
def CMulA (i j : Int) : Prop := mulOk i j = true
theorem natAbs_lt63 {i : Int} (h : i.natAbs < 2 ^ 63) : -(2 ^ 64) < i ∧ i < 2 ^ 64 := by omega
theorem op_mulA : OpR X (binaryOp .Mult) (rI CMulA fun i j => .int (i * j)) := opI fun i j _ _ _ _ _ hc q => mul_int q (by
  have hc : (decide (i.natAbs < 2 ^ 63) || decide (j.natAbs < 2 ^ 63) || (decide (i.natAbs < 2 ^ 20000) && decide (j.natAbs < 2 ^ 20000))) = true := hc
  rw [Bool.or_eq_true, Bool.or_eq_true, Bool.and_eq_true] at hc
  rcases hc with (h | h) | ⟨h1, h2⟩
  · exact CMul.ok (.inl (natAbs_lt63 (of_decide_eq_true h)))
  · exact CMul.ok (.inr (natAbs_lt63 (of_decide_eq_true h)))
  · exact CMulW.ok (wide_mul (of_decide_eq_true h1) (of_decide_eq_true h2) (by decide) (by decide) (by decide)))
abbrev rMulA : R2 := fun x y H Q => rI CMulA (fun i j => .int (i * j)) x y H Q ∨ rRep x y H Q
theorem or_mul : OpR X (binaryOp .Mult) rMulA := op_mulA.or op_rep
theorem os_mul : OpS L rMulA dMul := by
  intro a b d x y H A Q e ra rb hA q
  cases a with
  | int i =>
    cases b with
    | int j =>
      have e : (if mulOk i j = true then some (D.int (i * j)) else none) = some d := e
      split at e
      · rename_i hz
        cases e
        exact .inl ⟨i, j, ra.int, rb.int, hz, q _ H (.refl _) .mk_int⟩
      · cases e
    | _ => cases e
  | lst xs =>
    cases b with
    | int k =>
      have e : (if k.natAbs < 2 ^ 62 ∧ xs.length * k.toNat ≤ 16000000 then some (D.lst (List.replicate k.toNat xs).flatten) else none) = some d := e
      split at e
      · rename_i hz
        cases e
        obtain ⟨p, vs, rfl, hp, r1⟩ := ra.lst
        refine .inr ⟨p, k, vs, rfl, rb.int, hp, by omega, by omega, by rw [r1.length]; exact small16 hz.2, fun n hn => q _ _ (.of (same_upd hn)) (new_lst hA hn (r1.rep _))⟩
      · cases e
    | _ => cases e
  | _ => cases e
theorem os_fdiv : OpS L (rI CDivW fun i j => .int (i / j)) dFdiv := by
  intro a b d x y H A Q e ra rb hA q
  cases a with
  | int i =>
    cases b with
    | int j =>
      have e : (if 0 < j ∧ j.natAbs < 2 ^ 8000 then some (D.int (i / j)) else none) = some d := e
      split at e
      · rename_i hz
        cases e
        exact ⟨i, j, ra.int, rb.int, wide_div hz.1 hz.2 (by decide) (by decide), q _ H (.refl _) .mk_int⟩
      · cases e
    | _ => cases e
  | _ => cases e
theorem os_mod : OpS L (rI (fun _ j => 0 < j) fun i j => .int (i % j)) dMod := by
  intro a b d x y H A Q e ra rb hA q
  cases a with
  | int i =>
    cases b with
    | int j =>
      have e : (if 0 < j then some (D.int (i % j)) else none) = some d := e
      split at e
      · rename_i hz
        cases e
        exact ⟨i, j, ra.int, rb.int, hz, q _ H (.refl _) .mk_int⟩
      · cases e
    | _ => cases e
  | _ => cases e
theorem os_pow : OpS L (rI CPow fun i j => .int (i ^ j.toNat)) dPow := by
  intro a b d x y H A Q e ra rb hA q
  cases a with
  | int i =>
    cases b with
    | int j =>
      have e : (if 0 ≤ j ∧ j ≤ 1000000 ∧ i.natAbs < 2 ^ 64 then some (D.int (i ^ j.toNat)) else none) = some d := e
      split at e
      · rename_i hz
        cases e
        exact ⟨i, j, ra.int, rb.int, hz, q _ H (.refl _) .mk_int⟩
      · cases e
    | _ => cases e
  | _ => cases e
theorem us_neg : UnS L (rU fun i => .int (-i)) dNeg := by
  intro a d x H A Q e ra hA q
  cases a with
  | int i => cases e; exact ⟨i, ra.int, q _ H (.refl _) .mk_int⟩
  | _ => cases e

def dLt : D → D → Option D
  | .int i, .int j => some (.bl (decide (i < j)))
  | _, _ => none
def dLe : D → D → Option D
  | .int i, .int j => some (.bl (decide (i ≤ j)))
  | _, _ => none
def dGt : D → D → Option D
  | .int i, .int j => some (.bl (decide (j < i)))
  | _, _ => none
def dGe : D → D → Option D
  | .int i, .int j => some (.bl (decide (j ≤ i)))
  | _, _ => none
theorem os_int {g : Int → Int → Bool} {f : D → D → Option D} (h : ∀ i j, f (.int i) (.int j) = some (.bl (g i j))) (h2 : ∀ a b d, f a b = some d → ∃ i j, a = .int i ∧ b = .int j) : OpS L (rI0 fun i j => .bl (g i j)) f := by
  intro a b d x y H A Q e ra rb hA q
  obtain ⟨i, j, rfl, rfl⟩ := h2 a b d e
  rw [h] at e
  cases e
  exact ⟨i, j, ra.int, rb.int, q _ H (.refl _) .mk_bl⟩
theorem os_lt : OpS L (rI0 fun i j => .bl (decide (i < j))) dLt := os_int (g := fun i j => decide (i < j)) (fun _ _ => rfl) fun a b d e => by cases a <;> cases b <;> first | exact ⟨_, _, rfl, rfl⟩ | cases e
theorem os_le : OpS L (rI0 fun i j => .bl (decide (i ≤ j))) dLe := os_int (g := fun i j => decide (i ≤ j)) (fun _ _ => rfl) fun a b d e => by cases a <;> cases b <;> first | exact ⟨_, _, rfl, rfl⟩ | cases e
theorem os_gt : OpS L (rI0 fun i j => .bl (decide (j < i))) dGt := os_int (g := fun i j => decide (j < i)) (fun _ _ => rfl) fun a b d e => by cases a <;> cases b <;> first | exact ⟨_, _, rfl, rfl⟩ | cases e
theorem os_ge : OpS L (rI0 fun i j => .bl (decide (j ≤ i))) dGe := os_int (g := fun i j => decide (j ≤ i)) (fun _ _ => rfl) fun a b d e => by cases a <;> cases b <;> first | exact ⟨_, _, rfl, rfl⟩ | cases e

mutual
def D.py : D → Option PyData
  | .non => some .none
  | .bl b => some (.bool b)
  | .int i => some (.int i)
  | .str x => some (.str x)
  | .tup xs => (D.pys xs).map .tuple
  | .lst xs => (D.pys xs).map .list
  | _ => none
def D.pys : List D → Option (List PyData)
  | [] => some []
  | d :: ds => (D.py d).bind fun p => (D.pys ds).map (p :: ·)
end
mutual
theorem dp_of {F : Hp} : ∀ {d : D} {v : V} {p : PyData}, Rp L F d v → d.py = some p → Dp L.K F v p
  | .non, v, p, r, e => by cases e; rw [Rp.non_iff.mp r]; exact .non
  | .bl b, v, p, r, e => by cases e; rw [Rp.bl_iff.mp r]; exact .bl b
  | .int b, v, p, r, e => by cases e; rw [Rp.int_iff.mp r]; exact .int b
  | .str b, v, p, r, e => by cases e; rw [Rp.str_iff.mp r]; exact .str b
  | .tup ds, v, p, r, e => by
    unfold D.py at e
    obtain ⟨ps, e1, rfl⟩ := Option.map_eq_some_iff.mp e
    obtain ⟨a, vs, rfl, h, rr⟩ := Rp.tup_iff.mp r
    exact .tup h (dps_of rr e1)
  | .lst ds, v, p, r, e => by
    unfold D.py at e
    obtain ⟨ps, e1, rfl⟩ := Option.map_eq_some_iff.mp e
    obtain ⟨a, vs, rfl, h, rr⟩ := Rp.lst_iff.mp r
    exact .lst (.inl (.inl h)) (dps_of rr e1)
  | .dct _ _, _, _, _, e => by unfold D.py at e; cases e
  | .set _, _, _, _, e => by unfold D.py at e; cases e
  | .obj _ _, _, _, _, e => by unfold D.py at e; cases e
  | .scr _, _, _, _, e => by unfold D.py at e; cases e
  | .exc _ _ _, _, _, _, e => by unfold D.py at e; cases e
  | .ins _ _ _, _, _, _, e => by unfold D.py at e; cases e
  | .dki _ _, _, _, _, e => by unfold D.py at e; cases e
  | .ptup _, _, _, _, e => by unfold D.py at e; cases e
theorem dps_of {F : Hp} : ∀ {ds : List D} {vs : List V} {ps : List PyData}, Rps L F ds vs → D.pys ds = some ps → DpAll L.K F vs ps
  | [], vs, ps, r, e => by unfold Rps at r; unfold D.pys at e; cases e; subst r; exact .nil
  | d :: ds, vs, ps, r, e => by
    unfold Rps at r
    unfold D.pys at e
    obtain ⟨p, e1, e2⟩ := Option.bind_eq_some_iff.mp e
    obtain ⟨qs, e3, rfl⟩ := Option.map_eq_some_iff.mp e2
    obtain ⟨v, vr, rfl, r1, r2⟩ := r
    exact .cons (dp_of r1 e1) (dps_of r2 e3)
end
mutual
theorem Dp.up {K : PySem.W.Frag} {F H : Hp} (e : Same F H) : ∀ {p : PyData} {v : V}, Dp K F v p → Dp K H v p
  | .none, _, h => by cases h; exact .non
  | .bool _, _, h => by cases h; exact .bl _
  | .int _, _, h => by cases h; exact .int _
  | .str _, _, h => by cases h; exact .str _
  | .list _, _, h => by cases h with | lst a b => exact .lst (e.seq a) (Dp.ups e b)
  | .tuple _, _, h => by cases h with | tup a b => exact .tup (SqT.same e a) (Dp.ups e b)
  | .dict _, _, h => by cases h
theorem Dp.ups {K : PySem.W.Frag} {F H : Hp} (e : Same F H) : ∀ {ps : List PyData} {vs : List V}, DpAll K F vs ps → DpAll K H vs ps
  | [], _, h => by cases h; exact .nil
  | _ :: _, _, h => by cases h with | cons a b => exact .cons (Dp.up e a) (Dp.ups e b)
end
theorem dp_bp {F H : Hp} (s : Same F H) {d : D} {v : V} {p : PyData} (r : Bp L F H d v) (e : d.py = some p) : Dp L.K H v p := by
  cases d with
  | lst ds =>
    unfold D.py at e
    obtain ⟨ps, e1, rfl⟩ := Option.map_eq_some_iff.mp e
    obtain ⟨a, vs, rfl, h, rr⟩ := r.lst
    exact .lst (.inl (.inl h)) (Dp.ups s (dps_of rr e1))
  | dct _ _ => unfold D.py at e; cases e
  | dki _ _ => unfold D.py at e; cases e
  | obo _ _ _ => unfold D.py at e; cases e
  | _ => exact Dp.up s (dp_of r e)
def eqD (a b : D) : Option Bool :=
  match a.py, b.py with
  | some p, some q => if SeqAt.shaped p = true ∧ SeqAt.shaped q = true then some (PyData.eqv p q) else none
  | _, _ => none
def dEq (a b : D) : Option D := (eqD a b).map .bl
def dNe (a b : D) : Option D := (eqD a b).map fun k => .bl (!k)
theorem eqD_some {a b : D} {k : Bool} (h : eqD a b = some k) : ∃ p q, a.py = some p ∧ b.py = some q ∧ SeqAt.shaped p = true ∧ SeqAt.shaped q = true ∧ k = PyData.eqv p q := by
  unfold eqD at h
  split at h
  · rename_i p q e1 e2
    split at h
    · rename_i hz
      cases h
      exact ⟨p, q, e1, e2, hz.1, hz.2, rfl⟩
    · cases h
  · cases h
theorem os_eq : OpS L (rEqD L.K) dEq := by
  intro a b d x y H A Q e ra rb hA q
  obtain ⟨k, e1, rfl⟩ := Option.map_eq_some_iff.mp e
  obtain ⟨p, p', e2, e3, s1, s2, rfl⟩ := eqD_some e1
  exact ⟨p, p', dp_bp hid_le ra e2, dp_bp hid_le rb e3, s1, s2, q _ H (.refl _) .mk_bl⟩
theorem os_ne : OpS L (rNeD L.K) dNe := by
  intro a b d x y H A Q e ra rb hA q
  obtain ⟨k, e1, rfl⟩ := Option.map_eq_some_iff.mp e
  obtain ⟨p, p', e2, e3, s1, s2, rfl⟩ := eqD_some e1
  exact ⟨p, p', dp_bp hid_le ra e2, dp_bp hid_le rb e3, s1, s2, q _ H (.refl _) .mk_bl⟩
def inDs (a : Option PyData) (b : Option (List PyData)) : Option Bool :=
  match a, b with
  | some p, some ps => if SeqAt.shaped p = true ∧ SeqAt.shaped (.list ps) = true then some (ps.any fun z => PyData.eqv z p) else none
  | _, _ => none
def inD (a b : D) : Option Bool :=
  match b with
  | .lst ys => inDs a.py (D.pys ys)
  | _ => none
def dIn (a b : D) : Option D := (inD a b).map .bl
def dNotIn (a b : D) : Option D := (inD a b).map fun k => .bl (!k)
theorem inD_some {a b : D} {k : Bool} (h : inD a b = some k) : ∃ ys p ps, b = .lst ys ∧ a.py = some p ∧ b.py = some (.list ps) ∧ SeqAt.shaped p = true ∧ SeqAt.shaped (.list ps) = true ∧ k = ps.any fun z => PyData.eqv z p := by
  cases b with
  | lst ys =>
    have h : inDs a.py (D.pys ys) = some k := h
    unfold inDs at h
    split at h
    · rename_i p ps e1 e2
      split at h
      · rename_i hz
        cases h
        exact ⟨ys, p, ps, rfl, e1, by unfold D.py; rw [e2]; rfl, hz.1, hz.2, rfl⟩
      · cases h
    · cases h
  | _ => cases h
theorem os_in : OpS L (rInD L.K) dIn := by
  intro a b d x y H A Q e ra rb hA q
  obtain ⟨k, e1, rfl⟩ := Option.map_eq_some_iff.mp e
  obtain ⟨ys, p, ps, rfl, e2, e3, s1, s2, rfl⟩ := inD_some e1
  exact ⟨p, ps, dp_bp hid_le ra e2, dp_bp hid_le rb e3, s1, s2, q _ H (.refl _) .mk_bl⟩
theorem os_notIn : OpS L (rNotInD L.K) dNotIn := by
  intro a b d x y H A Q e ra rb hA q
  obtain ⟨k, e1, rfl⟩ := Option.map_eq_some_iff.mp e
  obtain ⟨ys, p, ps, rfl, e2, e3, s1, s2, rfl⟩ := inD_some e1
  exact ⟨p, ps, dp_bp hid_le ra e2, dp_bp hid_le rb e3, s1, s2, q _ H (.refl _) .mk_bl⟩
def isNon : D → Bool
  | .non => true
  | _ => false
theorem Rp.dec_non {F : Hp} {d : D} {v : V} (r : Rp L F d v) : decide (v = .non) = Sm.isNon d := by
  cases d with
  | non => rw [Rp.non_iff.mp r]; rfl
  | bl b => rw [Rp.bl_iff.mp r]; rfl
  | int b => rw [Rp.int_iff.mp r]; rfl
  | str b => rw [Rp.str_iff.mp r]; rfl
  | tup ds => obtain ⟨a, vs, rfl, _⟩ := Rp.tup_iff.mp r; rfl
  | lst ds => obtain ⟨a, vs, rfl, _⟩ := Rp.lst_iff.mp r; rfl
  | scr ds => obtain ⟨a, vs, rfl, _⟩ := Rp.scr_iff.mp r; rfl
  | dct _ _ => obtain ⟨a, es, rfl, _⟩ := Rp.dct_iff.mp r; rfl
  | dki _ _ => obtain ⟨a, es, rfl, _⟩ := Rp.dki_iff.mp r; rfl
  | ptup _ => obtain ⟨a, es, rfl, _⟩ := Rp.ptup_iff.mp r; rfl
  | set _ => rcases Rp.set_iff.mp r with ⟨a, ns, rfl, _⟩ | ⟨a, ks, L', rfl, _⟩ <;> rfl
  | obj _ _ => rcases Rp.obj_iff.mp r with ⟨a, dx, vs, rfl, _⟩ | ⟨rfl, _⟩ <;> rfl
  | exc _ _ _ => obtain ⟨a, dx, vs, rfl, _⟩ := Rp.exc_iff.mp r; rfl
  | ins _ _ _ => obtain ⟨a, dx, vs, rfl, _⟩ := Rp.ins_iff.mp r; rfl
  | obo _ _ _ => exact r.obo_no.elim
theorem Bp.dec_non {F H : Hp} {d : D} {v : V} (r : Bp L F H d v) : decide (v = .non) = Sm.isNon d := by
  cases d with
  | lst ds => obtain ⟨a, vs, rfl, _⟩ := r.lst; rfl
  | dct ks us => obtain ⟨a, vs, rfl, _⟩ := r; rfl
  | dki ks us => obtain ⟨a, vs, rfl, _⟩ := r; rfl
  | obo c ns fs => obtain ⟨a, rfl, _⟩ := r; rfl
  | _ => exact Rp.dec_non (L := L) (F := F) r
def dIs (a b : D) : Option D := if isNon b = true then some (.bl (isNon a)) else none
theorem os_is : OpS L (fun x y H Q => y = .non ∧ Q (.bl (decide (x = .non))) H) dIs := by
  intro a b d x y H A Q e ra rb hA q
  unfold dIs at e
  split at e
  · rename_i hz
    cases e
    have hb : b = .non := by cases b <;> first | rfl | cases hz
    subst hb
    refine ⟨rb.non, ?_⟩
    rw [ra.dec_non]
    exact q _ H (.refl _) .mk_bl
  · cases e
def dIx : D → D → Option D
  | .lst xs, .int i => HT_at xs i
  | .tup xs, .int i => HT_at xs i
  | .scr xs, .int i => HT_at xs i
  | .str z, .int i => if z.length ≤ 16000000 then (HT_atN z.cps.toList i).map fun c => .str ⟨#[c]⟩ else none
  | _, _ => none
where
  HT_at (xs : List D) (i : Int) : Option D := atI xs i
  HT_atN (xs : List Nat) (i : Int) : Option Nat := atI xs i
theorem Rps.atI {F : Hp} {ds : List D} {vs : List V} {i : Int} {d : D} (r : Rps L F ds vs) (h : L2.atI ds i = some d) : ∃ v, L2.atI vs i = some v ∧ Rp L F d v := by
  unfold L2.atI at h ⊢
  rw [r.length]
  obtain ⟨j, e1, e2⟩ := Option.bind_eq_some_iff.mp h
  obtain ⟨v, h1, h2⟩ := r.get e2
  exact ⟨v, by rw [e1]; exact h1, h2⟩
theorem os_ix : OpS L (rIx L.K) dIx := by
  intro a b d x y H A Q e ra rb hA q
  cases b with
  | int i =>
    cases a with
    | lst ds =>
      obtain ⟨p, vs, rfl, h, rr⟩ := ra.lst
      obtain ⟨v, h1, h2⟩ := rr.atI (show L2.atI ds i = some d from e)
      exact .inl ⟨p, vs, i, v, rfl, rb.int, .inl (.inl h), h1, q _ H (.refl _) h2⟩
    | scr ds =>
      obtain ⟨p, vs, rfl, h, rr⟩ := ra.scr
      obtain ⟨v, h1, h2⟩ := rr.atI (show L2.atI ds i = some d from e)
      exact .inl ⟨p, vs, i, v, rfl, rb.int, hid_le.seq h, h1, q _ H (.refl _) h2⟩
    | tup ds =>
      obtain ⟨p, vs, rfl, h, rr⟩ := ra.tup
      obtain ⟨v, h1, h2⟩ := rr.atI (show L2.atI ds i = some d from e)
      exact .inr (.inl ⟨p, vs, i, v, rfl, rb.int, SqT.same hid_le h, h1, q _ H (.refl _) h2⟩)
    | str z =>
      have e : (if z.length ≤ 16000000 then (L2.atI z.cps.toList i).map fun c => D.str ⟨#[c]⟩ else none) = some d := e
      split at e
      · rename_i hz
        obtain ⟨c, e1, rfl⟩ := Option.map_eq_some_iff.mp e
        exact .inr (.inr ⟨z, i, c, ra.str, rb.int, small16 hz, e1, q _ H (.refl _) .mk_str⟩)
      · cases e
    | _ => cases e
  | _ => cases a <;> cases e
end
end Sm
set_option Elab.async false
set_option linter.all false
set_option maxRecDepth 100000
set_option maxHeartbeats 400000
namespace Sm
open PySem PySem.Spec PyProof.Rows L2

def wipeS (τ : List Sl) : List Nat → List Sl
  | [] => τ
  | v :: vs => (wipeS τ vs).set v .un
def allUn (τ : List Sl) (vs : List Nat) : Bool := vs.all fun i => match τ[i]? with | some .un => true | _ => false
theorem allUn_get {τ : List Sl} {vs : List Nat} {i : Nat} (h : allUn τ vs = true) (hi : i ∈ vs) : τ[i]? = some .un := by
  have q := List.all_eq_true.mp h i hi
  revert q
  cases e : τ[i]? with
  | none => intro q; cases q
  | some t => cases t <;> intro q <;> first | rfl | cases q
theorem wipe_get {σ : L2.St} {i : Nat} : ∀ {vs : List Nat}, i ∉ vs → (wipe σ vs)[i]? = σ[i]?
  | [], _ => rfl
  | v :: vs, h => by
    have h1 : v ≠ i := fun e => h (by rw [e]; exact List.mem_cons_self)
    have h2 : i ∉ vs := fun e => h (List.mem_cons_of_mem _ e)
    show ((wipe σ vs).set v none)[i]? = σ[i]?
    rw [List.getElem?_set_ne h1]
    exact wipe_get h2
theorem wipeS_get {τ : List Sl} {i : Nat} : ∀ {vs : List Nat}, i ∉ vs → (wipeS τ vs)[i]? = τ[i]?
  | [], _ => rfl
  | v :: vs, h => by
    have h1 : v ≠ i := fun e => h (by rw [e]; exact List.mem_cons_self)
    have h2 : i ∉ vs := fun e => h (List.mem_cons_of_mem _ e)
    show ((wipeS τ vs).set v .un)[i]? = τ[i]?
    rw [List.getElem?_set_ne h1]
    exact wipeS_get h2
theorem wipeS_length (τ : List Sl) : ∀ vs : List Nat, (wipeS τ vs).length = τ.length
  | [] => rfl
  | v :: vs => by
    show ((wipeS τ vs).set v .un).length = _
    rw [List.length_set, wipeS_length]
theorem wipeS_un {τ : List Sl} {i : Nat} {t : Sl} : ∀ {vs : List Nat}, i ∈ vs → (wipeS τ vs)[i]? = some t → t = .un
  | [], h, _ => by cases h
  | v :: vs, h, e => by
    have e : ((wipeS τ vs).set v .un)[i]? = some t := e
    by_cases hv : v = i
    · subst hv
      by_cases hl : v < (wipeS τ vs).length
      · rw [List.getElem?_set_self hl] at e; cases e; rfl
      · rw [List.getElem?_eq_none (by rw [List.length_set]; omega)] at e; cases e
    · rw [List.getElem?_set_ne hv] at e
      rcases List.mem_cons.mp h with z | z
      · exact absurd z.symm hv
      · exact wipeS_un z e
theorem wipeS_all {τ : List Sl} {vs : List Nat} (h : ∀ i ∈ vs, i < τ.length) : allUn (wipeS τ vs) vs = true := by
  refine List.all_eq_true.mpr fun i hi => ?_
  have hl : i < (wipeS τ vs).length := by rw [wipeS_length]; exact h i hi
  have e := wipeS_un hi (List.getElem?_eq_getElem hl)
  rw [List.getElem?_eq_getElem hl, e]
theorem wipe_set2 {σ : L2.St} {i : Nat} {x y : Option V} : ∀ vs : List Nat, (wipe (σ.set i x) vs).set i y = (wipe σ vs).set i y
  | [] => by
    show (σ.set i x).set i y = σ.set i y
    rw [List.set_set]
  | v :: vs => by
    show ((wipe (σ.set i x) vs).set v none).set i y = ((wipe σ vs).set v none).set i y
    by_cases h : v = i
    · subst h
      rw [List.set_set, List.set_set]
      exact wipe_set2 vs
    · rw [List.set_comm _ _ h, List.set_comm _ _ h, wipe_set2 vs]
theorem wipe_set {σ : L2.St} {i : Nat} {x : Option V} : ∀ {vs : List Nat}, i ∈ vs → wipe (σ.set i x) vs = wipe σ vs
  | [], h => by cases h
  | v :: vs, h => by
    show (wipe (σ.set i x) vs).set v none = (wipe σ vs).set v none
    by_cases hv : v = i
    · subst hv; exact wipe_set2 vs
    · rcases List.mem_cons.mp h with z | z
      · exact absurd z.symm hv
      · rw [wipe_set z]

section
variable {L : Lay} {P : Pa} {W : WX} {X : Cx} {E : L2.St → XK} {pos : Pos} {H H' : Hp} {σ : L2.St} {τ : List Sl} {vs : List Nat}
theorem ownAt_wipe (h : allUn τ vs = true) (i : Nat) (a : Addr) : OwnAt (wipe σ vs) τ i a ↔ OwnAt σ τ i a := by
  by_cases hi : i ∈ vs
  · have e := allUn_get h hi
    constructor <;> · rintro ⟨_, t, et, ow⟩; rw [e] at et; cases et; cases ow
  · unfold OwnAt
    rw [wipe_get hi]
theorem own_wipe (h : allUn τ vs = true) (a : Addr) : Own (wipe σ vs) τ a ↔ Own σ τ a := ⟨fun ⟨i, q⟩ => ⟨i, (ownAt_wipe h i a).mp q⟩, fun ⟨i, q⟩ => ⟨i, (ownAt_wipe h i a).mpr q⟩⟩
theorem Tr.iff {A A' B B' : Addr → Prop} (x : Tr H A H' A') (h : ∀ a, A a ↔ B a) (h' : ∀ a, A' a ↔ B' a) : Tr H B H' B' :=
  ⟨fun a o e n => x.keep0 a o e fun z => n (z.mono fun b q => (h b).mp q), fun a q => (x.new a ((h' a).mpr q)).elim (fun z => .inl ((h a).mp z)) .inr, x.there⟩
theorem StR.slots {σ' : L2.St} (R : StR L P H σ τ) (hl : σ'.length = σ.length) (h : ∀ (i : Nat) (t : Sl), τ[i]? = some t → t = Sl.un ∨ σ'[i]? = σ[i]?) : StR L P H σ' τ ∧ ∀ a, Own σ' τ a ↔ Own σ τ a := by
  have at1 : ∀ (i : Nat) (a : Addr), OwnAt σ' τ i a ↔ OwnAt σ τ i a := fun i a => by
    unfold OwnAt
    constructor
    · rintro ⟨e, t, et, ow⟩
      rcases h i t et with rfl | q
      · cases ow
      · exact ⟨by rw [← q]; exact e, t, et, ow⟩
    · rintro ⟨e, t, et, ow⟩
      rcases h i t et with rfl | q
      · cases ow
      · exact ⟨by rw [q]; exact e, t, et, ow⟩
  have oo : ∀ a, Own σ' τ a ↔ Own σ τ a := fun a => ⟨fun ⟨i, q⟩ => ⟨i, (at1 i a).mp q⟩, fun ⟨i, q⟩ => ⟨i, (at1 i a).mpr q⟩⟩
  have mono : Same (hid H (Hd P σ τ)) (hid H (Hd P σ' τ)) := hid_mono (.refl _) fun a z => z.elim (fun q => .inl ((oo a).mp q)) .inr
  refine ⟨⟨hl.trans R.len, fun i j a x y => R.inj i j a ((at1 i a).mp x) ((at1 j a).mp y), fun a q => R.dis a ((oo a).mp q), R.bth0, fun i t e => ?_⟩, oo⟩
  have q := R.sl i t e
  rcases h i t e with rfl | hs
  · trivial
  · rw [hs]
    cases t with
    | un => trivial
    | fz d' => obtain ⟨v, e2, r2⟩ := q; exact ⟨v, e2, r2.same mono⟩
    | ow d' => obtain ⟨b, e2, r2⟩ := q; exact ⟨b, e2, r2.step mono rfl⟩
    | le d' => obtain ⟨b, e2, r2⟩ := q; exact ⟨b, e2, r2.step mono rfl⟩
    | io k d' => obtain ⟨b, e2, e3, r2⟩ := q; exact ⟨b, e2, e3, r2.step mono rfl⟩
    | oo d' => obtain ⟨b, e2, r2⟩ := q; exact ⟨b, e2, r2.step mono rfl⟩
theorem StR.wipe (R : StR L P H σ τ) (h : allUn τ vs = true) : StR L P H (L2.wipe σ vs) τ :=
  (R.slots (L2.wipe_length σ vs) fun i t e => by
    by_cases hi : i ∈ vs
    · rw [allUn_get h hi] at e; cases e; exact .inl rfl
    · exact .inr (wipe_get hi)).1
theorem StR.unwipe (R : StR L P H (L2.wipe σ vs) τ) (h : allUn τ vs = true) : StR L P H σ τ :=
  (R.slots (L2.wipe_length σ vs).symm fun i t e => by
    by_cases hi : i ∈ vs
    · rw [allUn_get h hi] at e; cases e; exact .inl rfl
    · exact .inr (wipe_get hi).symm).1
theorem StR.wipeS (R : StR L P H σ τ) : Tr H (Own σ τ) H (Own σ (wipeS τ vs)) ∧ StR L P H σ (wipeS τ vs) := by
  have get : ∀ (i : Nat) (t : Sl), (Sm.wipeS τ vs)[i]? = some t → t = Sl.un ∨ τ[i]? = some t := fun i t e => by
    by_cases hi : i ∈ vs
    · exact .inl (wipeS_un hi e)
    · rw [wipeS_get hi] at e; exact .inr e
  have sub : ∀ (i : Nat) (a : Addr), OwnAt σ (Sm.wipeS τ vs) i a → OwnAt σ τ i a := fun i a ⟨e, t, et, ow⟩ => by
    rcases get i t et with rfl | q
    · cases ow
    · exact ⟨e, t, q, ow⟩
  have tr : Tr H (Own σ τ) H (Own σ (Sm.wipeS τ vs)) := ⟨fun _ _ q _ => q, fun a ⟨i, q⟩ => .inl ⟨i, sub i a q⟩, fun _ o h => ⟨o, h⟩⟩
  refine ⟨tr, by rw [wipeS_length]; exact R.len, fun i j a x y => R.inj i j a (sub i a x) (sub j a y), fun a ⟨i, q⟩ => R.dis a ⟨i, sub i a q⟩, R.bth0, fun i t e => ?_⟩
  rcases get i t e with rfl | q
  · trivial
  · have q := R.sl i t q
    cases t with
    | un => trivial
    | fz d' => obtain ⟨v, e2, r2⟩ := q; exact ⟨v, e2, r2.same (R.fz tr)⟩
    | ow d' => obtain ⟨b, e2, r2⟩ := q; exact ⟨b, e2, r2.step (R.fz tr) rfl⟩
    | le d' => obtain ⟨b, e2, r2⟩ := q; exact ⟨b, e2, r2.step (R.fz tr) rfl⟩
    | io k d' => obtain ⟨b, e2, e3, r2⟩ := q; exact ⟨b, e2, e3, r2.step (R.fz tr) rfl⟩
    | oo d' => obtain ⟨b, e2, r2⟩ := q; exact ⟨b, e2, r2.step (R.fz tr) rfl⟩

def tC (L : Lay) (P : Pa) (vs : List Nat) (g : MG) : TG := fun v σ H Q => ∃ τ d τ', StR L P H σ τ ∧ Rp L (hid H (Hd P σ τ)) d v ∧ g d τ = some τ' ∧ ∀ σ' H', Tr H (Own σ τ) H' (Own σ' τ') → StR L P H' σ' τ' → L2.wipe σ' vs = L2.wipe σ vs → Q σ' H'
abbrev SC (L : Lay) (P : Pa) (vs : List Nat) (X : Cx) (tg : Expr) (g : MG) : Prop := PG X tg (tC L P vs g)
theorem sC_name {i : Nat} {x : Str} (hN : X.N.Nodup) (hi : X.N[i]? = some x) (hx : Loc X.env.scope x) (hv : i ∈ vs) (hf : X.fn x = true ∨ X.env.scope.names.lookup x = some .local := by first | exact .inl rfl | exact .inr rfl | assumption) : SC L P vs X (.Name x pos) (gN i) :=
  PG.weak (pg_name hN hi hx hf) fun v σ H Q ⟨τ, d, τ', R, r, e, q⟩ => by
    obtain ⟨hi, rfl⟩ := setFz_some e
    obtain ⟨tr, R2⟩ := R.setFz hi r
    exact q _ H tr R2 (wipe_set hv)
def tCs (L : Lay) (P : Pa) (vs : List Nat) (g : MGs) : TGs := fun us σ H Q => ∃ τ ds τ', StR L P H σ τ ∧ Rps L (hid H (Hd P σ τ)) ds us ∧ g ds τ = some τ' ∧ ∀ σ' H', Tr H (Own σ τ) H' (Own σ' τ') → StR L P H' σ' τ' → L2.wipe σ' vs = L2.wipe σ vs → Q σ' H'
abbrev SCs (L : Lay) (P : Pa) (vs : List Nat) (X : Cx) (tg : List Expr) (g : MGs) : Prop := PGs X tg (tCs L P vs g)
theorem sCs_nil : SCs L P vs X [] Sm.gNil :=
  PGs.weak pgs_nil fun us σ H Q ⟨τ, ds, τ', R, r, e, q⟩ => by
    cases ds with
    | nil => cases e; unfold Rps at r; exact ⟨r, q σ H .refl R rfl⟩
    | cons d r => cases e
theorem sCs_cons {e : Expr} {es : List Expr} {g : MG} {gs : MGs} (h1 : SC L P vs X e g) (h2 : SCs L P vs X es gs) (hs : (assignEach (e :: es) X.env).map (·.2) = assign e X.env :: (assignEach es X.env).map (·.2) := by rfl) : SCs L P vs X (e :: es) (Sm.gCons g gs) :=
  PGs.weak (pgs_cons h1 h2 hs) fun us σ H Q ⟨τ, ds, τ', R, r, e, q⟩ => by
    cases ds with
    | nil => cases e
    | cons d ds =>
      unfold Rps at r
      obtain ⟨v, vr, rfl, rd, rr⟩ := r
      obtain ⟨τ1, e1, e2⟩ := Option.bind_eq_some_iff.mp e
      refine ⟨v, vr, rfl, τ, d, τ1, R, rd, e1, fun σ1 H1 t1 R1 w1 => ?_⟩
      exact ⟨τ1, ds, τ', R1, Rps.same (R.fz t1) rr, e2, fun σ' H' t2 R2 w2 => q σ' H' (t1.trans t2) R2 (w2.trans w1)⟩
theorem sC_tup {es : List Expr} {k : Nat} {gs : MGs} {n : Nat} (hK : X.K = L.K) (hc : X.calm = true) (h : SCs L P vs X es gs)
    (hn : (assignEach es X.env).length = n := by rfl) (hst : (assignEach es X.env).findIdx? (·.1) = none := by rfl) : SC L P vs X (.Tuple es k pos) (gT n gs) :=
  PG.weak (Sm.PG.or (pg_tup hc h hn hst) (pg_lst hc h hn hst)) fun v σ H Q ⟨τ, d, τ', R, r, e, q⟩ => by
    cases d with
    | tup ds =>
      obtain ⟨a, us, rfl, s, rr⟩ := Rp.tup_iff.mp r
      have e : (if ds.length = n then gs ds τ else none) = some τ' := e
      by_cases hl : ds.length = n
      · rw [if_pos hl] at e
        refine .inl ⟨a, us, rfl, by rw [hK]; exact SqT.same hid_le s, by rw [rr.length]; exact hl, τ, ds, τ', R, rr, e, q⟩
      · rw [if_neg hl] at e; cases e
    | lst ds =>
      obtain ⟨a, us, rfl, s, rr⟩ := Rp.lst_iff.mp r
      have e : (if ds.length = n then gs ds τ else none) = some τ' := e
      by_cases hl : ds.length = n
      · rw [if_pos hl] at e
        refine .inr ⟨a, us, rfl, .inl (.inl (hid_le _ _ s)), by rw [rr.length]; exact hl, τ, ds, τ', R, rr, e, q⟩
      · rw [if_neg hl] at e; cases e
    | _ => cases e

abbrev STs (L : Lay) (P : Pa) (E : L2.St → XK) (X : Cx) (ifs : List Expr) (m : M Bool) : Prop := PTs X ifs (tT L P E m)
theorem PTs.weak {X : Cx} {e : List Expr} {t u : TT} (h : PTs X e t) (f : ∀ σ H Q, u σ H Q → t σ H Q) : PTs X e u := ⟨fun pins s σ H Q I q => h.run pins s σ H Q I (f σ H Q q)⟩
def mYes : M Bool := fun τ => .ok true τ
theorem sTs_nil : STs L P E X [] mYes := PTs.weak pts_nil fun σ H Q ⟨τ, R, h⟩ => h true H .refl R rfl
abbrev Eno : L2.St → XK := fun _ _ _ _ => False
def Res.nox {α : Type} (r : Res α) : Res α :=
  match r with
  | .exc _ _ _ => .fail
  | r => r
@[simp] theorem Res.nox_ok {α : Type} {a : α} {τ : List Sl} : (Res.ok a τ).nox = .ok a τ := rfl
@[simp] theorem Res.nox_exc {α : Type} {c : Nat} {xs : List D} {τ : List Sl} : (Res.exc c xs τ : Res α).nox = .fail := rfl
@[simp] theorem Res.nox_fail {α : Type} : (Res.fail : Res α).nox = .fail := rfl
def mLcGo (g : MG) (tt : M Bool) (m : M D) (vs : List Nat) : List D → M (List D)
  | [] => fun τ => .ok [] τ
  | d :: ds => fun τ =>
    match g d τ with
    | none => .fail
    | some τ => (tt τ).nox.bind fun k => fun τ =>
      if k = true then (m τ).nox.bind fun y => fun τ => (mLcGo g tt m vs ds (Sm.wipeS τ vs)).bind fun ys => fun τ => .ok (y :: ys) τ
      else mLcGo g tt m vs ds (Sm.wipeS τ vs)
def lcEnd (g : MG) (tt : M Bool) (m : M D) (vs : List Nat) (ds : List D) : M D := fun τ =>
  if ds.length ≤ 16000000 ∧ allUn τ vs = true then (mLcGo g tt m vs ds τ).nox.bind fun ys => fun τ => .ok (.lst ys) τ else .fail
def mLc (mi : M (List D)) (g : MG) (tt : M Bool) (m : M D) (vs : List Nat) : M D := fun τ => (mi τ).bind fun ds => lcEnd g tt m vs ds
theorem hide_D {D : Addr} (h : ∀ a, Own σ τ a → a ≠ D) (hb : ∀ a, P.B a → a ≠ D) : Same (hid (rid H D) (Hd P σ τ)) (hid H (Hd ⟨P.args, fun a => P.B a ∨ a = D⟩ σ τ)) ∧ Same (hid H (Hd ⟨P.args, fun a => P.B a ∨ a = D⟩ σ τ)) (hid (rid H D) (Hd P σ τ)) := by
  refine ⟨fun a o e => ?_, fun a o e => ?_⟩
  · obtain ⟨h1, h2, nk_h2⟩ := hid_some.mp e
    refine hid_some.mpr ⟨rid_le a o h1, fun z => ?_, by first | assumption | exact NoMk.no⟩
    rcases z with z | z | z
    · exact h2 (.inl z)
    · exact h2 (.inr z)
    · rw [z, rid_same] at h1; cases h1
  · obtain ⟨h1, h2, nk_h2⟩ := hid_some.mp e
    have hD : a ≠ D := fun z => h2 (.inr (.inr z))
    exact hid_some.mpr ⟨by rw [rid_ne hD]; exact h1, fun z => h2 (z.elim .inl fun z => .inr (.inl z)), by first | assumption | exact NoMk.no⟩
theorem StR.hideD {D : Addr} {o : HO} (R : StR L P (rid H D) σ τ) (hD : H D = some o) (mD : ¬ MkH o := by first | assumption | exact NoMk.no) : StR L ⟨P.args, fun a => P.B a ∨ a = D⟩ H σ τ := by
  have no : ∀ a, Own σ τ a → a ≠ D := fun a q z => by obtain ⟨o, e⟩ := R.own_there q; rw [z, rid_same] at e; cases e
  have nb : ∀ a, P.B a → a ≠ D := fun a q z => by obtain ⟨o, e⟩ := R.bth a q; rw [z, rid_same] at e; cases e
  have s := (hide_D (H := H) no nb).1
  refine ⟨R.len, R.inj, fun a q z => z.elim (R.dis a q) (no a q), fun a z => z.elim (fun q => let ⟨o, e, m⟩ := R.bth0 a q; ⟨o, rid_le a o e, m⟩) fun e => ⟨o, by rw [e]; exact hD, mD⟩, fun i t e => ?_⟩
  have st : ∀ {d' : Sm.D} {b : Addr}, OwR L (hid (rid H D) (Hd P σ τ)) (rid H D) d' b → OwR L (hid H (Hd ⟨P.args, fun a => P.B a ∨ a = D⟩ σ τ)) H d' b := fun {d' b} q => by
    obtain ⟨o, ho⟩ := q.there
    exact q.step s (by rw [ho]; exact rid_le b o ho)
  have stx : ∀ {d' : Sm.D} {b : Addr}, OwX L (hid (rid H D) (Hd P σ τ)) (rid H D) d' b → OwX L (hid H (Hd ⟨P.args, fun a => P.B a ∨ a = D⟩ σ τ)) H d' b := fun {d' b} q => by
    obtain ⟨o, ho⟩ := q.there
    exact q.step s (by rw [ho]; exact rid_le b o ho) fun b z => mk_rid z
  have q := R.sl i t e
  cases t with
  | un => trivial
  | fz d' => obtain ⟨v, e2, r2⟩ := q; exact ⟨v, e2, r2.same s⟩
  | ow d' => obtain ⟨b, e2, r2⟩ := q; exact ⟨b, e2, st r2⟩
  | le d' => obtain ⟨b, e2, r2⟩ := q; exact ⟨b, e2, st r2⟩
  | io k d' => obtain ⟨b, e2, e3, r2⟩ := q; exact ⟨b, e2, e3, stx r2⟩
  | oo d' => obtain ⟨b, e2, r2⟩ := q; exact ⟨b, e2, stx r2⟩
theorem StR.showD {D : Addr} (R : StR L ⟨P.args, fun a => P.B a ∨ a = D⟩ H σ τ) (hb : ¬ P.B D) : StR L P (rid H D) σ τ := by
  have no : ∀ a, Own σ τ a → a ≠ D := fun a q z => R.dis a q (.inr z)
  have nb : ∀ a, P.B a → a ≠ D := fun a q z => hb (by rw [← z]; exact q)
  have s := (hide_D (H := H) no nb).2
  refine ⟨R.len, R.inj, fun a q z => R.dis a q (.inl z), fun a z => let ⟨o, e, m⟩ := R.bth0 a (.inl z); ⟨o, by rw [rid_ne (nb a z)]; exact e, m⟩, fun i t e => ?_⟩
  have st : ∀ {d' : Sm.D} {b : Addr}, OwnAt σ τ i b → OwR L (hid H (Hd ⟨P.args, fun a => P.B a ∨ a = D⟩ σ τ)) H d' b → OwR L (hid (rid H D) (Hd P σ τ)) (rid H D) d' b := fun {d' b} oa q => q.step s (rid_ne (no b ⟨i, oa⟩))
  have nm : ∀ o, H D = some o → ¬ MkH o := fun o e => by
    obtain ⟨u, e2, m⟩ := R.bth0 D (.inr rfl)
    rw [e] at e2; cases e2; exact m
  have stx : ∀ {d' : Sm.D} {b : Addr}, OwnAt σ τ i b → OwX L (hid H (Hd ⟨P.args, fun a => P.B a ∨ a = D⟩ σ τ)) H d' b → OwX L (hid (rid H D) (Hd P σ τ)) (rid H D) d' b := fun {d' b} oa q => q.step s (rid_ne (no b ⟨i, oa⟩)) fun b z => rid_mk nm z
  have q := R.sl i t e
  cases t with
  | un => trivial
  | fz d' => obtain ⟨v, e2, r2⟩ := q; exact ⟨v, e2, r2.same s⟩
  | ow d' => obtain ⟨b, e2, r2⟩ := q; exact ⟨b, e2, st ⟨e2, _, e, rfl⟩ r2⟩
  | le d' => obtain ⟨b, e2, r2⟩ := q; exact ⟨b, e2, st ⟨e2, _, e, rfl⟩ r2⟩
  | io k d' => obtain ⟨b, e2, e3, r2⟩ := q; exact ⟨b, e2, e3, stx ⟨e2, _, e, rfl⟩ r2⟩
  | oo d' => obtain ⟨b, e2, r2⟩ := q; exact ⟨b, e2, stx ⟨e2, _, e, rfl⟩ r2⟩
theorem Tr.rid {A A' : Addr → Prop} {D : Addr} (t : Tr H A H' A') (hn : ∀ a, A' a → a ≠ D) : Tr (rid H D) A (rid H' D) A' :=
  ⟨fun a o e n => by
    have hD : a ≠ D := fun z => by rw [z, rid_same] at e; cases e
    rw [rid_ne hD] at e ⊢
    exact t.keep0 a o e fun z => n (z.imp id fun ⟨p, e, q⟩ => ⟨p, by rw [rid_ne hD]; exact e, q.imp id fun e => by
      by_cases hp : p = D
      · rw [hp, rid_same]
      · rw [rid_ne hp]; exact e⟩), fun a q => (t.new a q).elim .inl fun e => .inr (by rw [rid_ne (hn a q)]; exact e), fun a o e => by
    have hD : a ≠ D := fun z => by rw [z, rid_same] at e; cases e
    rw [rid_ne hD] at e ⊢
    exact t.there a o e⟩
theorem wipe_idem {σ : L2.St} : ∀ (us vs : List Nat), (∀ i ∈ us, i ∈ vs) → L2.wipe (L2.wipe σ us) vs = L2.wipe σ vs
  | [], _, _ => rfl
  | v :: us, vs, h => by
    show L2.wipe ((L2.wipe σ us).set v none) vs = L2.wipe σ vs
    rw [wipe_set (h v List.mem_cons_self)]
    exact wipe_idem us vs fun i hi => h i (List.mem_cons_of_mem _ hi)
theorem rid_upd2 {D : Addr} {o : HO} : rid (upd H D o) D = rid H D := by
  funext b
  by_cases e : b = D
  · rw [e, rid_same, rid_same]
  · rw [rid_ne e, rid_ne e, upd_ne e]
theorem turn_end {D : Addr} {H2 H6 : Hp} {σ4 : L2.St} {τ2 τ6 : List Sl} (hb : ¬ P.B D) (u2 : allUn τ2 vs = true) (hl : σ4.length = σ.length) (R2 : StR L ⟨P.args, fun a => P.B a ∨ a = D⟩ H2 (L2.wipe σ vs) τ2) (t : Tr H2 (Own (L2.wipe σ vs) τ2) H6 (Own σ4 τ6)) (R6 : StR L ⟨P.args, fun a => P.B a ∨ a = D⟩ H6 σ4 τ6) (w : L2.wipe σ4 vs = L2.wipe (L2.wipe σ vs) vs) :
    StR L P (rid H6 D) (L2.wipe σ vs) (Sm.wipeS τ6 vs) ∧ Tr (rid H2 D) (Own σ τ2) (rid H6 D) (Own σ (Sm.wipeS τ6 vs)) ∧ allUn (Sm.wipeS τ6 vs) vs = true := by
  have w : L2.wipe σ4 vs = L2.wipe σ vs := w.trans (wipe_idem vs vs fun _ h => h)
  have u : allUn (Sm.wipeS τ6 vs) vs = true := wipeS_all fun i hi => by
    have h2 := allUn_get u2 hi
    have := (List.getElem?_eq_some_iff.mp h2).1
    have l2 := R2.len
    have l6 := R6.len
    rw [L2.wipe_length] at l2
    omega
  have S6 := R6.showD hb
  obtain ⟨tw, S7⟩ := S6.wipeS (vs := vs)
  have S8 := S7.wipe u
  rw [w] at S8
  have t2 : Tr (rid H2 D) (Own (L2.wipe σ vs) τ2) (rid H6 D) (Own σ4 τ6) := Tr.rid t fun a q z => R6.dis a q (.inr z)
  refine ⟨S8, (t2.trans tw).iff (own_wipe u2) (fun a => ?_), u⟩
  rw [← own_wipe u a, w, own_wipe u a]
def LcEnd (L : Lay) (P : Pa) (Q : VK) (H1 : Hp) (σ : L2.St) (τ1 : List Sl) (D : Addr) (accd : List Sm.D) (r : Res (List Sm.D)) : Prop :=
  match r with
  | .ok ys τe => ∀ H', Tr H1 (Own σ τ1) (rid H' D) (Own σ τe) → StR L P (rid H' D) σ τe → OwR L (hid (rid H' D) (Hd P σ τe)) H' (.lst (accd ++ ys)) D → Q (.ref D) H'
  | _ => False
theorem PE.exB {X : Cx} {e : Expr} {m : M D} {A : List V} (h : ∀ P : Pa, PE X e (tE L P E m)) : PE X e (fun σ H Q => ∃ B, tE L ⟨A, B⟩ E m σ H Q) := ⟨fun pins s σ H Q I ⟨B, q⟩ => (h ⟨A, B⟩).run pins s σ H Q I q⟩
theorem PTs.exB {X : Cx} {e : List Expr} {m : M Bool} {A : List V} (h : ∀ P : Pa, PTs X e (tT L P E m)) : PTs X e (fun σ H Q => ∃ B, tT L ⟨A, B⟩ E m σ H Q) := ⟨fun pins s σ H Q I ⟨B, q⟩ => (h ⟨A, B⟩).run pins s σ H Q I q⟩
theorem PG.exB {X : Cx} {e : Expr} {g : MG} {A : List V} (h : ∀ P : Pa, PG X e (tC L P vs g)) : PG X e (fun v σ H Q => ∃ B, tC L ⟨A, B⟩ vs g v σ H Q) := ⟨fun pins s σ H v u Q I r ⟨B, q⟩ => (h ⟨A, B⟩).run pins s σ H v u Q I r q⟩
theorem tLc_of {mi : M (List D)} {g : MG} {tt : M Bool} {m : M D} {H : Hp} {Q : VK} (h : tF L P E (mLc mi g tt m vs) σ H Q) :
    tLc (tI L P E mi) (fun v σ H Q => ∃ B, tC L ⟨P.args, B⟩ vs g v σ H Q) (fun σ H Q => ∃ B, tT L ⟨P.args, B⟩ Eno tt σ H Q) (fun σ H Q => ∃ B, tE L ⟨P.args, B⟩ Eno m σ H Q) vs σ H Q := by
  obtain ⟨τ, R, h⟩ := h
  have h : PostF L P H σ τ ((mi τ).bind fun ds => lcEnd g tt m vs ds) Q (E σ) := h
  refine ⟨τ, R, ?_⟩
  revert h
  cases mi τ with
  | exc c xs τ' => exact fun h => h
  | fail => exact fun h => h
  | ok ds τ1 =>
    intro h J H1 t1 R1 it D hD
    have h : PostF L P H σ τ (lcEnd g tt m vs ds τ1) Q (E σ) := h
    unfold lcEnd at h
    split at h
    case isFalse => exact h.elim
    rename_i hcond
    obtain ⟨hz, hu⟩ := hcond
    have hb : ¬ P.B D := fun z => by obtain ⟨o, e⟩ := R1.bth D z; rw [hD] at e; cases e
    have go0 : LcEnd L P Q H1 σ τ1 D [] (mLcGo g tt m vs ds τ1) := by
      revert h
      cases mLcGo g tt m vs ds τ1 with
      | ok ys τe => exact fun h H' t R' o => h D H' (t1.trans t) R' o
      | exc c xs τe => exact fun h => h.elim
      | fail => exact fun h => h.elim
    clear h
    refine ⟨fun i k H2 => i + k = ds.length ∧ ∃ τ2 acc accd, StR L P (rid H2 D) (L2.wipe σ vs) τ2 ∧ Tr H1 (Own σ τ1) (rid H2 D) (Own σ τ2) ∧ allUn τ2 vs = true ∧ H2 D = some (.lst acc) ∧ Rps L (hid (rid H2 D) (Hd P σ τ2)) accd acc ∧ acc.length ≤ i ∧ LcEnd L P Q H1 σ τ1 D accd (mLcGo g tt m vs (ds.drop i) τ2), ⟨ds.length, Nat.zero_add _, τ1, [], [], ?_, ?_, hu, upd_same, .nil, Nat.le_refl _, go0⟩, ?_⟩
    · rw [rid_upd hD]; exact R1.wipe hu
    · rw [rid_upd hD]; exact .refl
    rintro i k H2 ⟨hik, τ2, acc, accd, R2, t2, u2, hD2, rr, hl, go⟩
    have R2' := R2.hideD hD2
    have noW : ∀ a, Own (L2.wipe σ vs) τ2 a → a ≠ D := fun a q z => R2'.dis a q (.inr z)
    have noS : ∀ a, Own σ τ2 a → a ≠ D := fun a q => noW a ((own_wipe u2 a).mpr q)
    have nb : ∀ a, P.B a → a ≠ D := fun a q z => hb (by rw [← z]; exact q)
    have hdW : ∀ a, Hd ⟨P.args, fun a => P.B a ∨ a = D⟩ (L2.wipe σ vs) τ2 a ↔ Hd ⟨P.args, fun a => P.B a ∨ a = D⟩ σ τ2 a := fun a => ⟨fun z => z.elim (fun q => .inl ((own_wipe u2 a).mp q)) .inr, fun z => z.elim (fun q => .inl ((own_wipe u2 a).mpr q)) .inr⟩
    have gg : Same (hid H1 (Hd P σ τ1)) (hid H2 (Hd ⟨P.args, fun a => P.B a ∨ a = D⟩ (L2.wipe σ vs) τ2)) :=
      ((R1.fz t2).trans (hide_D noS nb).1).trans (hid_mono (.refl _) fun a z => (hdW a).mp z)
    obtain ⟨gof, stop⟩ := it i H2 _ gg R2'.ths
    cases e : ds[i]? with
    | none =>
      refine .inl ⟨stop e, ?_⟩
      rw [List.drop_eq_nil_of_le (List.getElem?_eq_none_iff.mp e)] at go
      refine go H2 t2 (R2.unwipe u2) ⟨acc, hD2, ?_⟩
      rw [List.append_nil]; exact rr
    | some d =>
      obtain ⟨g1, g2⟩ := gof d e
      have hi : i < ds.length := (List.getElem?_eq_some_iff.mp e).1
      have ed : ds.drop i = d :: ds.drop (i + 1) := by
        rw [List.drop_eq_getElem_cons hi]
        rw [List.getElem?_eq_getElem hi] at e
        cases e; rfl
      rw [ed] at go
      refine .inr ⟨g1, fun H3 => ∃ τ2 acc accd, StR L P (rid H3 D) (L2.wipe σ vs) τ2 ∧ Tr H1 (Own σ τ1) (rid H3 D) (Own σ τ2) ∧ allUn τ2 vs = true ∧ H3 D = some (.lst acc) ∧ Rps L (hid (rid H3 D) (Hd P σ τ2)) accd acc ∧ acc.length ≤ i + 1 ∧ LcEnd L P Q H1 σ τ1 D accd (mLcGo g tt m vs (ds.drop (i + 1)) τ2), fun H3 q => ⟨k - 1, by omega, by omega, q⟩, fun x H3 y => ?_⟩
      obtain ⟨sm, rx⟩ := g2 x H3 y
      unfold mLcGo at go
      cases eg : g d τ2 with
      | none => rw [eg] at go; exact go.elim
      | some τ4 =>
        rw [eg] at go
        refine ⟨fun a => P.B a ∨ a = D, τ2, d, τ4, R2'.same sm, rx, eg, fun σ4 H4 t4 R4 w4 => ⟨w4.trans (wipe_idem vs vs fun _ h => h), fun a => P.B a ∨ a = D, τ4, R4, ?_⟩⟩
        have t24 : Tr H2 (Own (L2.wipe σ vs) τ2) H4 (Own σ4 τ4) := (Tr.of sm).trans t4
        have D4 : H4 D = some (.lst acc) := t24.keep D _ hD2 fun z => noW D z rfl
        have hl4 : σ4.length = σ.length := by
          have q := congrArg List.length w4
          rw [L2.wipe_length, L2.wipe_length, L2.wipe_length] at q
          exact q
        have go : LcEnd L P Q H1 σ τ1 D accd ((tt τ4).nox.bind fun k => fun τ => if k = true then (m τ).nox.bind fun y => fun τ => (mLcGo g tt m vs (ds.drop (i + 1)) (Sm.wipeS τ vs)).bind fun ys => fun τ => .ok (y :: ys) τ else mLcGo g tt m vs (ds.drop (i + 1)) (Sm.wipeS τ vs)) := go
        revert go
        cases tt τ4 with
        | exc c xs τ' => exact fun go => go.elim
        | fail => exact fun go => go.elim
        | ok kk τ5 =>
          intro go b H5 t5 R5 rb
          cases rb
          have t25 := t24.trans t5
          have D5 : H5 D = some (.lst acc) := t25.keep D _ hD2 fun z => noW D z rfl
          cases kk with
          | false =>
            refine (if_neg Bool.false_ne_true).mpr ?_
            obtain ⟨S, t, u⟩ := turn_end hb u2 hl4 R2' t25 R5 w4
            exact ⟨_, acc, accd, S, t2.trans t, u, D5, Rps.same (R2.unwipe u2 |>.fz t) rr, Nat.le_succ_of_le hl, go⟩
          | true =>
            refine (if_pos rfl).mpr ⟨fun a => P.B a ∨ a = D, τ5, R5, ?_⟩
            have go : LcEnd L P Q H1 σ τ1 D accd ((m τ5).nox.bind fun y => fun τ => (mLcGo g tt m vs (ds.drop (i + 1)) (Sm.wipeS τ vs)).bind fun ys => fun τ => .ok (y :: ys) τ) := go
            revert go
            cases m τ5 with
            | exc c xs τ' => exact fun go => go.elim
            | fail => exact fun go => go.elim
            | ok yd τ6 =>
              intro go v H6 t6 R6 r6
              have t26 := t25.trans t6
              have D6 : H6 D = some (.lst acc) := t26.keep D _ hD2 fun z => noW D z rfl
              obtain ⟨S, t, u⟩ := turn_end hb u2 hl4 R2' t26 R6 w4
              refine ⟨acc, D6, Nat.lt_of_le_of_lt hl (Nat.lt_of_lt_of_le hi (Nat.le_trans hz (by decide))), Sm.wipeS τ6 vs, acc ++ [v], accd ++ [yd], ?_, ?_, u, upd_same, ?_, by rw [List.length_append]; exact Nat.succ_le_succ hl, ?_⟩
              · rw [rid_upd2]; exact S
              · rw [rid_upd2]; exact t2.trans t
              · rw [rid_upd2]
                refine (Rps.same (R2.unwipe u2 |>.fz t) rr).app (.cons ?_ .nil)
                have S6 := R6.showD hb
                obtain ⟨tw, S7⟩ := S6.wipeS (vs := vs)
                have no6 : ∀ a, Own σ4 τ6 a → a ≠ D := fun a q z => R6.dis a q (.inr z)
                refine ((r6.same (hide_D no6 nb).2).same (S6.fz tw)).same (hid_mono (.refl _) fun a z => ?_)
                rcases z with z | z
                · refine .inl ?_
                  have w : L2.wipe σ4 vs = L2.wipe σ vs := w4.trans (wipe_idem vs vs fun _ h => h)
                  rw [← own_wipe u a, w, own_wipe u a]
                  exact z
                · exact .inr z
              · have go : LcEnd L P Q H1 σ τ1 D accd ((mLcGo g tt m vs (ds.drop (i + 1)) (Sm.wipeS τ6 vs)).bind fun ys => fun τ => .ok (yd :: ys) τ) := go
                revert go
                cases mLcGo g tt m vs (ds.drop (i + 1)) (Sm.wipeS τ6 vs) with
                | exc c xs τ' => exact fun go => go.elim
                | fail => exact fun go => go.elim
                | ok ys τe =>
                  intro go H' a1 a2 a3
                  refine go H' a1 a2 ?_
                  rw [List.append_assoc] at a3
                  exact a3
theorem sF_lc {elt tg iter : Expr} {ifs : List Expr} {scope : Scope} {own : List (Str × Nat)} {mi : M (List D)} {g : MG} {tt : M Bool} {m : M D} (hc : X.calm = true) (hN : X.N.Nodup) (hi : SI L P E X tg iter mi) (ok : BlkOk X.N X.env.scope scope own)
    (hg : ∀ (P : Pa) (s : Shared) (H : Hp) (C : Addr) (cl : List (Str × Addr)) (fp : List Addr), SC L P (own.map (·.2)) (X.blk s H scope (compEnvC scope cl C X.env) fp) tg g)
    (ht : ∀ (P : Pa) (s : Shared) (H : Hp) (C : Addr) (cl : List (Str × Addr)) (fp : List Addr), STs L P Eno (X.blk s H scope (compEnvC scope cl C X.env) fp) ifs tt)
    (he : ∀ (P : Pa) (s : Shared) (H : Hp) (C : Addr) (cl : List (Str × Addr)) (fp : List Addr), SE L P Eno (X.blk s H scope (compEnvC scope cl C X.env) fp) elt m) (hs : ∀ x, foldedSetIterable iter X.env x = pure x := by intro _; rfl) :
    SF L P E X (.ListComp elt [⟨tg, iter, ifs, 0⟩] scope pos) (mLc mi g tt m (own.map (·.2))) :=
  PE.weak (pe_lc hc hN hi ok (fun s H C cl fp => PG.exB (A := P.args) fun P => hg P s H C cl fp) (fun s H C cl fp => PTs.exB (A := P.args) fun P => ht P s H C cl fp) (fun s H C cl fp => PE.exB (A := P.args) fun P => he P s H C cl fp) hs) fun σ H Q h => tLc_of h
theorem sS_setLcO {i : Nat} {y : Str} {py spos : Pos} {elt tg iter : Expr} {ifs : List Expr} {scope : Scope} {own : List (Str × Nat)} {mi : M (List D)} {g : MG} {tt : M Bool} {m : M D} {W : WX} (hc : X.calm = true) (hN : X.N.Nodup) (hy : X.N[i]? = some y) (hyl : X.env.scope.names.lookup y = some .local) (hi : SI L P (WE W) X tg iter mi) (ok : BlkOk X.N X.env.scope scope own)
    (hg : ∀ (P : Pa) (s : Shared) (H : Hp) (C : Addr) (cl : List (Str × Addr)) (fp : List Addr), SC L P (own.map (·.2)) (X.blk s H scope (compEnvC scope cl C X.env) fp) tg g)
    (ht : ∀ (P : Pa) (s : Shared) (H : Hp) (C : Addr) (cl : List (Str × Addr)) (fp : List Addr), STs L P Eno (X.blk s H scope (compEnvC scope cl C X.env) fp) ifs tt)
    (he : ∀ (P : Pa) (s : Shared) (H : Hp) (C : Addr) (cl : List (Str × Addr)) (fp : List Addr), SE L P Eno (X.blk s H scope (compEnvC scope cl C X.env) fp) elt m)
    (hsw : swapsWith (.ListComp elt [⟨tg, iter, ifs, 0⟩] scope pos) (some (.Name y py)) spos.line X.env = pure true) (hs : ∀ x, foldedSetIterable iter X.env x = pure x := by intro _; rfl) :
    SS L P W X (.Assign [.Name y py] (.ListComp elt [⟨tg, iter, ifs, 0⟩] scope pos) spos) (mSetO i (mLc mi g tt m (own.map (·.2)))) :=
  PS.weak (ps_setLc hc hN hy hyl hsw hi ok (fun s H C cl fp => PG.exB (A := P.args) fun P => hg P s H C cl fp) (fun s H C cl fp => PTs.exB (A := P.args) fun P => ht P s H C cl fp) (fun s H C cl fp => PE.exB (A := P.args) fun P => he P s H C cl fp) hs) fun D σ H ⟨τ, R, h⟩ => by
    refine tLc_of ⟨τ, R, ?_⟩
    have h : SPost L P W H σ τ ((mLc mi g tt m (own.map (·.2)) τ).st fun d τ => SR.opt (setOw i d τ)) D := h
    revert h
    cases mLc mi g tt m (own.map (·.2)) τ with
    | ok d τ1 =>
      intro h a H1 t1 R1 r1
      obtain ⟨τ', e, q⟩ := SPost.opt h
      obtain ⟨hi, rfl⟩ := setOw_some e
      obtain ⟨tr, R2⟩ := R1.setOw hi r1
      exact q _ H1 (t1.trans tr) R2
    | exc c xs τ' => exact fun h cls od H' x y z => h cls od σ H' x y z
    | fail => exact fun h => h
end
end Sm
set_option Elab.async false
set_option linter.all false
set_option maxRecDepth 100000
set_option maxHeartbeats 400000
namespace Sm
open PySem PySem.Spec PyProof.Rows L2 RZ
section
variable {L : Lay} {P : Pa} {W : WX} {X : Cx} {E : L2.St → XK} {pos : Pos} {e tg : Expr} {es : List Expr} {m : M D} {ms : M (List D)}

def iSeq (K : PySem.W.Frag) (tl : TE) : TI := fun σ H R => tl σ H fun x H1 => ∃ a, x = .ref a ∧ (((∃ xs, SqL K H1 a xs) ∧ R (Itl K a) H1) ∨ ((∃ xs, SqT K H1 a xs) ∧ R (Itt K a) H1))
theorem pi_seq {l : Expr} {tl : TE} (hl : PE X l tl) : PI X tg l (iSeq X.K tl) := by
  refine ⟨fun pins s σ H R I h => ?_⟩
  refine thn (hl.run pins s σ H _ I h) fun v s1 ⟨x, H1, I1, r1, q1⟩ => ?_
  obtain ⟨a, e, q⟩ := q1
  subst e
  cases r1
  rcases q with ⟨⟨xs, hq⟩, q⟩ | ⟨⟨xs, hq⟩, q⟩
  · obtain ⟨its, rv, p, hz⟩ := I1.list hq
    refine wpAny_pyIter_list p.isList ?_
    refine ⟨s1.heap.objs.size, [s1.heap.objs.size], _, _, H1, rfl, I1.kept (t' := s1.toks) fun b o e => Heap.get?_push_of_some _ e, turn_list a _, ⟨_, Heap.get?_push_size _ rfl, rfl, rfl⟩, fun b hb => ?_, q⟩
    have e : b = s1.heap.objs.size := by simpa using hb
    subst e
    exact I1.fpOk (Nat.le_refl _) (I1.hok.fresh (Nat.le_refl _))
  · obtain ⟨its, rv, p, hz⟩ := I1.tuple hq
    refine wpAny_pyIter_tuple (show s1.heap.IsTuple a its.toArray from p) ?_
    refine ⟨s1.heap.objs.size, [s1.heap.objs.size], _, _, H1, rfl, I1.kept (t' := s1.toks) fun b o e => Heap.get?_push_of_some _ e, turn_tuple a _, ⟨_, Heap.get?_push_size _ rfl, rfl, rfl⟩, fun b hb => ?_, q⟩
    have e : b = s1.heap.objs.size := by simpa using hb
    subst e
    exact I1.fpOk (Nat.le_refl _) (I1.hok.fresh (Nat.le_refl _))
def asS : D → Option (List D)
  | .lst ds => some ds
  | .tup ds => some ds
  | _ => none
@[simp] theorem asS_lst {ds : List D} : asS (.lst ds) = some ds := rfl
@[simp] theorem asS_tup {ds : List D} : asS (.tup ds) = some ds := rfl
theorem sI_seq {l : Expr} (hK : X.K = L.K) (hl : SE L P E X l m) : SI L P E X tg l (mOn asS m) :=
  PI.weak (pi_seq hl) fun σ H R h => by
    obtain ⟨τ, R0, h⟩ := tI_on h
    refine ⟨τ, R0, h.imp fun v H1 ⟨d, ds, τ1, R1, r1, e, q⟩ => ?_⟩
    rw [hK]
    cases d with
    | tup xs =>
      cases e
      obtain ⟨a, vs, rfl, s, rr⟩ := Rp.tup_iff.mp r1
      exact ⟨a, rfl, .inr ⟨⟨vs, SqT.same hid_le s⟩, q _ H1 .refl R1 (itt_ok s rr)⟩⟩
    | lst xs =>
      cases e
      obtain ⟨a, vs, rfl, s, rr⟩ := Rp.lst_iff.mp r1
      exact ⟨a, rfl, .inl ⟨⟨vs, .inl (.inl (hid_le _ _ s))⟩, q _ H1 .refl R1 (itl_ok s rr)⟩⟩
    | _ => cases e
theorem tI_args {f : List D → Option (List D)} {R : It → Hp → Prop} {σ : L2.St} {H : Hp} (h : tI L P E (fun τ => (ms τ).bind fun xs => fun τ => Res.lift (f xs) τ) σ H R) :
    ∃ τ, StR L P H σ τ ∧ Post L P (RVs L) H σ τ (ms τ) (fun vs H1 => ∃ d ds τ1, StR L P H1 σ τ1 ∧ Rps L (hid H1 (Hd P σ τ1)) d vs ∧ f d = some ds ∧
      ∀ J H', Tr H1 (Own σ τ1) H' (Own σ τ1) → StR L P H' σ τ1 → ItR L J (fun H2 A2 => Same (hid H' (Hd P σ τ1)) (hid H2 A2)) ds → R J H') (E σ) := by
  obtain ⟨τ, R0, h⟩ := h
  refine ⟨τ, R0, ?_⟩
  revert h
  show (match (ms τ).bind fun d => fun τ => Res.lift (f d) τ with | .ok ds τ' => _ | .exc c xs τ' => _ | .fail => _) → _
  cases ms τ with
  | ok d τ1 =>
    intro h v H1 t1 R1 r1
    rw [Res.bind_ok] at h
    cases e : f d with
    | none => rw [e] at h; exact h.elim
    | some ds =>
      rw [e] at h
      exact ⟨d, ds, τ1, R1, r1, e, fun J H' t R' it => h J H' (t1.trans t) R' it⟩
  | exc c xs τ' => exact fun h => h
  | fail => exact fun h => h
def mOns (f : List D → Option (List D)) (ms : M (List D)) : M (List D) := fun τ => (ms τ).bind fun xs => fun τ => Res.lift (f xs) τ
theorem Rps.one {F : Hp} {d : D} {vs : List V} (h : Rps L F [d] vs) : ∃ v, vs = [v] ∧ Rp L F d v := by
  unfold Rps at h
  obtain ⟨v, r, rfl, h1, h2⟩ := h
  unfold Rps at h2
  exact ⟨v, by rw [h2], h1⟩
theorem Rps.two {F : Hp} {d d' : D} {vs : List V} (h : Rps L F [d, d'] vs) : ∃ v v', vs = [v, v'] ∧ Rp L F d v ∧ Rp L F d' v' := by
  unfold Rps at h
  obtain ⟨v, r, rfl, h1, h2⟩ := h
  obtain ⟨v', rfl, h3⟩ := Rps.one h2
  exact ⟨v, v', rfl, h1, h3⟩
theorem sI_range1 {a : Expr} {p : Pos} (hg : Gl X "range") (hm : X.mg "range" = none) (ha : SA L P E X [a] ms) (hs : starEach [a] X.env = [(false, eval a X.env)] := by rfl) : SI L P E X tg (.Call (.Name "range" p) [a] [] pos) (mOns rng1 ms) :=
  PI.weak (pi_range1 hg hm ha hs) fun σ H R h => by
    obtain ⟨τ, R0, h⟩ := tI_args h
    refine ⟨τ, R0, h.imp fun vs H1 ⟨d, ds, τ1, R1, r1, e, q⟩ => ?_⟩
    unfold rng1 at e
    split at e
    · rename_i n
      split at e
      · rename_i hn
        cases e
        obtain ⟨v, rfl, rv⟩ := r1.one
        rw [Rp.int_iff.mp rv]
        exact ⟨n, rfl, by omega, by omega, q _ H1 .refl R1 itr_ok⟩
      · cases e
    · cases e
def zipD : List D → List D → List D
  | x :: xs, y :: ys => .tup [x, y] :: zipD xs ys
  | _, _ => []
theorem zipD_get : ∀ (xs ys : List D) (i : Nat), (∀ d, (zipD xs ys)[i]? = some d → ∃ x y, xs[i]? = some x ∧ ys[i]? = some y ∧ d = .tup [x, y]) ∧ ((zipD xs ys)[i]? = none → xs.length ≤ i ∨ ys.length ≤ i)
  | [], _, i => by simp [zipD]
  | _ :: _, [], i => by simp [zipD]
  | x :: xs, y :: ys, 0 => ⟨fun d e => ⟨x, y, rfl, rfl, (Option.some.inj e).symm⟩, fun e => (by simp [zipD] at e)⟩
  | x :: xs, y :: ys, i + 1 => by
    obtain ⟨h1, h2⟩ := zipD_get xs ys i
    refine ⟨fun d e => ?_, fun e => ?_⟩
    · obtain ⟨x', y', e1, e2, e3⟩ := h1 d e
      exact ⟨x', y', e1, e2, e3⟩
    · rcases h2 e with q | q
      · exact .inl (Nat.succ_le_succ q)
      · exact .inr (Nat.succ_le_succ q)
theorem new_tup2 {H : Hp} {A : Addr → Prop} {T : Addr} {x y : V} {d d' : D} (hA : ∀ q, A q → ∃ o, H q = some o) (hT : H T = none) (r1 : Rp L (hid H A) d x) (r2 : Rp L (hid H A) d' y) : Rp L (hid (upd H T (.tup [x, y])) A) (.tup [d, d']) (.ref T) :=
  new_tup hA hT (.cons r1 (.cons r2 .nil))
theorem itz_ok {a b : Addr} {vs us : List V} {xs ys : List D} {F : Hp} (s : F a = some (.lst vs)) (s' : F b = some (.lst us)) (r : Rps L F xs vs) (r' : Rps L F ys us) : ItR L (Itz L.K a b) (fun H2 A2 => Same F (hid H2 A2)) (zipD xs ys) := by
  intro i H A g hA
  have q : SqL L.K H a vs := .inl (.inl ((g.trans hid_le) _ _ s))
  have q' : SqL L.K H b us := .inl (.inl ((g.trans hid_le) _ _ s'))
  obtain ⟨z1, z2⟩ := zipD_get xs ys i
  refine ⟨fun d e => ?_, fun e => ?_⟩
  · obtain ⟨x, y, e1, e2, rfl⟩ := z1 d e
    obtain ⟨v, hv, rv⟩ := r.get e1
    obtain ⟨u, hu, ru⟩ := r'.get e2
    refine ⟨⟨vs, us, v, u, q, q', hv, hu⟩, fun t H' yy => ?_⟩
    obtain ⟨T, x1, y1, rfl, hT, rfl, f1, f2⟩ := yy
    have ev : v = x1 := Option.some.inj (hv.symm.trans (f1 vs q))
    have eu : u = y1 := Option.some.inj (hu.symm.trans (f2 us q'))
    subst ev eu
    exact ⟨same_upd hT, new_tup2 hA hT (rv.same g) (ru.same g)⟩
  · refine ⟨vs, us, q, q', ?_⟩
    rw [r.length, r'.length]
    exact z2 e
theorem itzt_ok {a b : Addr} {vs us : List V} {xs ys : List D} {F : Hp} (s : SqT L.K F a vs) (s' : SqT L.K F b us) (r : Rps L F xs vs) (r' : Rps L F ys us) : ItR L (ItzT L.K a b) (fun H2 A2 => Same F (hid H2 A2)) (zipD xs ys) := by
  intro i H A g hA
  have q : SqT L.K H a vs := SqT.same (g.trans hid_le) s
  have q' : SqT L.K H b us := SqT.same (g.trans hid_le) s'
  obtain ⟨z1, z2⟩ := zipD_get xs ys i
  refine ⟨fun d e => ?_, fun e => ?_⟩
  · obtain ⟨x, y, e1, e2, rfl⟩ := z1 d e
    obtain ⟨v, hv, rv⟩ := r.get e1
    obtain ⟨u, hu, ru⟩ := r'.get e2
    refine ⟨⟨vs, us, v, u, q, q', hv, hu⟩, fun t H' yy => ?_⟩
    obtain ⟨T, x1, y1, rfl, hT, rfl, f1, f2⟩ := yy
    have ev : v = x1 := Option.some.inj (hv.symm.trans (f1 vs q))
    have eu : u = y1 := Option.some.inj (hu.symm.trans (f2 us q'))
    subst ev eu
    exact ⟨same_upd hT, new_tup2 hA hT (rv.same g) (ru.same g)⟩
  · refine ⟨vs, us, q, q', ?_⟩
    rw [r.length, r'.length]
    exact z2 e
def zip2 : List D → Option (List D)
  | [.lst xs, .lst ys] => some (zipD xs ys)
  | [.tup xs, .tup ys] => some (zipD xs ys)
  | _ => none
theorem sI_zip {a b : Expr} {p tpos : Pos} {elts : List Expr} {kk : Nat} (hK : X.K = L.K) (hg : Gl X "zip") (hm : X.mg "zip" = none) (ha : SA L P E X [a, b] ms) (hs : starEach [a, b] X.env = (false, eval a X.env) :: starEach [b] X.env := by rfl) (hpl : (backTo pos (starEach [b] X.env)).any (·.1) = false := by rfl) :
    SI L P E X (.Tuple elts kk tpos) (.Call (.Name "zip" p) [a, b] [] pos) (mOns zip2 ms) :=
  PI.weak (pi_zipA hg hm ha hs hpl) fun σ H R h => by
    obtain ⟨τ, R0, h⟩ := tI_args h
    refine ⟨τ, R0, h.imp fun vs H1 ⟨d, ds, τ1, R1, r1, e, q⟩ => ?_⟩
    rw [hK]
    unfold zip2 at e
    split at e
    · rename_i xs ys
      cases e
      obtain ⟨v, v', rfl, rv, rv'⟩ := r1.two
      obtain ⟨a1, us, rfl, s1, q1⟩ := Rp.lst_iff.mp rv
      obtain ⟨a2, us2, rfl, s2, q2⟩ := Rp.lst_iff.mp rv'
      exact ⟨a1, a2, us, us2, rfl, .inl ⟨.inl (.inl (hid_le _ _ s1)), .inl (.inl (hid_le _ _ s2)), q _ H1 .refl R1 (itz_ok s1 s2 q1 q2)⟩⟩
    · rename_i xs ys
      cases e
      obtain ⟨v, v', rfl, rv, rv'⟩ := r1.two
      obtain ⟨a1, us, rfl, s1, q1⟩ := Rp.tup_iff.mp rv
      obtain ⟨a2, us2, rfl, s2, q2⟩ := Rp.tup_iff.mp rv'
      exact ⟨a1, a2, us, us2, rfl, .inr ⟨SqT.same hid_le s1, SqT.same hid_le s2, q _ H1 .refl R1 (itzt_ok s1 s2 q1 q2)⟩⟩
    · cases e
def enumD : Int → List D → List D
  | _, [] => []
  | k, x :: xs => .tup [.int k, x] :: enumD (k + 1) xs
theorem enumD_get : ∀ (xs : List D) (k : Int) (i : Nat), (enumD k xs)[i]? = (xs[i]?).map fun x => .tup [.int (k + (i : Nat)), x]
  | [], k, i => by simp [enumD]
  | x :: xs, k, 0 => by simp [enumD]
  | x :: xs, k, i + 1 => by
    show (enumD (k + 1) xs)[i]? = _
    rw [enumD_get xs (k + 1) i, List.getElem?_cons_succ]
    have e : k + 1 + (i : Nat) = k + ((i + 1 : Nat) : Int) := by omega
    rw [e]
theorem ite_ok {a : Addr} {vs : List V} {xs : List D} {F : Hp} (s : F a = some (.lst vs)) (r : Rps L F xs vs) : ItR L (Ite L.K a) (fun H2 A2 => Same F (hid H2 A2)) (enumD 0 xs) := by
  intro i H A g hA
  have q : SqL L.K H a vs := .inl (.inl ((g.trans hid_le) _ _ s))
  rw [enumD_get]
  cases e : xs[i]? with
  | none =>
    refine ⟨fun d e => (by cases e), fun _ => ⟨vs, q, ?_⟩⟩
    rw [r.length]
    exact List.getElem?_eq_none_iff.mp e
  | some x =>
    refine ⟨fun d ed => ?_, fun e => (by cases e)⟩
    cases ed
    obtain ⟨v, hv, rv⟩ := r.get e
    refine ⟨⟨vs, v, q, hv⟩, fun t H' yy => ?_⟩
    obtain ⟨T, x1, rfl, hT, rfl, f1⟩ := yy
    have ev : v = x1 := Option.some.inj (hv.symm.trans (f1 vs q))
    subst ev
    have e0 : (0 : Int) + (i : Nat) = (i : Nat) := Int.zero_add _
    rw [e0]
    exact ⟨same_upd hT, new_tup2 hA hT .mk_int (rv.same g)⟩
def mFn (f : List D → Option D) (ms : M (List D)) : M D := fun τ => (ms τ).bind fun xs => fun τ => Res.lift (f xs) τ
theorem tCB_of {r : List V → Hp → VK → Prop} {f : List D → Option D} (hf : FnS L r f) (σ : L2.St) (H : Hp) (Q : VK) (h : tE L P E (mFn f ms) σ H Q) : tCB r (tA L P E ms) σ H Q := by
  obtain ⟨τ, R, h⟩ := h
  refine ⟨τ, R, (Post.split (R := RVs L) h).imp fun xs H1 ⟨ds, τ1, t1, R1, r1, h1⟩ => ?_⟩
  obtain ⟨d, e, q⟩ := h1.done R1
  exact hf ds d xs H1 (Hd P σ τ1) Q e (r1.bps hid_le) R1.ths q
theorem sE_callB {r : List V → Hp → VK → Prop} {f : List D → Option D} {id : String} {x : Str} {p : Pos} (hc : CallR X (.builtin id) r) (hf : FnS L r f) (hg : Gl X x) (hm : X.mg x = none) (hv : bootBuiltins x = some (.builtin id)) (ha : SA L P E X (e :: es) ms) (hn : x ≠ "__name__" := by decide) (hdb : (x == ("__debug__" : Str)) = false := by decide)
    (he : starEach (e :: es) X.env = (false, eval e X.env) :: starEach es X.env := by rfl) (hpl : (backTo pos (starEach es X.env)).any (·.1) = false := by rfl) : SE L P E X (.Call (.Name x p) (e :: es) [] pos) (mFn f ms) :=
  PE.weak (pe_callB hc hg hm hv ha hn hdb he hpl) fun σ H Q h => tCB_of hf σ H Q h
theorem sE_callTy {r : List V → Hp → VK → Prop} {f : List D → Option D} {T : String} {x : Str} {p : Pos} (hc : CallR X (.type T) r) (hf : FnS L r f) (hg : Gl X x) (hm : X.mg x = none) (hv : bootBuiltins x = some (.type T)) (ha : SA L P E X (e :: es) ms) (hn : x ≠ "__name__" := by decide) (hdb : (x == ("__debug__" : Str)) = false := by decide)
    (he : starEach (e :: es) X.env = (false, eval e X.env) :: starEach es X.env := by rfl) (hpl : (backTo pos (starEach es X.env)).any (·.1) = false := by rfl) : SE L P E X (.Call (.Name x p) (e :: es) [] pos) (mFn f ms) :=
  PE.weak (pe_callTy hc hg hm hv ha hn hdb he hpl) fun σ H Q h => tCB_of hf σ H Q h
def peek (i : Nat) (τ : List Sl) : Option D := (τ[i]?).bind Sl.get
theorem peek_ok {H : Hp} {σ : L2.St} {τ : List Sl} (R : StR L P H σ τ) {i : Nat} {d : D} (h : peek i τ = some d) : ∃ v, σ[i]? = some (some v) ∧ Bp L (hid H (Hd P σ τ)) H d v := by
  obtain ⟨t, e, g⟩ := Option.bind_eq_some_iff.mp h
  exact (R.sl i t e).bp hid_le g
def mFnP (f : List D → Option D) (i : Nat) : M D := fun τ => Res.lift ((peek i τ).bind fun d => f [d]) τ
end
end Sm
set_option Elab.async false
set_option linter.all false
set_option maxRecDepth 100000
set_option maxHeartbeats 400000
namespace Sm
open PySem PySem.Spec PyProof.Rows L2
section
variable {L : Lay} {P : Pa} {W : WX} {X : Cx} {E : L2.St → XK} {pos : Pos} {e tg : Expr} {es : List Expr} {m : M D} {ms : M (List D)}

theorem Bps.one {F H : Hp} {d : D} {vs : List V} (h : Bps L F H [d] vs) : ∃ v, vs = [v] ∧ Bp L F H d v := by
  obtain ⟨v, r, rfl, h1, h2⟩ := h
  have h2 : r = [] := h2
  exact ⟨v, by rw [h2], h1⟩
theorem Bps.two {F H : Hp} {d d' : D} {vs : List V} (h : Bps L F H [d, d'] vs) : ∃ v v', vs = [v, v'] ∧ Bp L F H d v ∧ Bp L F H d' v' := by
  obtain ⟨v, r, rfl, h1, h2⟩ := h
  obtain ⟨v', rfl, h3⟩ := Bps.one h2
  exact ⟨v, v', rfl, h1, h3⟩
def dLen : List D → Option D
  | [.lst xs] => some (.int xs.length)
  | [.tup xs] => some (.int xs.length)
  | [.scr xs] => some (.int xs.length)
  | [.str z] => if z.length ≤ 16000000 then some (.int z.length) else none
  | _ => none
theorem fs_len : FnS L (fun xs H Q => ∃ x n, xs = [x] ∧ LenV L.K x H n ∧ Q (.int n) H) dLen := by
  intro ds d xs H A Q e r hA q
  unfold dLen at e
  split at e
  · cases e
    obtain ⟨v, rfl, rv⟩ := r.one
    obtain ⟨a, vs, rfl, h, rr⟩ := rv.lst
    refine ⟨_, _, rfl, .inl ⟨vs, .inl (.inl h), rfl⟩, ?_⟩
    rw [rr.length]
    exact q _ H (.refl _) .mk_int
  · cases e
    obtain ⟨v, rfl, rv⟩ := r.one
    obtain ⟨a, vs, rfl, h, rr⟩ := rv.tup
    refine ⟨_, _, rfl, .inr ⟨vs, SqT.same hid_le h, rfl⟩, ?_⟩
    rw [rr.length]
    exact q _ H (.refl _) .mk_int
  · cases e
    obtain ⟨v, rfl, rv⟩ := r.one
    obtain ⟨a, vs, rfl, h, rr⟩ := rv.scr
    refine ⟨_, _, rfl, .inl ⟨vs, hid_le.seq h, rfl⟩, ?_⟩
    rw [rr.length]
    exact q _ H (.refl _) .mk_int
  · split at e
    · rename_i hz
      cases e
      obtain ⟨v, rfl, rv⟩ := r.one
      rw [rv.str]
      exact ⟨_, _, rfl, ⟨small16 hz, rfl⟩, q _ H (.refl _) .mk_int⟩
    · cases e
  · cases e
def dAbs : List D → Option D
  | [.int i] => some (.int (if i < 0 then -i else i))
  | _ => none
theorem fs_abs : FnS L (fun xs H Q => ∃ i, xs = [.int i] ∧ Q (.int (if i < 0 then -i else i)) H) dAbs := by
  intro ds d xs H A Q e r hA q
  unfold dAbs at e
  split at e
  · cases e
    obtain ⟨v, rfl, rv⟩ := r.one
    rw [rv.int]
    exact ⟨_, rfl, q _ H (.refl _) .mk_int⟩
  · cases e
def dInt : List D → Option D
  | [.int i] => some (.int i)
  | [.bl k] => some (.int (if k = true then 1 else 0))
  | _ => none
theorem fs_int : FnS L (fun xs H Q => (∃ i, xs = [V.int i] ∧ Q (.int i) H) ∨ ∃ k, xs = [V.bl k] ∧ Q (.int (if k then 1 else 0)) H) dInt := by
  intro ds d xs H A Q e r hA q
  unfold dInt at e
  split at e
  · cases e
    obtain ⟨v, rfl, rv⟩ := r.one
    rw [rv.int]
    exact .inl ⟨_, rfl, q _ H (.refl _) .mk_int⟩
  · cases e
    obtain ⟨v, rfl, rv⟩ := r.one
    rw [rv.bl]
    exact .inr ⟨_, rfl, q _ H (.refl _) .mk_int⟩
  · cases e
def intsD : List D → Option (List Int)
  | [] => some []
  | .int i :: ds => (intsD ds).map (i :: ·)
  | _ :: _ => none
theorem intsD_vals : ∀ {ds : List D} {ns : List Int} {vs : List V} {F : Hp}, intsD ds = some ns → Rps L F ds vs → vs = ns.map V.int
  | [], ns, vs, F, e, r => by cases e; unfold Rps at r; exact r
  | .int i :: ds, ns, vs, F, e, r => by
    obtain ⟨ns', e1, rfl⟩ := Option.map_eq_some_iff.mp e
    unfold Rps at r
    obtain ⟨v, vr, rfl, r1, r2⟩ := r
    rw [intsD_vals e1 r2, Rp.int_iff.mp r1]
    rfl
  | .non :: _, _, _, _, e, _ => by cases e
  | .bl _ :: _, _, _, _, e, _ => by cases e
  | .str _ :: _, _, _, _, e, _ => by cases e
  | .tup _ :: _, _, _, _, e, _ => by cases e
  | .lst _ :: _, _, _, _, e, _ => by cases e
  | .dct _ _ :: _, _, _, _, e, _ => by cases e
  | .set _ :: _, _, _, _, e, _ => by cases e
  | .obj _ _ :: _, _, _, _, e, _ => by cases e
  | .scr _ :: _, _, _, _, e, _ => by cases e
  | .exc _ _ _ :: _, _, _, _, e, _ => by cases e
  | .ins _ _ _ :: _, _, _, _, e, _ => by cases e
  | .dki _ _ :: _, _, _, _, e, _ => by cases e
  | .ptup _ :: _, _, _, _, e, _ => by cases e
@[simp] theorem intsD_map : ∀ ns : List Int, intsD (ns.map D.int) = some ns
  | [] => rfl
  | n :: r => by
    show (intsD (r.map D.int)).map (n :: ·) = _
    rw [intsD_map r]
    rfl
def bools : List D → Option (List Bool)
  | [] => some []
  | .bl i :: ds => (bools ds).map (i :: ·)
  | _ :: _ => none
theorem bools_vals : ∀ {ds : List D} {ns : List Bool} {vs : List V} {F : Hp}, bools ds = some ns → Rps L F ds vs → vs = ns.map V.bl
  | [], ns, vs, F, e, r => by cases e; unfold Rps at r; exact r
  | .bl i :: ds, ns, vs, F, e, r => by
    obtain ⟨ns', e1, rfl⟩ := Option.map_eq_some_iff.mp e
    unfold Rps at r
    obtain ⟨v, vr, rfl, r1, r2⟩ := r
    rw [bools_vals e1 r2, Rp.bl_iff.mp r1]
    rfl
  | .non :: _, _, _, _, e, _ => by cases e
  | .int _ :: _, _, _, _, e, _ => by cases e
  | .str _ :: _, _, _, _, e, _ => by cases e
  | .tup _ :: _, _, _, _, e, _ => by cases e
  | .lst _ :: _, _, _, _, e, _ => by cases e
  | .dct _ _ :: _, _, _, _, e, _ => by cases e
  | .set _ :: _, _, _, _, e, _ => by cases e
  | .obj _ _ :: _, _, _, _, e, _ => by cases e
  | .scr _ :: _, _, _, _, e, _ => by cases e
  | .exc _ _ _ :: _, _, _, _, e, _ => by cases e
  | .ins _ _ _ :: _, _, _, _, e, _ => by cases e
  | .dki _ _ :: _, _, _, _, e, _ => by cases e
  | .ptup _ :: _, _, _, _, e, _ => by cases e
@[simp] theorem bools_map : ∀ ns : List Bool, bools (ns.map D.bl) = some ns
  | [] => rfl
  | n :: r => by
    show (bools (r.map D.bl)).map (n :: ·) = _
    rw [bools_map r]
    rfl
def onInts (f : List Int → Option D) : List D → Option D
  | [.lst xs] => (intsD xs).bind f
  | _ => none
def onBools (f : List Bool → D) : List D → Option D
  | [.lst xs] => (bools xs).map f
  | _ => none
theorem onInts_some {f : List Int → Option D} {ds : List D} {d : D} {xs : List V} {H : Hp} {A : Addr → Prop} (e : onInts f ds = some d) (r : Bps L (hid H A) H ds xs) : ∃ a ns, xs = [.ref a] ∧ H a = some (.lst (ns.map V.int)) ∧ f ns = some d := by
  unfold onInts at e
  split at e
  · obtain ⟨ns, e1, e2⟩ := Option.bind_eq_some_iff.mp e
    obtain ⟨v, rfl, rv⟩ := r.one
    obtain ⟨a, vs, rfl, h, rr⟩ := rv.lst
    rw [intsD_vals e1 rr] at h
    exact ⟨a, ns, rfl, h, e2⟩
  · cases e
theorem onBools_some {f : List Bool → D} {ds : List D} {d : D} {xs : List V} {H : Hp} {A : Addr → Prop} (e : onBools f ds = some d) (r : Bps L (hid H A) H ds xs) : ∃ a ns, xs = [.ref a] ∧ H a = some (.lst (ns.map V.bl)) ∧ f ns = d := by
  unfold onBools at e
  split at e
  · obtain ⟨ns, e1, e2⟩ := Option.map_eq_some_iff.mp e
    obtain ⟨v, rfl, rv⟩ := r.one
    obtain ⟨a, vs, rfl, h, rr⟩ := rv.lst
    rw [bools_vals e1 rr] at h
    exact ⟨a, ns, rfl, h, e2⟩
  · cases e
def maxI : List Int → Option Int
  | [] => none
  | [x] => some x
  | x :: xs => (maxI xs).map fun m => if m > x then m else x
def minI : List Int → Option Int
  | [] => none
  | [x] => some x
  | x :: xs => (minI xs).map fun m => if m < x then m else x
theorem maxI_spec : ∀ {ns : List Int} {k : Int}, maxI ns = some k → k ∈ ns ∧ ∀ y ∈ ns, y ≤ k
  | [], k, e => by cases e
  | [x], k, e => by cases e; simp
  | x :: y :: xs, k, e => by
    obtain ⟨m, e1, e2⟩ := Option.map_eq_some_iff.mp (show (maxI (y :: xs)).map (fun m => if m > x then m else x) = some k from e)
    obtain ⟨h1, h2⟩ := maxI_spec e1
    have e2 : (if m > x then m else x) = k := e2
    by_cases h : m > x
    · rw [if_pos h] at e2
      subst e2
      refine ⟨List.mem_cons_of_mem _ h1, fun z hz => ?_⟩
      rcases List.mem_cons.mp hz with rfl | hz
      · omega
      · exact h2 z hz
    · rw [if_neg h] at e2
      subst e2
      refine ⟨List.mem_cons_self, fun z hz => ?_⟩
      rcases List.mem_cons.mp hz with rfl | hz
      · omega
      · have := h2 z hz; omega
theorem minI_spec : ∀ {ns : List Int} {k : Int}, minI ns = some k → k ∈ ns ∧ ∀ y ∈ ns, k ≤ y
  | [], k, e => by cases e
  | [x], k, e => by cases e; simp
  | x :: y :: xs, k, e => by
    obtain ⟨m, e1, e2⟩ := Option.map_eq_some_iff.mp (show (minI (y :: xs)).map (fun m => if m < x then m else x) = some k from e)
    obtain ⟨h1, h2⟩ := minI_spec e1
    have e2 : (if m < x then m else x) = k := e2
    by_cases h : m < x
    · rw [if_pos h] at e2
      subst e2
      refine ⟨List.mem_cons_of_mem _ h1, fun z hz => ?_⟩
      rcases List.mem_cons.mp hz with rfl | hz
      · omega
      · exact h2 z hz
    · rw [if_neg h] at e2
      subst e2
      refine ⟨List.mem_cons_self, fun z hz => ?_⟩
      rcases List.mem_cons.mp hz with rfl | hz
      · omega
      · have := h2 z hz; omega
def dMaxL : List D → Option D := onInts fun ns => (maxI ns).map .int
def dMinL : List D → Option D := onInts fun ns => (minI ns).map .int
theorem fs_maxL : FnS L (rMax L.K) dMaxL := by
  intro ds d xs H A Q e r hA q
  obtain ⟨a, ns, rfl, h, e2⟩ := onInts_some e r
  obtain ⟨k, e3, rfl⟩ := Option.map_eq_some_iff.mp e2
  obtain ⟨h1, h2⟩ := maxI_spec e3
  refine ⟨a, ns, rfl, .inl (.inl h), List.length_pos_of_mem h1, fun m hm hy => ?_⟩
  have : m = k := by
    have a1 := h2 m hm
    have a2 := hy k h1
    omega
  subst this
  exact q _ H (.refl _) .mk_int
theorem fs_minL : FnS L (rMin L.K) dMinL := by
  intro ds d xs H A Q e r hA q
  obtain ⟨a, ns, rfl, h, e2⟩ := onInts_some e r
  obtain ⟨k, e3, rfl⟩ := Option.map_eq_some_iff.mp e2
  obtain ⟨h1, h2⟩ := minI_spec e3
  refine ⟨a, ns, rfl, .inl (.inl h), List.length_pos_of_mem h1, fun m hm hy => ?_⟩
  have : m = k := by
    have a1 := h2 m hm
    have a2 := hy k h1
    omega
  subst this
  exact q _ H (.refl _) .mk_int
def dAll : List D → Option D := onBools fun bs => .bl (bs.all id)
theorem fs_all : FnS L (rAll L.K) dAll := by
  intro ds d xs H A Q e r hA q
  obtain ⟨a, ns, rfl, h, e2⟩ := onBools_some e r
  cases e2
  exact ⟨a, ns, rfl, .inl (.inl h), q _ H (.refl _) .mk_bl⟩
def dTuple : List D → Option D
  | [.lst xs] => some (.tup xs)
  | [.tup xs] => some (.tup xs)
  | _ => none
theorem fs_tuple : FnS L (fun xs H Q => ∃ p ys, xs = [.ref p] ∧ ((SqL L.K H p ys ∧ ∀ l, H l = none → Q (.ref l) (upd H l (.tup ys))) ∨ (SqT L.K H p ys ∧ Q (.ref p) H))) dTuple := by
  intro ds d xs H A Q e r hA q
  unfold dTuple at e
  split at e
  · cases e
    obtain ⟨v, rfl, rv⟩ := r.one
    obtain ⟨a, vs, rfl, h, rr⟩ := rv.lst
    exact ⟨a, vs, rfl, .inl ⟨.inl (.inl h), fun l hl => q _ _ (.of (same_upd hl)) (new_tup hA hl rr)⟩⟩
  · cases e
    obtain ⟨v, rfl, rv⟩ := r.one
    obtain ⟨a, vs, rfl, h, rr⟩ := rv.tup
    exact ⟨a, vs, rfl, .inr ⟨SqT.same hid_le h, q _ H (.refl _) (Rp.tup_iff.mpr ⟨a, vs, rfl, h, rr⟩)⟩⟩
  · cases e
def tyD : D → Option String
  | .non => some "NoneType"
  | .bl _ => some "bool"
  | .int _ => some "int"
  | .str _ => some "str"
  | .lst _ => some "list"
  | .tup _ => some "tuple"
  | _ => none
theorem tyD_ok {F H : Hp} (s : Same F H) {d : D} {v : V} {t : String} (r : Bp L F H d v) (e : tyD d = some t) : TyX L.K H v (.type t) := by
  cases d with
  | non => cases e; rw [r.non]; exact .base .non
  | bl b => cases e; rw [r.bl]; exact .base (.bl b)
  | int b => cases e; rw [r.int]; exact .base (.int b)
  | str b => cases e; rw [r.str]; exact .base (.str b)
  | lst ds => cases e; obtain ⟨a, vs, rfl, h, _⟩ := r.lst; exact .base (.lst h)
  | tup ds =>
    cases e
    obtain ⟨a, vs, rfl, h, _⟩ := r.tup
    rcases h with (h | ⟨o, h⟩) | ⟨o, its, n, h, hc, _⟩
    · exact .base (.tup (s _ _ h))
    · exact .fTuple (s _ _ h)
    · exact .kTuple h hc
  | _ => cases e
def isK (t : String) (d : D) : Option Bool :=
  match tyD d with
  | some u => kitB u t
  | none => none
def dIsi (t : String) : List D → Option D
  | [d] => (isK t d).map .bl
  | _ => none
def dIsi2 (t t' : String) : List D → Option D
  | [d] => (isK t d).bind fun a => (isK t' d).map fun b => .bl (a || b)
  | _ => none
theorem isK_some {t : String} {d : D} {b : Bool} (h : isK t d = some b) : ∃ u, tyD d = some u ∧ kitB u t = some b := by
  unfold isK at h
  split at h
  · rename_i u e; exact ⟨u, e, h⟩
  · cases h
theorem sE_isi {t : String} {x : Str} {p p2 : Pos} (hK : X.K = L.K) (hg : Gl X "isinstance") (hm : X.mg "isinstance" = none) (ht : PE X (.Name x p2) (L2.tC (V.ty t))) (ha : SE L P E X e m) (hv : bootBuiltins "isinstance" = some (.builtin "isinstance") := by decide +kernel)
    (he : starEach [e, .Name x p2] X.env = (false, eval e X.env) :: starEach [.Name x p2] X.env := by rfl) (he2 : starEach [.Name x p2] X.env = (false, eval (.Name x p2) X.env) :: starEach [] X.env := by rfl) (hpl : (backTo pos (starEach [.Name x p2] X.env)).any (·.1) = false := by rfl) :
    SE L P E X (.Call (.Name "isinstance" p) [e, .Name x p2] [] pos) (mFn (dIsi t) (mCons m mNil)) :=
  PE.weak (pe_callB call_isi hg hm hv (pa_cons ha (pa_cons ht pa_nil he2) he) (by decide) (by decide) he hpl) fun σ H Q ⟨τ, R, h⟩ => by
    have h : Post L P (RV L) H σ τ ((m τ).bind fun d => fun τ => Res.lift (dIsi t [d]) τ) Q (E σ) := by
      revert h
      show Post L P (RV L) H σ τ (((m τ).bind fun d => fun τ => (Res.ok [] τ).bind fun xs => fun τ => .ok (d :: xs) τ).bind fun xs => fun τ => Res.lift (dIsi t xs) τ) Q (E σ) → _
      cases m τ with
      | ok d τ1 => exact fun h => h
      | exc c xs τ1 => exact fun h => h
      | fail => exact fun h => h
    refine ⟨τ, R, (Post.split (R := RV L) h).imp fun v H1 ⟨d, τ1, t1, R1, r1, h1⟩ => ?_⟩
    obtain ⟨d', e1, q⟩ := h1.done R1
    obtain ⟨b, e2, rfl⟩ := Option.map_eq_some_iff.mp e1
    obtain ⟨u, e3, e4⟩ := isK_some e2
    refine ⟨v, .ty t, .type u, .type t, b, rfl, .ty t, ?_, kit_ty e4, q _ H1 (.refl _) .mk_bl⟩
    rw [hK]
    exact tyD_ok hid_le (r1.bp hid_le) e3
theorem sE_isi2 {t t' : String} {x x' : Str} {p p2 p3 pt : Pos} {kt : Nat} (hK : X.K = L.K) (hg : Gl X "isinstance") (hm : X.mg "isinstance" = none) (ht : PE X (.Name x p2) (L2.tC (V.ty t))) (ht' : PE X (.Name x' p3) (L2.tC (V.ty t'))) (ha : SE L P E X e m) (hv : bootBuiltins "isinstance" = some (.builtin "isinstance") := by decide +kernel)
    (he : starEach [e, .Tuple [.Name x p2, .Name x' p3] kt pt] X.env = (false, eval e X.env) :: starEach [.Tuple [.Name x p2, .Name x' p3] kt pt] X.env := by rfl) (he2 : starEach [.Tuple [.Name x p2, .Name x' p3] kt pt] X.env = (false, eval (.Tuple [.Name x p2, .Name x' p3] kt pt) X.env) :: starEach [] X.env := by rfl)
    (he3 : starEach [.Name x p2, .Name x' p3] X.env = (false, eval (.Name x p2) X.env) :: starEach [.Name x' p3] X.env := by rfl) (he4 : starEach [.Name x' p3] X.env = (false, eval (.Name x' p3) X.env) :: starEach [] X.env := by rfl)
    (hpl : (backTo pos (starEach [.Tuple [.Name x p2, .Name x' p3] kt pt] X.env)).any (·.1) = false := by rfl) :
    SE L P E X (.Call (.Name "isinstance" p) [e, .Tuple [.Name x p2, .Name x' p3] kt pt] [] pos) (mFn (dIsi2 t t') (mCons m mNil)) :=
  PE.weak (pe_callB call_isiT hg hm hv (pa_cons ha (pa_cons (pe_tup (pa_cons ht (pa_cons ht' pa_nil he4) he3)) pa_nil he2) he) (by decide) (by decide) he hpl) fun σ H Q ⟨τ, R, h⟩ => by
    have h : Post L P (RV L) H σ τ ((m τ).bind fun d => fun τ => Res.lift (dIsi2 t t' [d]) τ) Q (E σ) := by
      revert h
      show Post L P (RV L) H σ τ (((m τ).bind fun d => fun τ => (Res.ok [] τ).bind fun xs => fun τ => .ok (d :: xs) τ).bind fun xs => fun τ => Res.lift (dIsi2 t t' xs) τ) Q (E σ) → _
      cases m τ with
      | ok d τ1 => exact fun h => h
      | exc c xs τ1 => exact fun h => h
      | fail => exact fun h => h
    refine ⟨τ, R, (Post.split (R := RV L) h).imp fun v H1 ⟨d, τ1, t1, R1, r1, h1⟩ => ?_⟩
    obtain ⟨d', e1, q⟩ := h1.done R1
    obtain ⟨b, e2, e5⟩ := Option.bind_eq_some_iff.mp e1
    obtain ⟨b', e6, rfl⟩ := Option.map_eq_some_iff.mp e5
    obtain ⟨u, e3, e4⟩ := isK_some e2
    obtain ⟨u', e7, e8⟩ := isK_some e6
    rw [e3] at e7
    cases e7
    refine ⟨by show 2 ≤ sizeLine; decide, fun tp htp => ⟨v, tp, [.ty t, .ty t'], .type u, [.type t, .type t'], b || b', rfl, upd_same, .cons (.ty t) (.cons (.ty t') .nil), ?_, ?_, q _ _ (.of (same_upd htp)) .mk_bl⟩⟩
    · rw [hK]
      exact tyD_ok (hid_le.trans (same_upd htp)) ((r1.same (hid_mono (A := Hd P σ τ1) (.refl _) fun _ z => z)).bp (hid_le.trans (same_upd htp))) e3
    · refine kitAny_cons (kit_ty e4) (fun hb => ?_) (fun hb => by rw [hb]; rfl)
      subst hb
      refine kitAny_cons (kit_ty e8) (fun hb => ?_) (fun hb => by rw [hb]; rfl)
      subst hb
      exact kitAny_nil
end
end Sm
set_option Elab.async false
set_option linter.all false
set_option maxRecDepth 100000
set_option maxHeartbeats 400000
namespace Sm
open PySem PySem.Spec PyProof.Rows L2
section
variable {L : Lay} {P : Pa} {W : WX} {X : Cx} {E : L2.St → XK} {pos : Pos} {e a b c : Expr} {es : List Expr} {m ma mb mc : M D} {ms : M (List D)}

theorem sE_ix (hK : X.K = L.K) (ha : SE L P E X a ma) (hb : SE L P E X b mb) (hs : PlainIx b := by intro _ _; rfl) : SE L P E X (.Subscript a b pos) (mOp dIx ma mb) :=
  PE.weak (pe_ix ix_seq ha hb hs) fun σ H Q h => by rw [hK]; exact tOp_of os_ix σ H Q h
def mPk (i : Nat) (f : D → D → Option D) (mb : M D) : M D := fun τ =>
  match peek i τ with
  | none => .fail
  | some _ => (mb τ).bind fun y => fun τ => Res.lift ((peek i τ).bind fun x => f x y) τ
theorem tPk_of {r : R2} {f : D → D → Option D} {i : Nat} (ho : OpS L r f) (σ : L2.St) (H : Hp) (Q : VK) (h : tE L P E (mPk i f mb) σ H Q) : tOp r (tVar i) (tE L P E mb) σ H Q := by
  obtain ⟨τ, R, h⟩ := h
  unfold mPk at h
  split at h
  · exact h.elim
  · rename_i d0 e0
    obtain ⟨v, hv, _⟩ := peek_ok R e0
    refine ⟨v, hv, τ, R, (Post.split (R := RV L) h).imp fun y H2 ⟨d2, τ2, t2, R2, r2, h2⟩ => ?_⟩
    obtain ⟨d, e1, q⟩ := h2.done R2
    obtain ⟨d1, e2, e3⟩ := Option.bind_eq_some_iff.mp e1
    obtain ⟨v', hv', rb⟩ := peek_ok R2 e2
    rw [hv] at hv'
    cases hv'
    exact ho d1 d2 d v y H2 (Hd P σ τ2) Q e3 rb (r2.bp hid_le) R2.ths q
theorem sE_ixP {x : Str} {p : Pos} (i : Nat) (hK : X.K = L.K) (hb : SE L P E X b mb) (hN : X.N[i]? = some x := by rfl) (hv : Vis X.env.scope x := by first | exact Or.inl rfl | exact Or.inr (Or.inl rfl) | exact Or.inr (Or.inr rfl)) (hd : (x == ("__debug__" : Str)) = false := by decide)
    (hcd : (x == ("__classdict__" : Str)) = false := by decide) (hs : PlainIx b := by intro _ _; rfl) : SE L P E X (.Subscript (.Name x p) b pos) (mPk i dIx mb) :=
  PE.weak (pe_ix ix_seq (pe_var hN hv hd hcd) hb hs) fun σ H Q h => by rw [hK]; exact tPk_of os_ix σ H Q h
def mCh (f f' : D → D → Option D) (ma mb mc : M D) : M D := fun τ => (ma τ).bind fun x => fun τ => (mb τ).bind fun y => fun τ =>
  (Res.lift ((f x y).bind asB) τ).bind fun k => fun τ => if k = true then (mc τ).bind fun z => fun τ => Res.lift (f' y z) τ else .ok (.bl false) τ
theorem tCh_of {r r' : R2} {f f' : D → D → Option D} (ho : OpS L r f) (ho' : OpS L r' f') (σ : L2.St) (H : Hp) (Q : VK) (h : tE L P E (mCh f f' ma mb mc) σ H Q) : tChain r r' (tE L P E ma) (tE L P E mb) (tE L P E mc) σ H Q := by
  obtain ⟨τ, R, h⟩ := h
  refine ⟨τ, R, (Post.split (R := RV L) h).imp fun x H1 ⟨d1, τ1, t1, R1, r1, h1⟩ => ?_⟩
  refine ⟨τ1, R1, (Post.split (R := RV L) h1).imp fun y H2 ⟨d2, τ2, t2, R2, r2, h2⟩ => ?_⟩
  obtain ⟨k, e, q⟩ := (Post.split (R := RB) h2).lift
  obtain ⟨d, e1, e2⟩ := Option.bind_eq_some_iff.mp e
  refine ho d1 d2 d x y H2 (Hd P σ τ2) _ e1 ((r1.same (R1.fz t2)).bp hid_le) (r2.bp hid_le) R2.ths fun z H3 s3 r3 => ?_
  cases d with
  | bl b =>
    have eb : k = b := (Option.some.inj e2).symm
    subst eb
    refine ⟨k, Rp.bl_iff.mp r3, ?_⟩
    obtain ⟨b', τ3, t3, R3, rb, h3⟩ := q k H3 (R2.kinT s3) (R2.kin s3) rfl
    cases rb
    cases k with
    | false =>
      rw [if_neg Bool.false_ne_true] at h3 ⊢
      exact h3 _ H3 .refl R3 .mk_bl
    | true =>
      rw [if_pos rfl] at h3 ⊢
      refine ⟨τ3, R3, (Post.split (R := RV L) h3).imp fun w H4 ⟨d4, τ4, t4, R4, r4, h4⟩ => ?_⟩
      obtain ⟨d', e5, q5⟩ := h4.done R4
      exact ho' d2 d4 d' y w H4 (Hd P σ τ4) Q e5 ((r2.same (R2.fz (Tr.trans t3 t4))).bp hid_le) (r4.bp hid_le) R4.ths q5
  | _ => cases e2
theorem sE_chain {op op' : CmpOp} {r r' : R2} {f f' : D → D → Option D} (hr : OpR X (compareOp op) r) (hr' : OpR X (compareOp op') r') (ho : OpS L r f) (ho' : OpS L r' f') (ha : SE L P E X a ma) (hb : SE L P E X b mb) (hc : SE L P E X c mc)
    (hm : lastMarks [op, op'] [b, c] = false := by with_unfolding_all rfl) : SE L P E X (.Compare a [op, op'] [b, c] pos) (mCh f f' ma mb mc) :=
  PE.weak (pe_chain hr hr' ha hb hc hm) fun σ H Q h => tCh_of ho ho' σ H Q h
theorem sT_chain {op op' : CmpOp} {r r' : R2} {f f' : D → D → Option D} (hr : OpR X (compareOp op) r) (hr' : OpR X (compareOp op') r') (ho : OpS L r f) (ho' : OpS L r' f') (ha : SE L P E X a ma) (hb : SE L P E X b mb) (hc : SE L P E X c mc)
    (hm : lastMarks [op, op'] [b, c] = false := by with_unfolding_all rfl) : ST L P E X (.Compare a [op, op'] [b, c] pos) (mB (mCh f f' ma mb mc)) :=
  PT.weak (pt_chain hr hr' ha hb hc hm) fun σ H Q h => by
    have q : tB (tE L P E (mCh f f' ma mb mc)) σ H Q := tB_of σ H Q h
    exact tCh_of ho ho' σ H _ q

abbrev SO (L : Lay) (P : Pa) (E : L2.St → XK) (X : Cx) (e : Option Expr) (m : M (Option Int)) : Prop := PO X e (fun σ H Q => ∃ τ, StR L P H σ τ ∧ Post L P (fun _ a b => b = a) H σ τ (m τ) Q (E σ))
theorem PO.weak {e : Option Expr} {t u : TO} (h : PO X e t) (f : ∀ σ H Q, u σ H Q → t σ H Q) : PO X e u := ⟨fun pins s σ H Q I q => h.run pins s σ H Q I (f σ H Q q)⟩
def oNone : M (Option Int) := fun τ => .ok none τ
def asI : D → Option Int
  | .int i => some i
  | _ => none
@[simp] theorem asI_int {i : Int} : asI (.int i) = some i := rfl
def oSome (m : M D) : M (Option Int) := fun τ => (m τ).bind fun x => fun τ => Res.lift ((asI x).map some) τ
theorem sO_none : SO L P E X none oNone := PO.weak po_none fun σ H Q ⟨τ, R, h⟩ => h none H .refl R rfl
theorem sO_some (h : SE L P E X e m) : SO L P E X (some e) (oSome m) :=
  PO.weak (po_some h) fun σ H Q ⟨τ, R, h⟩ => by
    refine ⟨τ, R, (Post.split (R := RV L) h).imp fun x H1 ⟨d1, τ1, t1, R1, r1, h1⟩ => ?_⟩
    obtain ⟨o, e, q⟩ := h1.lift
    obtain ⟨i, e1, rfl⟩ := Option.map_eq_some_iff.mp e
    cases d1 with
    | int j =>
      cases e1
      exact ⟨i, Rp.int_iff.mp r1, q _ H1 .refl R1 rfl⟩
    | _ => cases e1
def cutD (xs : List D) (lo hi : Option Int) : List D := (xs.drop (HT.sIx xs.length 0 lo)).take (HT.sIx xs.length xs.length hi - HT.sIx xs.length 0 lo)
theorem Rps.cut {F : Hp} {xs : List D} {vs : List V} (r : Rps L F xs vs) (lo hi : Option Int) : Rps L F (cutD xs lo hi) (cutV vs lo hi) := by
  unfold cutD cutV
  rw [r.length]
  exact (r.drop _).take _
def dSl (lo hi : Option Int) : D → Option D
  | .lst xs => some (.lst (cutD xs lo hi))
  | .scr xs => some (.lst (cutD xs lo hi))
  | .tup xs => some (.tup (cutD xs lo hi))
  | .str z => if z.length ≤ 16000000 then some (.str (cutS z lo hi)) else none
  | _ => none
def rSl (K : PySem.W.Frag) : V → Option Int → Option Int → Hp → VK → Prop := fun x lo hi H Q => rSlL K x lo hi H Q ∨ rSlA K x lo hi H Q ∨ rSlS x lo hi H Q
theorem sl_seq : L2.SlR X (rSl X.K) := L2.SlR.or sl_list (L2.SlR.or sl_tupA sl_str)
theorem os_sl {lo hi : Option Int} {a d : D} {x : V} {H : Hp} {A : Addr → Prop} {Q : VK} (e : dSl lo hi a = some d) (ra : Bp L (hid H A) H a x) (hA : Th H A) (q : ∀ z H', Kin H H' → Rp L (hid H' A) d z → Q z H') : rSl L.K x lo hi H Q := by
  cases a with
  | lst xs =>
    cases e
    obtain ⟨p, vs, rfl, h, rr⟩ := ra.lst
    exact .inl ⟨p, vs, rfl, .inl (.inl h), fun l hl => q _ _ (.of (same_upd hl)) (new_lst hA hl (rr.cut lo hi))⟩
  | scr xs =>
    cases e
    obtain ⟨p, vs, rfl, h, rr⟩ := ra.scr
    exact .inl ⟨p, vs, rfl, hid_le.seq h, fun l hl => q _ _ (.of (same_upd hl)) (new_lst hA hl (rr.cut lo hi))⟩
  | tup xs =>
    cases e
    obtain ⟨p, vs, rfl, h, rr⟩ := ra.tup
    refine .inr (.inl ⟨p, vs, rfl, SqT.same hid_le h, fun hw => ?_, fun _ l hl => q _ _ (.of (same_upd hl)) (new_tup hA hl (rr.cut lo hi))⟩)
    refine q _ H (.refl _) (Rp.tup_iff.mpr ⟨p, vs, rfl, h, ?_⟩)
    have hw' : cutD xs lo hi = xs := by
      unfold cutD
      rw [← rr.length, hw.1, hw.2, List.drop_zero, Nat.sub_zero, rr.length, List.take_length]
    rw [hw']
    exact rr
  | str z =>
    have e : (if z.length ≤ 16000000 then some (D.str (cutS z lo hi)) else none) = some d := e
    split at e
    · rename_i hz
      cases e
      exact .inr (.inr ⟨z, ra.str, small16 hz, q _ H (.refl _) .mk_str⟩)
    · cases e
  | _ => cases e
def mSl (m : M D) (lo hi : M (Option Int)) : M D := fun τ => (m τ).bind fun x => fun τ => (lo τ).bind fun l => fun τ => (hi τ).bind fun h => fun τ => Res.lift (dSl l h x) τ
def mSlP (i : Nat) (lo hi : M (Option Int)) : M D := fun τ =>
  match peek i τ with
  | none => .fail
  | some _ => (lo τ).bind fun l => fun τ => (hi τ).bind fun h => fun τ => Res.lift ((peek i τ).bind (dSl l h)) τ
theorem sE_slP {lo hi : Option Expr} {ml mh : M (Option Int)} {p2 p : Pos} {x : Str} (i : Nat) (hK : X.K = L.K) (hl : SO L P E X lo ml) (hh : SO L P E X hi mh) (hN : X.N[i]? = some x := by rfl) (hv : Vis X.env.scope x := by first | exact Or.inl rfl | exact Or.inr (Or.inl rfl) | exact Or.inr (Or.inr rfl)) (hd : (x == ("__debug__" : Str)) = false := by decide)
    (hcd : (x == ("__classdict__" : Str)) = false := by decide) : SE L P E X (.Subscript (.Name x p) (.Slice lo hi none p2) pos) (mSlP i ml mh) :=
  PE.weak (pe_slice sl_seq (pe_var hN hv hd hcd) hl hh) fun σ H Q ⟨τ, R, h⟩ => by
    unfold mSlP at h
    split at h
    · exact h.elim
    · rename_i d0 e0
      obtain ⟨v, hv, _⟩ := peek_ok R e0
      refine ⟨v, hv, τ, R, (Post.split (R := fun _ a b => b = a) h).imp fun l H2 ⟨l', τ2, t2, R2, e2, h2⟩ => ?_⟩
      cases e2
      refine ⟨τ2, R2, (Post.split (R := fun _ a b => b = a) h2).imp fun u H3 ⟨u', τ3, t3, R3, e3, h3⟩ => ?_⟩
      cases e3
      obtain ⟨d, e4, q⟩ := h3.done R3
      obtain ⟨d1, e5, e6⟩ := Option.bind_eq_some_iff.mp e4
      obtain ⟨v', hv', rb⟩ := peek_ok R3 e5
      rw [hv] at hv'
      cases hv'
      rw [hK]
      exact os_sl e6 rb R3.ths q

def FnF (L : Lay) (r : List V → Hp → VK → Prop) (f : List D → Option (List D)) : Prop :=
  ∀ (ds ns : List D) (xs : List V) (H : Hp) (A : Addr → Prop) (Q : VK), f ds = some ns → Bps L (hid H A) H ds xs → Th H A →
    (∀ p vs, H p = none → Rps L (hid H A) ns vs → Q (.ref p) (upd H p (.lst vs))) → r xs H Q
def mFnF (f : List D → Option (List D)) (ms : M (List D)) : M D := fun τ => (ms τ).bind fun xs => fun τ => Res.lift ((f xs).map D.lst) τ
theorem Post.toF {γ : Type} {R : Hp → γ → List V → Prop} {H : Hp} {σ : L2.St} {τ : List Sl} {r : Res γ} {f : γ → M D} {Q : VK} {e : XK} (h : PostF L P H σ τ (r.bind f) Q e) :
    Post L P R H σ τ r (fun v H1 => ∃ a τ1, Tr H (Own σ τ) H1 (Own σ τ1) ∧ StR L P H1 σ τ1 ∧ R (hid H1 (Hd P σ τ1)) a v ∧ PostF L P H1 σ τ1 (f a τ1) Q e) e := by
  cases r with
  | ok a τ1 =>
    intro v H1 t1 R1 r1
    refine ⟨a, τ1, t1, R1, r1, ?_⟩
    have h : PostF L P H σ τ (f a τ1) Q e := h
    revert h
    cases f a τ1 with
    | ok d τ2 => exact fun h a H' x y z => h a H' (t1.trans x) y z
    | exc c xs τ2 => exact fun h a b H' x y z => h a b H' (t1.trans x) y z
    | fail => exact fun h => h
  | exc c xs τ2 => exact h
  | fail => exact h
theorem PostF.new {H : Hp} {σ : L2.St} {τ : List Sl} {ns : List D} {Q : VK} {e : XK} (R : StR L P H σ τ) (h : PostF L P H σ τ (.ok (.lst ns) τ) Q e) {p : Addr} {vs : List V} (hp : H p = none) (r : Rps L (hid H (Hd P σ τ)) ns vs) : Q (.ref p) (upd H p (.lst vs)) := by
  refine h p _ ?_ ?_ ?_
  · rw [rid_upd hp]; exact .refl
  · rw [rid_upd hp]; exact R
  · rw [rid_upd hp]; exact ⟨vs, upd_same, r⟩
theorem tCB_ofF {r : List V → Hp → VK → Prop} {f : List D → Option (List D)} (hf : FnF L r f) (σ : L2.St) (H : Hp) (Q : VK) (h : tF L P E (mFnF f ms) σ H Q) : tCB r (tA L P E ms) σ H Q := by
  obtain ⟨τ, R, h⟩ := h
  refine ⟨τ, R, (Post.toF (R := RVs L) h).imp fun xs H1 ⟨ds, τ1, t1, R1, r1, h1⟩ => ?_⟩
  cases e : f ds with
  | none => rw [e] at h1; exact h1.elim
  | some ns =>
    rw [e] at h1
    exact hf ds ns xs H1 (Hd P σ τ1) Q e (r1.bps hid_le) R1.ths fun p vs hp rr => PostF.new R1 h1 hp rr
theorem sF_callB {r : List V → Hp → VK → Prop} {f : List D → Option (List D)} {id : String} {x : Str} {p : Pos} (hc : CallR X (.builtin id) r) (hf : FnF L r f) (hg : Gl X x) (hm : X.mg x = none) (hv : bootBuiltins x = some (.builtin id)) (ha : SA L P E X (e :: es) ms) (hn : x ≠ "__name__" := by decide) (hdb : (x == ("__debug__" : Str)) = false := by decide)
    (he : starEach (e :: es) X.env = (false, eval e X.env) :: starEach es X.env := by rfl) (hpl : (backTo pos (starEach es X.env)).any (·.1) = false := by rfl) : SF L P E X (.Call (.Name x p) (e :: es) [] pos) (mFnF f ms) :=
  PE.weak (pe_callB hc hg hm hv ha hn hdb he hpl) fun σ H Q h => tCB_ofF hf σ H Q h
theorem sF_callTy {r : List V → Hp → VK → Prop} {f : List D → Option (List D)} {T : String} {x : Str} {p : Pos} (hc : CallR X (.type T) r) (hf : FnF L r f) (hg : Gl X x) (hm : X.mg x = none) (hv : bootBuiltins x = some (.type T)) (ha : SA L P E X (e :: es) ms) (hn : x ≠ "__name__" := by decide) (hdb : (x == ("__debug__" : Str)) = false := by decide)
    (he : starEach (e :: es) X.env = (false, eval e X.env) :: starEach es X.env := by rfl) (hpl : (backTo pos (starEach es X.env)).any (·.1) = false := by rfl) : SF L P E X (.Call (.Name x p) (e :: es) [] pos) (mFnF f ms) :=
  PE.weak (pe_callTy hc hg hm hv ha hn hdb he hpl) fun σ H Q h => tCB_ofF hf σ H Q h
def nList : List D → Option (List D)
  | [.lst xs] => some xs
  | [.tup xs] => some xs
  | [.scr xs] => some xs
  | _ => none
theorem ff_list : FnF L (fun xs H Q => ∃ p ys, xs = [.ref p] ∧ (SqL L.K H p ys ∨ SqT L.K H p ys) ∧ ∀ l, H l = none → Q (.ref l) (upd H l (.lst ys))) nList := by
  intro ds d xs H A Q e r hA q
  unfold nList at e
  split at e
  · cases e
    obtain ⟨v, rfl, rv⟩ := r.one
    obtain ⟨a, vs, rfl, h, rr⟩ := rv.lst
    exact ⟨a, vs, rfl, .inl (.inl (.inl h)), fun l hl => q _ _ hl rr⟩
  · cases e
    obtain ⟨v, rfl, rv⟩ := r.one
    obtain ⟨a, vs, rfl, h, rr⟩ := rv.tup
    exact ⟨a, vs, rfl, .inr (SqT.same hid_le h), fun l hl => q _ _ hl rr⟩
  · cases e
    obtain ⟨v, rfl, rv⟩ := r.one
    obtain ⟨a, vs, rfl, h, rr⟩ := rv.scr
    exact ⟨a, vs, rfl, .inl (hid_le.seq h), fun l hl => q _ _ hl rr⟩
  · cases e

def truD : D → Option Bool
  | .non => some false
  | .bl b => some b
  | .int i => some (i != 0)
  | .lst xs => some (!xs.isEmpty)
  | .tup xs => some (!xs.isEmpty)
  | _ => none
theorem truV_ok {F H : Hp} (s : Same F H) {d : D} {v : V} {k : Bool} (r : Bp L F H d v) (e : truD d = some k) : TruV L.K v H k := by
  have em : ∀ {xs : List D} {vs : List V}, Rps L F xs vs → (!vs.isEmpty) = !xs.isEmpty := fun {xs vs} r => by
    cases xs with
    | nil => unfold Rps at r; rw [r]; rfl
    | cons x xs => unfold Rps at r; obtain ⟨v, t, rfl, _⟩ := r; rfl
  cases d with
  | non => cases e; rw [r.non]; exact rfl
  | bl b => cases e; rw [r.bl]; exact rfl
  | int b => cases e; rw [r.int]; exact rfl
  | lst ds => cases e; obtain ⟨a, vs, rfl, h, rr⟩ := r.lst; exact .inl ⟨vs, .inl (.inl h), (em rr).symm⟩
  | tup ds => cases e; obtain ⟨a, vs, rfl, h, rr⟩ := r.tup; exact .inr (.inl ⟨vs, SqT.same s h, (em rr).symm⟩)
  | _ => cases e
def mOrV (a b : M D) : M D := fun τ => (a τ).bind fun x => fun τ => (Res.lift (truD x) τ).bind fun k => fun τ => if k = true then .ok x τ else b τ
theorem sF_or (hK : X.K = L.K) (ha : SF L P E X a ma) (hb : SF L P E X b mb) : SF L P E X (.BoolOp .Or [a, b] pos) (mOrV ma mb) :=
  PE.weak (pe_orT ha (pe_one hb)) fun σ H Q ⟨τ, R, h⟩ => by
    refine ⟨τ, R, ?_⟩
    have h : PostF L P H σ τ ((ma τ).bind fun x => fun τ => (Res.lift (truD x) τ).bind fun k => fun τ => if k = true then .ok x τ else mb τ) Q (E σ) := h
    revert h
    cases ma τ with
    | ok d τ1 =>
      intro h a H1 t1 R1 r1
      rw [Res.bind_ok] at h
      cases e : truD d with
      | none => rw [e] at h; exact h.elim
      | some k =>
        rw [e, Res.lift_some, Res.bind_ok] at h
        refine ⟨k, by rw [hK]; exact truV_ok (F := hid H1 (Hd P σ τ1)) hid_le ((fresh_rp R1 r1).bp hid_le) e, ?_⟩
        cases k with
        | true => rw [if_pos rfl] at h ⊢; exact h a H1 t1 R1 r1
        | false =>
          rw [if_neg Bool.false_ne_true] at h ⊢
          refine ⟨τ1, R1.same rid_le, ?_⟩
          revert h
          have t2 : Tr H (Own σ τ) H1 (Own σ τ1) := t1.trans (.of rid_le)
          cases mb τ1 with
          | ok d τ2 => exact fun h a H' x y z => h a H' (t2.trans x) y z
          | exc c xs τ2 => exact fun h a b H' x y z => h a b H' (t2.trans x) y z
          | fail => exact fun h => h
    | exc c xs τ' => exact fun h => h
    | fail => exact fun h => h
end
end Sm
set_option Elab.async false
set_option linter.all false
set_option maxRecDepth 100000
set_option maxHeartbeats 400000
namespace Sm
open PySem PySem.Spec PyProof.Rows L2
section
variable {L : Lay} {P : Pa} {W : WX} {X : Cx} {E : L2.St → XK} {pos : Pos} {e a b c : Expr} {es : List Expr} {m ma mb mc : M D} {ms : M (List D)}
def Sl.chg (f : List D → Option (List D)) : Sl → Option Sl
  | .ow (.lst ds) => (f ds).map fun ns => .ow (.lst ns)
  | .le (.lst ds) => (f ds).map fun ns => .le (.lst ns)
  | .io k (.lst ds) => (f ds).map fun ns => .io k (.lst ns)
  | _ => none
def chgS (i : Nat) (f : List D → Option (List D)) (τ : List Sl) : Option (List Sl) := (τ[i]?).bind fun t => (t.chg f).map fun t' => τ.set i t'
theorem StR.chg {H : Hp} {σ : L2.St} {τ τ' : List Sl} {i : Nat} {f : List D → Option (List D)} (R : StR L P H σ τ) (h : chgS i f τ = some τ') :
    ∃ a vs ds ns, σ[i]? = some (some (.ref a)) ∧ H a = some (.lst vs) ∧ Rps L (hid H (Hd P σ τ)) ds vs ∧ f ds = some ns ∧
      ∀ us, Rps L (hid H (Hd P σ τ)) ns us → Tr H (Own σ τ) (upd H a (.lst us)) (Own σ τ') ∧ StR L P (upd H a (.lst us)) σ τ' := by
  obtain ⟨t, et, h⟩ := Option.bind_eq_some_iff.mp h
  obtain ⟨t', e', rfl⟩ := Option.map_eq_some_iff.mp h
  have q := R.sl i t et
  have keep : ∀ (a : Addr) (us : List V) (b : Addr) (o : HO), H b = some o → b ≠ a → upd H a (.lst us) b = some o := fun a us b o h n => by rw [upd_ne n]; exact h
  cases t with
  | ow d =>
    cases d with
    | lst ds =>
      obtain ⟨ns, e, rfl⟩ := Option.map_eq_some_iff.mp e'
      obtain ⟨a, e1, vs, hv, rr⟩ := q
      exact ⟨a, vs, ds, ns, e1, hv, rr, e, fun us ru => R.upd1 ⟨e1, _, et, rfl⟩ (keep a us) ⟨_, upd_same⟩ (.inr ⟨rfl, fun tr => ⟨a, e1, us, upd_same, Rps.same (R.fz tr) ru⟩⟩)⟩
    | _ => cases e'
  | le d =>
    cases d with
    | lst ds =>
      obtain ⟨ns, e, rfl⟩ := Option.map_eq_some_iff.mp e'
      obtain ⟨a, e1, vs, hv, rr⟩ := q
      exact ⟨a, vs, ds, ns, e1, hv, rr, e, fun us ru => R.upd1 ⟨e1, _, et, rfl⟩ (keep a us) ⟨_, upd_same⟩ (.inr ⟨rfl, fun tr => ⟨a, e1, us, upd_same, Rps.same (R.fz tr) ru⟩⟩)⟩
    | _ => cases e'
  | io k d =>
    cases d with
    | lst ds =>
      obtain ⟨ns, e, rfl⟩ := Option.map_eq_some_iff.mp e'
      obtain ⟨a, e1, e2, q⟩ := q
      obtain ⟨vs, hv, rr⟩ := q.list rfl
      exact ⟨a, vs, ds, ns, e1, hv, rr, e, fun us ru => R.upd1 ⟨e1, _, et, rfl⟩ (keep a us) ⟨_, upd_same⟩ (.inr ⟨rfl, fun tr => ⟨a, e1, e2, .inl ⟨us, upd_same, Rps.same (R.fz tr) ru⟩⟩⟩)⟩
    | _ => cases e'
  | un => cases e'
  | fz d => cases e'
  | oo d => cases e'

def Res.opt (o : Option (List Sl)) : Res D :=
  match o with
  | some τ => .ok .non τ
  | none => .fail
@[simp] theorem Res.opt_some {τ : List Sl} : Res.opt (some τ) = .ok .non τ := rfl
@[simp] theorem Res.opt_none : Res.opt none = .fail := rfl
def isLst : Option D → Bool
  | some (.lst _) => true
  | _ => false
theorem isLst_some {o : Option D} (h : isLst o = true) : ∃ ds, o = some (.lst ds) := by
  unfold isLst at h
  split at h
  · exact ⟨_, rfl⟩
  · cases h
def fSet (k : Int) (d : D) (xs : List D) : Option (List D) := (ixN xs.length k).map fun j => xs.set j d
def Res.ixO (r : Res D) (f : Int → List Sl → Option (List Sl)) : Option (List Sl) :=
  match r with
  | .ok (.int k) τ => f k τ
  | _ => none
@[simp] theorem Res.ixO_int {k : Int} {τ : List Sl} {f : Int → List Sl → Option (List Sl)} : (Res.ok (.int k) τ).ixO f = f k τ := rfl
def gIx (i : Nat) (mi : M D) : MG := fun d τ => if isLst (peek i τ) = true then (mi τ).ixO fun k τ => chgS i (fSet k d) τ else none
theorem sG_ix {x : Str} {p : Pos} (i : Nat) (hb : SE L P (WE W) X b mb) (hN : X.N[i]? = some x := by rfl) (hv : Vis X.env.scope x := by first | exact Or.inl rfl | exact Or.inr (Or.inl rfl) | exact Or.inr (Or.inr rfl)) (hd : (x == ("__debug__" : Str)) = false := by decide)
    (hcd : (x == ("__classdict__" : Str)) = false := by decide)
    (ha : ∀ v, assign (.Subscript (.Name x p) b pos) X.env v = (do
      let ov ← holding [v] (eval (.Name x p) X.env)
      let iv ← holding [v, ov] (eval b X.env)
      standAt pos
      holding [v, ov, iv] (setItem ov iv v)
      release [v, ov, iv] []) := by intro _; rfl) : SG L P X (.Subscript (.Name x p) b pos) (gIx i mb) :=
  PG.weak (pg_sub (pe_var hN hv hd hcd) hb set_list ha) fun v σ H Q ⟨τ, d, τ', R, r, e, q⟩ => by
    have e : (if isLst (peek i τ) = true then (mb τ).ixO fun k τ => chgS i (fSet k d) τ else none) = some τ' := e
    by_cases hl : isLst (peek i τ) = true
    · rw [if_pos hl] at e
      obtain ⟨ds, hp⟩ := isLst_some hl
      obtain ⟨w, hw, rb⟩ := peek_ok R hp
      refine ⟨w, hw, τ, R, ?_⟩
      revert e
      cases mb τ with
      | ok dk τ1 =>
        intro e y H1 t1 R1 r1
        cases dk with
        | int k =>
          have e : chgS i (fSet k d) τ1 = some τ' := e
          obtain ⟨a', vs', ds', ns, e2, hv', rr, ef, q2⟩ := R1.chg e
          rw [hw] at e2
          cases e2
          obtain ⟨j, hj, rfl⟩ := Option.map_eq_some_iff.mp ef
          rw [← rr.length] at hj
          obtain ⟨t2, R2⟩ := q2 (vs'.set j v) (Rps.set (r.same (R.fz t1)) j rr)
          exact ⟨a', vs', k, j, rfl, Rp.int_iff.mp r1, hv', hj, q _ _ (t1.trans t2) R2⟩
        | _ => cases e
      | exc c xs τ1 => intro e; cases e
      | fail => intro e; cases e
    · rw [if_neg hl] at e
      cases e
end
end Sm
set_option Elab.async false
set_option linter.all false
set_option maxRecDepth 100000
set_option maxHeartbeats 400000
namespace Sm
open PySem PySem.Spec PyProof.Rows L2
section
variable {P : Program} {w : World} {A : Around} {E : Value → Shared → Prop} {s : Shared}
set_option maxHeartbeats 3200000 in
theorem set_of_ints {l : Addr} {items : Array Value} (ns : List Int) {Q : Value → Shared → Prop} (hh : A.handled = none) (hl : s.heap.IsList l items) (hit : IntsAre items.toList ns) (hb : ns.length + 1 < scanBound)
    (h : ∀ (h' : Heap) (tk c : Nat), SetR w h' s.heap.objs.size (fun j => decide (j ∈ ns)) c → (∀ b o, s.heap.get? b = some o → h'.get? b = some o) → Q (.ref s.heap.objs.size) { s with heap := h', toks := tk }) :
    wpAny (model P w) A (call (.type "set") [.ref l]) Q E s := by
  have size : items.size = ns.length := by rw [← Array.length_toList]; exact IntsAre.length hit
  obtain ⟨c, tl, hmro⟩ := F.called_set.mro
  have hmade := F.called_set.made
  have hsub := F.called_set.sub
  have h1 := F.called_set.notType
  have h2 := F.called_set.canCreate
  have hct := F.typeCall_set_1 (.ref l)
  refine wpAny_call (codeAny_of_tree ?_)
  show wpAny _ _ (callAny (.type "set") _) _ _ _
  refine wpAny_pure ⟨Code.quiet_builtin _ (by decide +kernel), codeAny_builtin F.entry_type_call ?_⟩
  rw [Around.under_plain (weight_type_call_type "set" [.ref l] []) rfl]
  repeat (any_goals (first | assumption | wp_step))

  refine codeAny_mono (code_set_led1 (.ref l) (E := E) (Q₁ := fun v s₁ => v = .ref s.heap.objs.size ∧ s₁ = { s with heap := s.heap.push { cls := .type "set", dict := none, data := .set #[] 0 (.fresh 0 0 (!w.params.followText "set-order")) } }) ⟨rfl, rfl⟩) fun r s₁ hr => ?_
  match r, hr with
  | .error e, hr => exact hr
  | .ok (.ret obj), hr =>
    obtain ⟨rfl, rfl⟩ := hr
    have hS : (s.heap.push { cls := .type "set", dict := none, data := .set #[] 0 (.fresh 0 0 (!w.params.followText "set-order")) }).get? s.heap.objs.size = some { cls := .type "set", dict := none, data := .set #[] 0 (.fresh 0 0 (!w.params.followText "set-order")) } := Heap.get?_push_size _ rfl
    have hT : Shared.TypeIs { s with heap := s.heap.push { cls := .type "set", dict := none, data := .set #[] 0 (.fresh 0 0 (!w.params.followText "set-order")) } } (.ref s.heap.objs.size) "set" := ⟨_, hS, rfl⟩
    have hli := F.called_set.init.lookup
    have hbi := F.called_set.init.bind (.ref s.heap.objs.size)
    repeat (any_goals (first | assumption | wp_step))

    refine codeAny_mono (codeAny_call_builtin (R := wants (fun r s₂ => r = .none ∧ ∃ h' tk c, s₂ = { s with heap := h', toks := tk } ∧ SetR w h' s.heap.objs.size (fun j => decide (j ∈ ns)) c ∧
        (∀ b o, s.heap.get? b = some o → h'.get? b = some o)) E) F.called_set.init.plain F.entry_set_init (check_set_init_1 hT ?_)) fun r₂ s₂ hr₂ => ?_
    · have old : ∀ b o, s.heap.get? b = some o → (s.heap.push { cls := .type "set", dict := none, data := .set #[] 0 (.fresh 0 0 (!w.params.followText "set-order")) }).get? b = some o := fun b o e => Heap.get?_push_of_some _ e
      obtain ⟨ol, hol, hcl, nl, hdl⟩ := hl
      have hlS : l < s.heap.objs.size := Heap.lt_size hol
      obtain ⟨ocls, odict, odata, oslots⟩ := ol
      simp only at hcl hdl
      subst hcl; subst hdl
      have hol' := old _ _ hol
      have hsls := F.sub_list_set
      have hslf := F.sub_list_frozenset
      have hne : (Value.type "list" == Value.type "dict") = false := by decide
      have hl1 : (s.heap.push { cls := .type "set", dict := none, data := .set #[] 0 (.fresh 0 0 (!w.params.followText "set-order")) }).IsList l items := ⟨_, hol', rfl, nl, rfl⟩
      unfold Builtin.«set.__init__» noKeywords Builtin.Frozenset.updateFrom
      generalize hPI : pyIter = PI
      wp_walk
      subst hPI

      refine wpAny_pyIter_list hl1 ?_
      refine wpAny_bind (wpAny_runValue ?_)
      have hh3 : A.in1.in1.in1.handled = none := by simp [hh]
      have hneI : l ≠ (s.heap.push { cls := .type "set", dict := none, data := .set #[] 0 (.fresh 0 0 (!w.params.followText "set-order")) }).objs.size := by
        rw [Heap.size_push]; exact Nat.ne_of_lt (Nat.lt_succ_of_lt hlS)
      have hSf : s.heap.objs.size ∉ [(s.heap.push { cls := .type "set", dict := none, data := .set #[] 0 (.fresh 0 0 (!w.params.followText "set-order")) }).objs.size, l] := by
        rw [Heap.size_push]
        simp only [List.mem_cons, List.mem_singleton, List.not_mem_nil, or_false, not_or]
        exact ⟨Nat.ne_of_lt (Nat.lt_succ_self _), Nat.ne_of_gt hlS⟩
      have hval : ∀ (i : Nat) (v : Value), items[i]? = some v → ∃ k t, ns[i]? = some k ∧ v = .int k t := fun i v hv => by
        have hi : i < ns.length := by rw [← size]; exact (Array.getElem?_eq_some_iff.mp hv).1
        obtain ⟨t, e⟩ := PyProof.Rows.IntsAre.int_at hit i v (by rw [Array.getElem?_toList]; exact hv)
        refine ⟨ns[i], t, List.getElem?_eq_getElem hi, ?_⟩
        rw [e, List.getD_eq_getElem?_getD, List.getElem?_eq_getElem hi] <;> rfl
      have fresh : ((s.heap.push { cls := .type "set", dict := none, data := .set #[] 0 (.fresh 0 0 (!w.params.followText "set-order")) }).push { cls := .type "list_iterator", data := .fields #[.ref l, .int 0 0] }).get? s.heap.objs.size
          = some { cls := .type "set", dict := none, data := .set #[] 0 (.fresh 0 0 (!w.params.followText "set-order")) } := Heap.get?_push_of_some _ hS
      refine set_update_ints ((Walks.list hh3 _ l hneI items).toS) s.heap.objs.size hSf ns size hb hval (items.size - 0) 0 _ (by omega) (Nat.zero_le _)
        ⟨⟨_, Heap.get?_push_size _ rfl, rfl, rfl⟩, (hl1.push _)⟩ ⟨0, Nat.le_refl 0, setR_new_at fresh⟩ fun s' c' hm hc' hS' => ?_
      obtain ⟨h', g2, d', tk', os'⟩ := s'
      have eg : g2 = s.gens := hm.gens
      have ed : d' = s.drawn := hm.drawn
      have eo : os' = s.os := hm.os
      subst eg; subst ed; subst eo
      show wpAny _ _ _ _ _ _
      refine wpAny_pure ?_
      show wpAny _ _ (ret Value.none) _ _ _
      refine wpAny_pure ⟨rfl, h', tk', c', rfl, hS', fun b o e => ?_⟩
      have hb0 : b < s.heap.objs.size := Heap.lt_size e
      refine hm.heap b o ?_ (Heap.get?_push_of_some _ (old b o e))
      rw [Heap.size_push]
      simp only [List.mem_cons, List.mem_singleton, List.not_mem_nil, or_false, not_or]
      exact ⟨Nat.ne_of_lt hb0, Nat.ne_of_lt (Nat.lt_succ_of_lt hb0)⟩
    · match r₂, hr₂ with
      | .error e, hr₂ => exact hr₂
      | .ok (.ret r), hr₂ =>
        obtain ⟨rfl, h', tk, c', rfl, hS', hk'⟩ := hr₂
        repeat (any_goals (first | assumption | wp_step))
        exact h _ _ _ hS' hk'
end
end Sm
set_option Elab.async false
set_option linter.all false
set_option maxRecDepth 100000
set_option maxHeartbeats 400000
namespace Sm
open PySem PySem.Spec PyProof.Rows L2
def insU (k : Int) : List Int → List Int
  | [] => [k]
  | x :: xs => if k < x then k :: x :: xs else if k = x then x :: xs else x :: insU k xs
def sortU : List Int → List Int
  | [] => []
  | x :: xs => insU x (sortU xs)
theorem insU_mem {k j : Int} : ∀ {xs : List Int}, j ∈ insU k xs ↔ j = k ∨ j ∈ xs
  | [] => by simp [insU]
  | x :: xs => by
    unfold insU
    split
    · simp
    · split
      · rename_i h; subst h; simp
      · simp only [List.mem_cons, insU_mem (xs := xs)]
        constructor
        · rintro (h | h | h)
          · exact .inr (.inl h)
          · exact .inl h
          · exact .inr (.inr h)
        · rintro (h | h | h)
          · exact .inr (.inl h)
          · exact .inl h
          · exact .inr (.inr h)
theorem insU_pw {k : Int} : ∀ {xs : List Int}, xs.Pairwise (· < ·) → (insU k xs).Pairwise (· < ·)
  | [], _ => by simp [insU]
  | x :: xs, h => by
    obtain ⟨h1, h2⟩ := List.pairwise_cons.mp h
    unfold insU
    split
    · rename_i hk
      refine List.pairwise_cons.mpr ⟨fun y hy => ?_, h⟩
      rcases List.mem_cons.mp hy with e | hy
      · omega
      · have := h1 y hy; omega
    · split
      · exact h
      · rename_i n1 n2
        refine List.pairwise_cons.mpr ⟨fun y hy => ?_, insU_pw h2⟩
        rcases insU_mem.mp hy with e | hy
        · omega
        · exact h1 y hy
theorem sortU_mem {j : Int} : ∀ {xs : List Int}, j ∈ sortU xs ↔ j ∈ xs
  | [] => by simp [sortU]
  | x :: xs => by rw [sortU, insU_mem, sortU_mem (xs := xs), List.mem_cons]
theorem sortU_pw : ∀ xs : List Int, (sortU xs).Pairwise (· < ·)
  | [] => by simp [sortU]
  | x :: xs => insU_pw (sortU_pw xs)
theorem rising_eq : ∀ {xs ys : List Int}, xs.Pairwise (· < ·) → ys.Pairwise (· < ·) → (∀ k, k ∈ xs ↔ k ∈ ys) → xs = ys
  | [], [], _, _, _ => rfl
  | [], y :: ys, _, _, h => by have := (h y).mpr List.mem_cons_self; simp at this
  | x :: xs, [], _, _, h => by have := (h x).mp List.mem_cons_self; simp at this
  | x :: xs, y :: ys, hx, hy, h => by
    obtain ⟨x1, x2⟩ := List.pairwise_cons.mp hx
    obtain ⟨y1, y2⟩ := List.pairwise_cons.mp hy
    have e : x = y := by
      rcases List.mem_cons.mp ((h x).mp List.mem_cons_self) with e | e
      · exact e
      · rcases List.mem_cons.mp ((h y).mpr List.mem_cons_self) with e2 | e2
        · exact e2.symm
        · have := y1 x e; have := x1 y e2; omega
    subst e
    have t : xs = ys := rising_eq x2 y2 fun k => by
      constructor
      · intro hk
        rcases List.mem_cons.mp ((h k).mp (List.mem_cons_of_mem _ hk)) with e | e
        · have := x1 k hk; omega
        · exact e
      · intro hk
        rcases List.mem_cons.mp ((h k).mpr (List.mem_cons_of_mem _ hk)) with e | e
        · have := y1 k hk; omega
        · exact e
    rw [t]
section
variable {L : Lay} {P : Pa} {W : WX} {X : Cx} {E : L2.St → XK} {pos : Pos} {e a b c : Expr} {es : List Expr} {m ma mb mc : M D} {ms : M (List D)}
def rSetOfI (K : PySem.W.Frag) (w : World) : List V → Hp → VK → Prop := fun xs H Q => ∃ (l : Addr) (ns : List Int), xs = [V.ref l] ∧ SqL K H l (ns.map V.int) ∧ ns.length < 2000 ∧
  ∀ a, H a = none → Q (.ref a) (upd H a (SetO w a (fun k => decide (k ∈ sortU ns)) (sortU ns).length))
theorem setR_num {w : World} {h : Heap} {a : Addr} {ns : List Int} {n : Nat} (R : SetR w h a (fun j => decide (j ∈ ns)) n) : n = (sortU ns).length := by
  obtain ⟨o, es, ep, t, _, _, _, _, nd, hm, _, _, hn, _⟩ := R
  have hp : (es.toList.map keyOf).Perm (sortU ns) := (List.perm_ext_iff_of_nodup nd ((sortU_pw ns).imp fun h => Int.ne_of_lt h)).mpr fun k => by
    rw [← hm k, sortU_mem]
    exact decide_eq_true_iff
  have := hp.length_eq
  rw [List.length_map, Array.length_toList] at this
  omega
theorem cr_setOfI (hc : X.calm = true) : CallR X (.type "set") (rSetOfI X.K X.w) := by
  intro pins s σ H xs us Q I r h
  obtain ⟨l, ns, rfl, hl, hf, q⟩ := h
  rw [Vals.ref1 r]
  obtain ⟨its, rv, pl, hz⟩ := I.list hl
  have hn : H s.heap.objs.size = none := I.hok.fresh (Nat.le_refl _)
  refine set_of_ints (P := X.prog) (w := X.w) ns (I.ok.hd hc) pl.isList (by simpa using intsAre_of rv) (by unfold scanBound; omega) fun h' tk c R k => ?_
  have hnum := setR_num R
  subst hnum
  have ef : (fun j => decide (j ∈ ns)) = fun j => decide (j ∈ sortU ns) := by
    funext j
    exact decide_eq_decide.mpr sortU_mem.symm
  rw [ef] at R
  exact ⟨.ref s.heap.objs.size, upd H s.heap.objs.size (SetO X.w s.heap.objs.size (fun k => decide (k ∈ sortU ns)) (sortU ns).length), I.laid (t' := tk) k (Nat.le_refl _) (setO_new R), rfl, q _ hn⟩
def dSet : List D → Option D := onInts fun ns => if ns.length < 2000 then some (.set ((sortU ns).map .int)) else none
theorem fs_set : FnS L (rSetOfI L.K L.w) dSet := by
  intro ds d xs H A Q e r hA q
  obtain ⟨a, ns, rfl, h, e2⟩ := onInts_some e r
  split at e2
  · rename_i hz
    cases e2
    refine ⟨a, ns, rfl, .inl (.inl h), hz, fun p hp => q _ _ (.of (same_upd hp)) (Rp.set_iff.mpr (.inl ⟨p, sortU ns, rfl, rfl, sortU_pw ns, new_hid hA hp⟩))⟩
  · cases e2
end
end Sm
set_option Elab.async false
set_option linter.all false
set_option maxRecDepth 100000
set_option maxHeartbeats 400000
namespace Sm
open PySem PySem.Spec PyProof.Rows L2
section
variable {X : Cx}
abbrev zle : V × PyData → V × PyData → Bool := PySem.W.dataLe false (fun z : V × PyData => z.2)
theorem each_of {R : Value → V × PyData → Prop} : ∀ {zs : List (V × PyData)} {us : List Value}, Vals (zs.map (·.1)) us → (∀ z ∈ zs, ∀ u, RelV z.1 u → R u z) → PySem.W.EachIs R us zs
  | [], us, r, _ => by cases r; exact .nil
  | z :: zs, us, r, h => by
    cases r with
    | cons r1 r2 => exact .cons (h z List.mem_cons_self _ r1) (each_of r2 fun y hy => h y (List.mem_cons_of_mem _ hy))
theorem vals_each : ∀ {zs : List (V × PyData)} {us : List Value}, PySem.W.EachIs (fun u (z : V × PyData) => RelV z.1 u) us zs → Vals (zs.map (·.1)) us
  | [], us, r => by cases r; exact .nil
  | z :: zs, us, r => by
    cases r with
    | cons r1 r2 => exact .cons r1 (vals_each r2)
def rSortedD (K : PySem.W.Frag) : List V → Hp → VK → Prop := fun vs H Q => ∃ (a : Addr) (zs : List (V × PyData)), vs = [V.ref a] ∧ SqL K H a (zs.map (·.1)) ∧ (∀ z ∈ zs, Dp K H z.1 z.2) ∧ PySem.W.AllAlike (zs.map (·.2)) ∧ PySem.W.Sortable (zs.map (·.2)) ∧
  zs.length ≤ 16000000 ∧ (∀ z ∈ zs, z.2.depth ≤ 8) ∧ ∀ p, H p = none → Q (.ref p) (upd H p (.lst ((zs.mergeSort zle).map (·.1))))
theorem cr_sortedD (hu : X.A.units + 64 < cLine) : CallR X (.builtin "sorted") (rSortedD X.K) := by
  intro pins s σ H vs us Q I r h
  obtain ⟨a, zs, rfl, hs, hd, hal, hk, hz, hdep, q⟩ := h
  obtain ⟨its, rv, hl, _⟩ := I.list hs
  rw [Vals.ref1 r]
  have e : PySem.W.EachIs (fun (u : Value) (z : V × PyData) => RelV z.1 u) its zs := each_of rv fun z _ u r => r
  have er : PySem.W.EachIs (fun (u : Value) (z : V × PyData) => ∃ as, Reads s.heap u z.2 as) its zs := each_of rv fun z hz u r => Dp.reads I _ _ _ (hd z hz) r
  refine PySem.W.sorted_data (enc := fun z : V × PyData => z.2) hl.isList e er hal hk (Nat.le_trans hz (by decide)) (fun z hm => ?_) fun out h1 h2 => ?_
  · have := hdep z hm
    show X.A.units + 2 + _ < _
    omega
  · obtain ⟨ep, he'⟩ := PyProof.Rows.sortedAll_at s.heap its out.toArray
    have hlen : ((zs.mergeSort zle).map (·.1)).length ≤ sizeLine := by rw [List.length_map, (List.mergeSort_perm zs zle).length_eq]; exact Nat.le_trans hz (by decide)
    exact ⟨.ref _, upd H (s.heap.objs.size + 1) (.lst ((zs.mergeSort zle).map (·.1))), I.laid (t' := s.toks) (fun _ _ => PyProof.Rows.sortedAll_old) (Nat.le_succ _) ⟨hlen, out, ep, vals_each h2, he'⟩, rfl, q _ (I.hok.fresh (Nat.le_succ _))⟩

def pyD (d : D) : PyData := d.py.getD .none
def dlt (a b : D) : Bool := PySem.W.dataLt (pyD a) (pyD b)
def dle (a b : D) : Bool := !dlt b a
theorem dlt_trans {a b c : D} (h1 : dlt a b = true) (h2 : dlt b c = true) : dlt a c = true := PyProof.Rows.lex_trans _ _ _ h1 h2
theorem dlt_irrefl (a : D) : dlt a a = false := PyProof.Rows.lex_irrefl _
theorem dle_trans (a b c : D) (h1 : dle a b = true) (h2 : dle b c = true) : dle a c = true := by
  unfold dle at *
  cases h : dlt c a with
  | false => rfl
  | true =>
    rcases PyProof.Rows.lex_negTrans _ (PySem.W.keyToks (pyD b)) _ h with q | q
    · have : dlt c b = true := q
      rw [this] at h2; cases h2
    · have : dlt b a = true := q
      rw [this] at h1; cases h1
theorem dle_total (a b : D) : (dle a b || dle b a) = true := by
  unfold dle
  cases h : dlt b a with
  | false => rfl
  | true =>
    cases h2 : dlt a b with
    | false => rfl
    | true =>
      have := dlt_trans h h2
      rw [dlt_irrefl] at this; cases this
def insB {α : Type} (le : α → α → Bool) (x : α) : List α → List α
  | [] => [x]
  | y :: ys => if le x y = true then x :: y :: ys else y :: insB le x ys
def isort {α : Type} (le : α → α → Bool) : List α → List α
  | [] => []
  | x :: xs => insB le x (isort le xs)
theorem insB_app {α : Type} {le : α → α → Bool} {x : α} : ∀ {l1 l2 : List α}, (∀ b ∈ l1, (!le x b) = true) → (∀ b ∈ l2, le x b = true) → insB le x (l1 ++ l2) = l1 ++ x :: l2
  | [], [], _, _ => rfl
  | [], y :: l2, _, h => by
    show (if le x y = true then _ else _) = _
    rw [if_pos (h y List.mem_cons_self)]; rfl
  | y :: l1, l2, h, h2 => by
    have hy := h y List.mem_cons_self
    show (if le x y = true then _ else _) = _
    rw [if_neg (by cases q : le x y with | true => rw [q] at hy; cases hy | false => decide)]
    show y :: insB le x (l1 ++ l2) = _
    rw [insB_app (fun b hb => h b (List.mem_cons_of_mem _ hb)) h2]; rfl
theorem isort_merge {α : Type} {le : α → α → Bool} (tr : ∀ a b c : α, le a b = true → le b c = true → le a c = true) (tt : ∀ a b : α, (le a b || le b a) = true) : ∀ l : List α, l.mergeSort le = isort le l
  | [] => by rw [List.mergeSort_nil]; rfl
  | x :: xs => by
    obtain ⟨l1, l2, e1, e2, h1⟩ := List.mergeSort_cons (le := le) tr tt x xs
    have pw := List.pairwise_mergeSort (le := le) tr tt (x :: xs)
    rw [e1] at pw
    have h2 : ∀ b ∈ l2, le x b = true := fun b hb => (List.pairwise_cons.mp (List.pairwise_append.mp pw).2.1).1 b hb
    rw [e1]
    show _ = insB le x (isort le xs)
    rw [← isort_merge tr tt xs, e2]
    exact (insB_app (fun b hb => h1 b hb) h2).symm
def likeB (ps : List PyData) : Bool := ps.all fun p => ps.all fun q => PySem.W.alike p q
def isTup1 : PyData → Bool
  | .tuple (_ :: _) => true
  | _ => false
def noTup : PyData → Bool
  | .tuple _ => false
  | .none => false
  | _ => true
def okSort (ps : List PyData) : Bool := likeB ps && (ps.all isTup1 || ps.all noTup) && ps.all (fun p => decide (p.depth ≤ 8)) && decide (ps.length ≤ 16000000)
theorem likeB_all {ps : List PyData} (h : likeB ps = true) : PySem.W.AllAlike ps := fun d hd d' hd' => List.all_eq_true.mp (List.all_eq_true.mp h d hd) d' hd'
theorem okSort_able {ps : List PyData} (h : (ps.all isTup1 || ps.all noTup) = true) : PySem.W.Sortable ps := by
  rcases Bool.or_eq_true_iff.mp h with h | h
  · refine .inl fun d hd => ?_
    have q := List.all_eq_true.mp h d hd
    unfold isTup1 at q
    split at q
    · exact ⟨_, _, rfl⟩
    · cases q
  · refine .inr fun d hd => ?_
    have q := List.all_eq_true.mp h d hd
    constructor
    · rintro rfl; cases q
    · rintro xs rfl; cases q
def nSortedD : List D → Option (List D)
  | [.lst ds] => (D.pys ds).bind fun ps => if okSort ps = true then some (isort dle ds) else none
  | _ => none
theorem triples {L : Lay} {F : Hp} : ∀ {ds : List D} {vs : List V} {ps : List PyData}, Rps L F ds vs → D.pys ds = some ps → ∃ ts : List (D × (V × PyData)), ts.map (·.1) = ds ∧ ts.map (fun t => t.2.1) = vs ∧ ts.map (fun t => t.2.2) = ps ∧ ∀ t ∈ ts, Rp L F t.1 t.2.1 ∧ t.1.py = some t.2.2
  | [], vs, ps, r, e => by unfold Rps at r; unfold D.pys at e; cases e; subst r; exact ⟨[], rfl, rfl, rfl, fun t h => (by cases h)⟩
  | d :: ds, vs, ps, r, e => by
    unfold Rps at r
    unfold D.pys at e
    obtain ⟨p, e1, e2⟩ := Option.bind_eq_some_iff.mp e
    obtain ⟨qs, e3, rfl⟩ := Option.map_eq_some_iff.mp e2
    obtain ⟨v, vr, rfl, r1, r2⟩ := r
    obtain ⟨ts, h1, h2, h3, h4⟩ := triples r2 e3
    refine ⟨(d, v, p) :: ts, by rw [List.map_cons, h1], by rw [List.map_cons, h2], by rw [List.map_cons, h3], fun t ht => ?_⟩
    rcases List.mem_cons.mp ht with rfl | ht
    · exact ⟨r1, e1⟩
    · exact h4 t ht
theorem Rps.of_map {L : Lay} {F : Hp} {β : Type} {f : β → D} {g : β → V} : ∀ {ts : List β}, (∀ t ∈ ts, Rp L F (f t) (g t)) → Rps L F (ts.map f) (ts.map g)
  | [], _ => .nil
  | t :: ts, h => .cons (h t List.mem_cons_self) (Rps.of_map fun x hx => h x (List.mem_cons_of_mem _ hx))
theorem ff_sortedD {L : Lay} : FnF L (rSortedD L.K) nSortedD := by
  intro ds d xs H A Q e r hA q
  unfold nSortedD at e
  split at e
  · rename_i ys
    obtain ⟨ps, e1, e2⟩ := Option.bind_eq_some_iff.mp e
    split at e2
    · rename_i ok
      cases e2
      unfold okSort at ok
      rw [Bool.and_eq_true_iff, Bool.and_eq_true_iff, Bool.and_eq_true_iff] at ok
      obtain ⟨⟨⟨o1, o2⟩, o3⟩, o4⟩ := ok
      obtain ⟨v, rfl, rv⟩ := r.one
      obtain ⟨a, vs, rfl, h, rr⟩ := rv.lst
      obtain ⟨ts, t1, t2, t3, t4⟩ := triples rr e1
      have ez : (ts.map (·.2)).map (·.2) = ps := by rw [List.map_map]; exact t3
      refine ⟨a, ts.map (·.2), rfl, .inl (.inl ?_), fun z hz => ?_, by rw [ez]; exact likeB_all o1, by rw [ez]; exact okSort_able o2, ?_, fun z hz => ?_, fun p hp => ?_⟩
      · rw [List.map_map]; show H a = some (.lst (ts.map fun t => t.2.1)); rw [t2]; exact h
      · obtain ⟨t, ht, rfl⟩ := List.mem_map.mp hz
        exact Dp.up hid_le (dp_of (t4 t ht).1 (t4 t ht).2)
      · rw [List.length_map, ← List.length_map (f := fun t : D × (V × PyData) => t.2.2), t3]; exact of_decide_eq_true o4
      · have hm : z.2 ∈ ps := by rw [← ez]; exact List.mem_map.mpr ⟨z, hz, rfl⟩
        exact of_decide_eq_true (List.all_eq_true.mp o3 _ hm)
      · have k1 : (ts.map (·.2)).mergeSort zle = (ts.mergeSort fun a b => zle a.2 b.2).map (·.2) := (List.map_mergeSort (f := fun t : D × (V × PyData) => t.2) (l := ts) (r := fun a b => zle a.2 b.2) (s := zle) (fun _ _ _ _ => rfl)).symm
        have k2 : isort dle ys = (ts.mergeSort fun a b => zle a.2 b.2).map (·.1) := by
          rw [← isort_merge dle_trans dle_total, ← t1]
          refine (List.map_mergeSort (f := fun t : D × (V × PyData) => t.1) (l := ts) (r := fun a b => zle a.2 b.2) (s := dle) fun a ha b hb => ?_).symm
          show (!PySem.W.dataLt b.2.2 a.2.2) = !PySem.W.dataLt (pyD b.1) (pyD a.1)
          unfold pyD
          rw [(t4 a ha).2, (t4 b hb).2]; rfl
        rw [k1, List.map_map]
        rw [k2] at q
        refine q p _ hp (Rps.of_map fun t ht => (t4 t ?_).1)
        exact (List.mergeSort_perm ts _).mem_iff.mp ht
    · cases e2
  · cases e

theorem dpAll_of {K : PySem.W.Frag} {H : Hp} : ∀ {zs : List (V × PyData)}, (∀ y ∈ zs, Dp K H y.1 y.2) → DpAll K H (zs.map (·.1)) (zs.map (·.2))
  | [], _ => .nil
  | z :: zs, h => .cons (h z List.mem_cons_self) (dpAll_of fun y hy => h y (List.mem_cons_of_mem _ hy))
theorem fold_mem {f : PyData → PyData → Bool} : ∀ (xs : List PyData) (x : PyData), xs.foldl (fun a y => if f a y = true then y else a) x ∈ x :: xs
  | [], x => List.mem_cons_self
  | y :: ys, x => by
    rw [List.foldl_cons]
    rcases List.mem_cons.mp (fold_mem (f := f) ys (if f x y = true then y else x)) with h | h
    · rw [h]
      split
      · exact List.mem_cons_of_mem _ List.mem_cons_self
      · exact List.mem_cons_self
    · exact List.mem_cons_of_mem _ (List.mem_cons_of_mem _ h)
theorem maxD_mem (x : PyData) (xs : List PyData) : PySem.W.maxD x xs ∈ x :: xs := fold_mem (f := fun a y => PySem.W.dataLt a y) xs x
theorem minD_mem (x : PyData) (xs : List PyData) : PySem.W.minD x xs ∈ x :: xs := fold_mem (f := fun a y => PySem.W.dataLt y a) xs x
theorem _root_.PySem.Paired.get' {xs : List V} {us : List Value} (h : Vals xs us) {i : Nat} {u : Value} (e : us[i]? = some u) : ∃ x, xs[i]? = some x ∧ RelV x u := by
  induction h generalizing i with
  | nil => simp at e
  | cons r _ ih =>
    cases i with
    | zero => simp at e; subst e; exact ⟨_, rfl, r⟩
    | succ i => simp at e; obtain ⟨x, h1, h2⟩ := ih e; exact ⟨x, by simpa using h1, h2⟩

def rMaxD (K : PySem.W.Frag) : List V → Hp → VK → Prop := fun vs H Q => ∃ (a : Addr) (z : V × PyData) (zs : List (V × PyData)), vs = [V.ref a] ∧ (SqL K H a ((z :: zs).map (·.1)) ∨ SqT K H a ((z :: zs).map (·.1))) ∧ (∀ y ∈ z :: zs, Dp K H y.1 y.2) ∧
  PySem.W.AlikeAll ((z :: zs).map (·.2)) ∧ PyData.depthAll ((z :: zs).map (·.2)) ≤ 40 ∧ ∀ y ∈ z :: zs, y.2 = PySem.W.maxD z.2 (zs.map (·.2)) → Q y.1 H
theorem cr_maxD (hc : X.calm = true) (hu : X.A.units + 64 < cLine) : CallR X (.builtin "max") (rMaxD X.K) := by
  intro pins s σ H vs us Q I r h
  obtain ⟨a, z, zs, rfl, hs, hd, hal, hdep, q⟩ := h
  rw [Vals.ref1 r]
  have fin : ∀ (its : List Value), Vals ((z :: zs).map (·.1)) its → ∀ (i : Nat) v h' tk bs, its.toArray[i]? = some v → Reads h' v (PySem.W.maxD z.2 (zs.map (·.2))) bs → (∀ b o, s.heap.get? b = some o → h'.get? b = some o) →
      ∃ (x : V) (H' : Hp), Inv X pins σ H' { s with heap := h', toks := tk } ∧ RelV x v ∧ Q x H' := fun its rv i v h' tk bs hv hr hk => by
    have hv' : its[i]? = some v := by simpa using hv
    obtain ⟨x, hx, rx⟩ := rv.get' hv'
    rw [List.getElem?_map] at hx
    obtain ⟨y, hy, rfl⟩ := Option.map_eq_some_iff.mp hx
    have ym : y ∈ z :: zs := List.mem_of_getElem? hy
    obtain ⟨as, ry⟩ := Dp.reads I _ _ _ (hd y ym) rx
    have ry' : Reads h' v y.2 as := PySem.W.reads_keeps hk ry
    have al : PySem.W.alike y.2 (PySem.W.maxD z.2 (zs.map (·.2))) = true := hal.1 _ (List.mem_map.mpr ⟨y, ym, rfl⟩) _ (maxD_mem _ _)
    have e := PySem.W.alike_unique _ _ _ _ _ al ry' hr
    exact ⟨y.1, H, I.kept hk, rx, q y ym e⟩
  rcases hs with hs | hs
  · obtain ⟨its, rv, hl, _⟩ := I.list hs
    obtain ⟨as, hr⟩ := Dp.readsAll I _ _ _ (dpAll_of hd) rv
    exact PySem.W.max_list_data (I.ok.hd hc) hl.isList (by simpa using hr) hal (Nat.lt_of_le_of_lt (Nat.add_le_add_left hdep (X.A.units + 1)) (by omega)) (fin its rv)
  · obtain ⟨its, rv, hl, _⟩ := I.tuple hs
    obtain ⟨as, hr⟩ := Dp.readsAll I _ _ _ (dpAll_of hd) rv
    exact PySem.W.max_tuple_data (I.ok.hd hc) hl (by simpa using hr) hal (Nat.lt_of_le_of_lt (Nat.add_le_add_left hdep (X.A.units + 1)) (by omega)) (fin its rv)

def rMinD (K : PySem.W.Frag) : List V → Hp → VK → Prop := fun vs H Q => ∃ (a : Addr) (z : V × PyData) (zs : List (V × PyData)), vs = [V.ref a] ∧ (SqL K H a ((z :: zs).map (·.1)) ∨ SqT K H a ((z :: zs).map (·.1))) ∧ (∀ y ∈ z :: zs, Dp K H y.1 y.2) ∧
  PySem.W.AlikeAll ((z :: zs).map (·.2)) ∧ PyData.depthAll ((z :: zs).map (·.2)) ≤ 40 ∧ ∀ y ∈ z :: zs, y.2 = PySem.W.minD z.2 (zs.map (·.2)) → Q y.1 H
theorem cr_minD (hc : X.calm = true) (hu : X.A.units + 64 < cLine) : CallR X (.builtin "min") (rMinD X.K) := by
  intro pins s σ H vs us Q I r h
  obtain ⟨a, z, zs, rfl, hs, hd, hal, hdep, q⟩ := h
  rw [Vals.ref1 r]
  have fin : ∀ (its : List Value), Vals ((z :: zs).map (·.1)) its → ∀ (i : Nat) v h' tk bs, its.toArray[i]? = some v → Reads h' v (PySem.W.minD z.2 (zs.map (·.2))) bs → (∀ b o, s.heap.get? b = some o → h'.get? b = some o) →
      ∃ (x : V) (H' : Hp), Inv X pins σ H' { s with heap := h', toks := tk } ∧ RelV x v ∧ Q x H' := fun its rv i v h' tk bs hv hr hk => by
    have hv' : its[i]? = some v := by simpa using hv
    obtain ⟨x, hx, rx⟩ := rv.get' hv'
    rw [List.getElem?_map] at hx
    obtain ⟨y, hy, rfl⟩ := Option.map_eq_some_iff.mp hx
    have ym : y ∈ z :: zs := List.mem_of_getElem? hy
    obtain ⟨as, ry⟩ := Dp.reads I _ _ _ (hd y ym) rx
    have ry' : Reads h' v y.2 as := PySem.W.reads_keeps hk ry
    have al : PySem.W.alike y.2 (PySem.W.minD z.2 (zs.map (·.2))) = true := hal.1 _ (List.mem_map.mpr ⟨y, ym, rfl⟩) _ (minD_mem _ _)
    have e := PySem.W.alike_unique _ _ _ _ _ al ry' hr
    exact ⟨y.1, H, I.kept hk, rx, q y ym e⟩
  rcases hs with hs | hs
  · obtain ⟨its, rv, hl, _⟩ := I.list hs
    obtain ⟨as, hr⟩ := Dp.readsAll I _ _ _ (dpAll_of hd) rv
    exact PySem.W.min_list_data (I.ok.hd hc) hl.isList (by simpa using hr) hal (Nat.lt_of_le_of_lt (Nat.add_le_add_left hdep (X.A.units + 1)) (by omega)) (fin its rv)
  · obtain ⟨its, rv, hl, _⟩ := I.tuple hs
    obtain ⟨as, hr⟩ := Dp.readsAll I _ _ _ (dpAll_of hd) rv
    exact PySem.W.min_tuple_data (I.ok.hd hc) hl (by simpa using hr) hal (Nat.lt_of_le_of_lt (Nat.add_le_add_left hdep (X.A.units + 1)) (by omega)) (fin its rv)

mutual
def ofPy : PyData → D
  | .none => .non
  | .bool b => .bl b
  | .int i => .int i
  | .str x => .str x
  | .tuple xs => .tup (ofPys xs)
  | .list xs => .lst (ofPys xs)
  | .dict _ => .non
def ofPys : List PyData → List D
  | [] => []
  | x :: xs => ofPy x :: ofPys xs
end
mutual
theorem ofPy_py : ∀ {d : D} {p : PyData}, d.py = some p → ofPy p = d
  | .non, _, e => by unfold D.py at e; cases e; rfl
  | .bl _, _, e => by unfold D.py at e; cases e; rfl
  | .int _, _, e => by unfold D.py at e; cases e; rfl
  | .str _, _, e => by unfold D.py at e; cases e; rfl
  | .tup ds, _, e => by
    unfold D.py at e
    obtain ⟨ps, e1, rfl⟩ := Option.map_eq_some_iff.mp e
    show D.tup (ofPys ps) = _
    rw [ofPys_py e1]
  | .lst ds, _, e => by
    unfold D.py at e
    obtain ⟨ps, e1, rfl⟩ := Option.map_eq_some_iff.mp e
    show D.lst (ofPys ps) = _
    rw [ofPys_py e1]
  | .dct _ _, _, e => by unfold D.py at e; cases e
  | .set _, _, e => by unfold D.py at e; cases e
  | .obj _ _, _, e => by unfold D.py at e; cases e
  | .scr _, _, e => by unfold D.py at e; cases e
  | .exc _ _ _, _, e => by unfold D.py at e; cases e
  | .ins _ _ _, _, e => by unfold D.py at e; cases e
  | .dki _ _, _, e => by unfold D.py at e; cases e
  | .ptup _, _, e => by unfold D.py at e; cases e
theorem ofPys_py : ∀ {ds : List D} {ps : List PyData}, D.pys ds = some ps → ofPys ps = ds
  | [], _, e => by unfold D.pys at e; cases e; rfl
  | d :: ds, _, e => by
    unfold D.pys at e
    obtain ⟨p, e1, e2⟩ := Option.bind_eq_some_iff.mp e
    obtain ⟨qs, e3, rfl⟩ := Option.map_eq_some_iff.mp e2
    show ofPy p :: ofPys qs = _
    rw [ofPy_py e1, ofPys_py e3]
end
def okMax (ps : List PyData) : Bool := likeB ps && ps.all (fun p => match p with | .none => false | _ => true) && decide (PyData.depthAll ps ≤ 40)
def maxDD (ds : List D) : Option D := match D.pys ds with
  | some (p :: ps) => if okMax (p :: ps) = true then some (ofPy (PySem.W.maxD p ps)) else none
  | _ => none
def minDD (ds : List D) : Option D := match D.pys ds with
  | some (p :: ps) => if okMax (p :: ps) = true then some (ofPy (PySem.W.minD p ps)) else none
  | _ => none

def dMaxD : List D → Option D
  | [.lst ds] => maxDD ds
  | [.tup ds] => maxDD ds
  | _ => none
theorem fs_maxD {L : Lay} : FnS L (rMaxD L.K) dMaxD := by
  intro ds d xs H A Q e r hA q
  have main : ∀ {F : Hp} {ys : List D} {vs : List V}, Rps L F ys vs → Same F H → Same F (hid H A) → maxDD ys = some d → ∃ (z : V × PyData) (zs : List (V × PyData)), vs = (z :: zs).map (·.1) ∧ (∀ y ∈ z :: zs, Dp L.K H y.1 y.2) ∧
      PySem.W.AlikeAll ((z :: zs).map (·.2)) ∧ PyData.depthAll ((z :: zs).map (·.2)) ≤ 40 ∧ ∀ y ∈ z :: zs, y.2 = PySem.W.maxD z.2 (zs.map (·.2)) → Q y.1 H := fun {F ys vs} rr sF sA e => by
    unfold maxDD at e
    cases hp : D.pys ys with
    | none => rw [hp] at e; cases e
    | some ps =>
      rw [hp] at e
      cases ps with
      | nil => cases e
      | cons p ps =>
        replace e : (if okMax (p :: ps) = true then some (ofPy (PySem.W.maxD p ps)) else none) = some d := e
        split at e
        · rename_i ok
          cases e
          unfold okMax at ok
          rw [Bool.and_eq_true_iff, Bool.and_eq_true_iff] at ok
          obtain ⟨⟨o1, o2⟩, o3⟩ := ok
          obtain ⟨ts, t1, t2, t3, t4⟩ := triples rr hp
          cases ts with
          | nil => cases t3
          | cons t ts =>
            have e3 : t.2.2 = p ∧ ts.map (fun t => t.2.2) = ps := by
              injection t3 with a b
              exact ⟨a, b⟩
            have ez : ((t.2 :: ts.map (·.2)).map (·.2)) = p :: ps := by rw [List.map_cons, List.map_map]; rw [← e3.1, ← e3.2]; rfl
            refine ⟨t.2, ts.map (·.2), by rw [List.map_cons, List.map_map]; exact t2.symm, fun y hy => ?_, by rw [ez]; exact ⟨likeB_all o1, fun x hx z => by have := List.all_eq_true.mp o2 x hx; rw [z] at this; cases this⟩, by rw [ez]; exact of_decide_eq_true o3, fun y hy ey => ?_⟩
            · obtain ⟨u, hu, rfl⟩ : ∃ u ∈ t :: ts, u.2 = y := by
                rcases List.mem_cons.mp hy with rfl | hy
                · exact ⟨t, List.mem_cons_self, rfl⟩
                · obtain ⟨u, hu, rfl⟩ := List.mem_map.mp hy
                  exact ⟨u, List.mem_cons_of_mem _ hu, rfl⟩
              exact Dp.up sF (dp_of (t4 u hu).1 (t4 u hu).2)
            · obtain ⟨u, hu, rfl⟩ : ∃ u ∈ t :: ts, u.2 = y := by
                rcases List.mem_cons.mp hy with rfl | hy
                · exact ⟨t, List.mem_cons_self, rfl⟩
                · obtain ⟨u, hu, rfl⟩ := List.mem_map.mp hy
                  exact ⟨u, List.mem_cons_of_mem _ hu, rfl⟩
              have eu : (ts.map (·.2)).map (·.2) = ps := by rw [List.map_map]; exact e3.2
              rw [eu, e3.1] at ey
              refine q _ H (.refl _) ?_
              rw [← ey, ofPy_py (t4 u hu).2]
              exact Rp.same sA (t4 u hu).1
        · cases e
  unfold dMaxD at e
  split at e
  · obtain ⟨v, rfl, rv⟩ := r.one
    obtain ⟨a, vs, rfl, h, rr⟩ := rv.lst
    obtain ⟨z, zs, rfl, h1, h2, h3, h4⟩ := main rr hid_le (.refl _) e
    exact ⟨a, z, zs, rfl, .inl (.inl (.inl h)), h1, h2, h3, h4⟩
  · obtain ⟨v, rfl, rv⟩ := r.one
    obtain ⟨a, vs, rfl, h, rr⟩ := rv.tup
    obtain ⟨z, zs, rfl, h1, h2, h3, h4⟩ := main rr hid_le (.refl _) e
    exact ⟨a, z, zs, rfl, .inr (SqT.same hid_le h), h1, h2, h3, h4⟩
  · cases e

def dMinD : List D → Option D
  | [.lst ds] => minDD ds
  | [.tup ds] => minDD ds
  | _ => none
theorem fs_minD {L : Lay} : FnS L (rMinD L.K) dMinD := by
  intro ds d xs H A Q e r hA q
  have main : ∀ {F : Hp} {ys : List D} {vs : List V}, Rps L F ys vs → Same F H → Same F (hid H A) → minDD ys = some d → ∃ (z : V × PyData) (zs : List (V × PyData)), vs = (z :: zs).map (·.1) ∧ (∀ y ∈ z :: zs, Dp L.K H y.1 y.2) ∧
      PySem.W.AlikeAll ((z :: zs).map (·.2)) ∧ PyData.depthAll ((z :: zs).map (·.2)) ≤ 40 ∧ ∀ y ∈ z :: zs, y.2 = PySem.W.minD z.2 (zs.map (·.2)) → Q y.1 H := fun {F ys vs} rr sF sA e => by
    unfold minDD at e
    cases hp : D.pys ys with
    | none => rw [hp] at e; cases e
    | some ps =>
      rw [hp] at e
      cases ps with
      | nil => cases e
      | cons p ps =>
        replace e : (if okMax (p :: ps) = true then some (ofPy (PySem.W.minD p ps)) else none) = some d := e
        split at e
        · rename_i ok
          cases e
          unfold okMax at ok
          rw [Bool.and_eq_true_iff, Bool.and_eq_true_iff] at ok
          obtain ⟨⟨o1, o2⟩, o3⟩ := ok
          obtain ⟨ts, t1, t2, t3, t4⟩ := triples rr hp
          cases ts with
          | nil => cases t3
          | cons t ts =>
            have e3 : t.2.2 = p ∧ ts.map (fun t => t.2.2) = ps := by
              injection t3 with a b
              exact ⟨a, b⟩
            have ez : ((t.2 :: ts.map (·.2)).map (·.2)) = p :: ps := by rw [List.map_cons, List.map_map]; rw [← e3.1, ← e3.2]; rfl
            refine ⟨t.2, ts.map (·.2), by rw [List.map_cons, List.map_map]; exact t2.symm, fun y hy => ?_, by rw [ez]; exact ⟨likeB_all o1, fun x hx z => by have := List.all_eq_true.mp o2 x hx; rw [z] at this; cases this⟩, by rw [ez]; exact of_decide_eq_true o3, fun y hy ey => ?_⟩
            · obtain ⟨u, hu, rfl⟩ : ∃ u ∈ t :: ts, u.2 = y := by
                rcases List.mem_cons.mp hy with rfl | hy
                · exact ⟨t, List.mem_cons_self, rfl⟩
                · obtain ⟨u, hu, rfl⟩ := List.mem_map.mp hy
                  exact ⟨u, List.mem_cons_of_mem _ hu, rfl⟩
              exact Dp.up sF (dp_of (t4 u hu).1 (t4 u hu).2)
            · obtain ⟨u, hu, rfl⟩ : ∃ u ∈ t :: ts, u.2 = y := by
                rcases List.mem_cons.mp hy with rfl | hy
                · exact ⟨t, List.mem_cons_self, rfl⟩
                · obtain ⟨u, hu, rfl⟩ := List.mem_map.mp hy
                  exact ⟨u, List.mem_cons_of_mem _ hu, rfl⟩
              have eu : (ts.map (·.2)).map (·.2) = ps := by rw [List.map_map]; exact e3.2
              rw [eu, e3.1] at ey
              refine q _ H (.refl _) ?_
              rw [← ey, ofPy_py (t4 u hu).2]
              exact Rp.same sA (t4 u hu).1
        · cases e
  unfold dMinD at e
  split at e
  · obtain ⟨v, rfl, rv⟩ := r.one
    obtain ⟨a, vs, rfl, h, rr⟩ := rv.lst
    obtain ⟨z, zs, rfl, h1, h2, h3, h4⟩ := main rr hid_le (.refl _) e
    exact ⟨a, z, zs, rfl, .inl (.inl (.inl h)), h1, h2, h3, h4⟩
  · obtain ⟨v, rfl, rv⟩ := r.one
    obtain ⟨a, vs, rfl, h, rr⟩ := rv.tup
    obtain ⟨z, zs, rfl, h1, h2, h3, h4⟩ := main rr hid_le (.refl _) e
    exact ⟨a, z, zs, rfl, .inr (SqT.same hid_le h), h1, h2, h3, h4⟩
  · cases e

abbrev tInts (k : List Int) : D := .tup (k.map .int)
def tupsD : List D → Option (List (List Int))
  | [] => some []
  | .tup xs :: ds => (intsD xs).bind fun k => (tupsD ds).map (k :: ·)
  | _ :: _ => none
theorem tupsD_map : ∀ ks : List (List Int), tupsD (ks.map tInts) = some ks
  | [] => rfl
  | k :: ks => by
    show (intsD (k.map .int)).bind (fun k => (tupsD (ks.map tInts)).map (k :: ·)) = _
    rw [intsD_map, tupsD_map ks]; rfl
theorem tups_vals {L : Lay} {F : Hp} : ∀ {ds : List D} {ks : List (List Int)} {vs : List V}, tupsD ds = some ks → Rps L F ds vs → ∃ ps : List (Addr × List Int), vs = ps.map (fun p => V.ref p.1) ∧ ps.map (·.2) = ks ∧ ∀ p ∈ ps, SqT L.K F p.1 (p.2.map V.int)
  | [], ks, vs, e, r => by cases e; unfold Rps at r; subst r; exact ⟨[], rfl, rfl, fun p h => (by cases h)⟩
  | .tup xs :: ds, ks, vs, e, r => by
    obtain ⟨k, e1, e2⟩ := Option.bind_eq_some_iff.mp (show (intsD xs).bind _ = some ks from e)
    obtain ⟨ks', e3, rfl⟩ := Option.map_eq_some_iff.mp e2
    unfold Rps at r
    obtain ⟨v, r', rfl, h, t⟩ := r
    obtain ⟨ps, rfl, h2, h3⟩ := tups_vals e3 t
    obtain ⟨a, ws, rfl, hs, hw⟩ := Rp.tup_iff.mp h
    rw [intsD_vals e1 hw] at hs
    refine ⟨(a, k) :: ps, rfl, by rw [List.map_cons, h2], fun p hp => ?_⟩
    rcases List.mem_cons.mp hp with rfl | hp
    · exact hs
    · exact h3 p hp
  | .non :: _, _, _, e, _ => by cases e
  | .bl _ :: _, _, _, e, _ => by cases e
  | .int _ :: _, _, _, e, _ => by cases e
  | .str _ :: _, _, _, e, _ => by cases e
  | .lst _ :: _, _, _, e, _ => by cases e
  | .dct _ _ :: _, _, _, e, _ => by cases e
  | .set _ :: _, _, _, e, _ => by cases e
  | .obj _ _ :: _, _, _, e, _ => by cases e
  | .scr _ :: _, _, _, e, _ => by cases e
  | .exc _ _ _ :: _, _, _, e, _ => by cases e
  | .ins _ _ _ :: _, _, _, e, _ => by cases e
  | .dki _ _ :: _, _, _, e, _ => by cases e
  | .ptup _ :: _, _, _, e, _ => by cases e
def insT (k : List Int) : List (List Int) → List (List Int)
  | [] => [k]
  | x :: xs => if k < x then k :: x :: xs else if k = x then x :: xs else x :: insT k xs
def sortTU : List (List Int) → List (List Int)
  | [] => []
  | x :: xs => insT x (sortTU xs)
theorem insT_mem {k j : List Int} : ∀ {xs : List (List Int)}, j ∈ insT k xs ↔ j = k ∨ j ∈ xs
  | [] => by simp [insT]
  | x :: xs => by
    unfold insT
    split
    · simp
    · split
      · rename_i e; subst e; simp
      · rw [List.mem_cons, insT_mem, List.mem_cons]
        constructor
        · rintro (h | h | h)
          · exact .inr (.inl h)
          · exact .inl h
          · exact .inr (.inr h)
        · rintro (h | h | h)
          · exact .inr (.inl h)
          · exact .inl h
          · exact .inr (.inr h)
theorem insT_pw {k : List Int} : ∀ {xs : List (List Int)}, xs.Pairwise (· < ·) → (insT k xs).Pairwise (· < ·)
  | [], _ => by simp [insT]
  | x :: xs, h => by
    obtain ⟨h1, h2⟩ := List.pairwise_cons.mp h
    unfold insT
    split
    · rename_i q
      refine List.pairwise_cons.mpr ⟨fun y hy => ?_, h⟩
      rcases List.mem_cons.mp hy with rfl | hy
      · exact q
      · exact List.lt_trans q (h1 y hy)
    · split
      · exact h
      · rename_i q1 q2
        refine List.pairwise_cons.mpr ⟨fun y hy => ?_, insT_pw h2⟩
        rcases insT_mem.mp hy with rfl | hy
        · rcases List.le_iff_lt_or_eq.mp (List.not_lt.mp q1) with q | q
          · exact q
          · exact absurd q.symm q2
        · exact h1 y hy
theorem sortTU_mem {j : List Int} : ∀ {xs : List (List Int)}, j ∈ sortTU xs ↔ j ∈ xs
  | [] => by simp [sortTU]
  | x :: xs => by rw [sortTU, insT_mem, sortTU_mem (xs := xs), List.mem_cons]
theorem sortTU_pw : ∀ xs : List (List Int), (sortTU xs).Pairwise (· < ·)
  | [] => .nil
  | x :: xs => insT_pw (sortTU_pw xs)
theorem risingT_eq : ∀ {xs ys : List (List Int)}, xs.Pairwise (· < ·) → ys.Pairwise (· < ·) → (∀ k, k ∈ xs ↔ k ∈ ys) → xs = ys
  | [], [], _, _, _ => rfl
  | [], y :: ys, _, _, h => by have := (h y).mpr List.mem_cons_self; simp at this
  | x :: xs, [], _, _, h => by have := (h x).mp List.mem_cons_self; simp at this
  | x :: xs, y :: ys, hx, hy, h => by
    obtain ⟨x1, x2⟩ := List.pairwise_cons.mp hx
    obtain ⟨y1, y2⟩ := List.pairwise_cons.mp hy
    have e : x = y := by
      rcases List.mem_cons.mp ((h x).mp List.mem_cons_self) with e | e
      · exact e
      · rcases List.mem_cons.mp ((h y).mpr List.mem_cons_self) with e2 | e2
        · exact e2.symm
        · exact absurd (List.lt_trans (y1 x e) (x1 y e2)) (List.lt_irrefl _)
    subst e
    have t : xs = ys := risingT_eq x2 y2 fun k => by
      constructor
      · intro hk
        rcases List.mem_cons.mp ((h k).mp (List.mem_cons_of_mem _ hk)) with e | e
        · subst e; exact absurd (x1 k hk) (List.lt_irrefl _)
        · exact e
      · intro hk
        rcases List.mem_cons.mp ((h k).mpr (List.mem_cons_of_mem _ hk)) with e | e
        · subst e; exact absurd (y1 k hk) (List.lt_irrefl _)
        · exact e
    rw [t]
theorem code_le_lt {B : Int} : ∀ {a b : List Int}, a.length = b.length → TS.Bd B a → TS.Bd B b → TS.code B a ≤ TS.code B b → a ≠ b → a < b
  | [], [], _, _, _, _, h => absurd rfl h
  | d :: r, e :: q, hl, ha, hb, hc, hne => by
    have hl' : r.length = q.length := by simpa using hl
    rcases Int.lt_trichotomy d e with h | h | h
    · exact List.Lex.rel h
    · subst h
      refine List.Lex.cons (code_le_lt hl' ha.tail hb.tail ?_ fun z => hne (by rw [z]))
      apply Classical.byContradiction
      intro z
      have z' := (TS.code_same (B := B) (d := d) hl'.symm).mpr (Int.not_le.mp z)
      omega
    · have := TS.code_lt (B := B) hl'.symm hb.tail ha.tail h
      omega
  | [], _ :: _, hl, _, _, _, _ => by cases hl
  | _ :: _, [], hl, _, _, _, _ => by cases hl
def rSet2 (K : PySem.W.Frag) (P : Program) (w : World) : List V → Hp → VK → Prop := fun xs H Q => rSetOfI K w xs H Q ∨ rSetOfT K P w xs H Q
theorem cr_set2 (hc : X.calm = true) (hu : X.A.units + 64 < cLine) : CallR X (.type "set") (rSet2 X.K X.prog X.w) := by
  intro pins s σ H xs us Q I r h
  rcases h with h | h
  · exact cr_setOfI hc pins s σ H xs us Q I r h
  · exact cr_setOfT hc hu pins s σ H xs us Q I r h
def dSet2 : List D → Option D
  | [.lst xs] => match intsD xs with
    | some ns => if ns.length < 2000 then some (.set ((sortU ns).map .int)) else none
    | none => (tupsD xs).bind fun ks => if ks.length < 64 then some (.set ((sortTU ks).map tInts)) else none
  | _ => none
theorem fs_set2 {L : Lay} : FnS L (rSet2 L.K L.pr L.w) dSet2 := by
  intro ds d xs H A Q e r hA q
  unfold dSet2 at e
  split at e
  · rename_i ys
    split at e
    · rename_i ns hn
      refine .inl (fs_set (L := L) [.lst ys] d xs H A Q ?_ r hA q)
      show (intsD ys).bind _ = _
      rw [hn]; exact e
    · obtain ⟨ks, e1, e2⟩ := Option.bind_eq_some_iff.mp e
      split at e2
      · rename_i hz
        cases e2
        obtain ⟨v, rfl, rv⟩ := r.one
        obtain ⟨a, vs, rfl, h, rr⟩ := rv.lst
        obtain ⟨ps, rfl, e3, h3⟩ := tups_vals e1 rr
        refine .inr ⟨a, ps, rfl, .inl (.inl h), fun p hp => SqT.same hid_le (h3 p hp), by rw [← e3, List.length_map] at hz; exact hz, fun b L' hb l1 l2 => q _ _ (.of (same_upd hb)) ?_⟩
        have sub : Same (hid H A) (hid (upd H b (SetTO L.pr L.w b L')) A) := hid_mono (same_upd hb) fun _ z => z
        refine Rp.set_iff.mpr (.inr ⟨b, sortTU ks, L', rfl, rfl, sortTU_pw ks, new_hid hA hb, fun p hp => SqT.same sub (h3 p (l1 p hp)), fun k => ?_⟩)
        rw [sortTU_mem, ← e3]
        constructor
        · intro hk
          obtain ⟨p, hp, rfl⟩ := List.mem_map.mp hk
          exact l2 p hp
        · intro hk
          obtain ⟨p, hp, rfl⟩ := List.mem_map.mp hk
          exact List.mem_map.mpr ⟨p, l1 p hp, rfl⟩
      · cases e2
  · cases e
def rSorted3 (K : PySem.W.Frag) (P : Program) (w : World) : List V → Hp → VK → Prop := fun xs H Q => rSortedI K xs H Q ∨ rSortedSet w xs H Q ∨ rSortedT K P w xs H Q ∨ rSortedD K xs H Q
theorem cr_sorted3 (hc : X.calm = true) (hu : X.A.units + 64 < cLine) : CallR X (.builtin "sorted") (rSorted3 X.K X.prog X.w) := by
  intro pins s σ H xs us Q I r h
  rcases h with h | h | h | h
  · exact cr_sortedI pins s σ H xs us Q I r h
  · exact cr_sortedSet hc pins s σ H xs us Q I r h
  · exact cr_sortedT hc pins s σ H xs us Q I r h
  · exact cr_sortedD hu pins s σ H xs us Q I r h
def okSet (ds : List D) : Bool := match tupsD ds with
  | some (k :: ks) => decide (1 ≤ k.length) && (k :: ks).all fun j => decide (j.length = k.length) && j.all fun m => decide (0 ≤ m)
  | _ => true
def nSorted3 : List D → Option (List D)
  | [.lst xs] => match intsD xs with
    | some ns => some ((PySem.W.sortI ns).map .int)
    | none => nSortedD [.lst xs]
  | [.set xs] => if xs.length < 64 ∧ okSet xs = true then some xs else none
  | _ => none
theorem bound_ex : ∀ ks : List (List Int), (∀ k ∈ ks, ∀ m ∈ k, 0 ≤ m) → ∃ B : Int, ∀ k ∈ ks, TS.Bd B k
  | [], _ => ⟨0, fun k h => (by cases h)⟩
  | k :: ks, h => by
    obtain ⟨B, hB⟩ := bound_ex ks fun j hj => h j (List.mem_cons_of_mem _ hj)
    have one : ∀ l : List Int, ∃ C : Int, ∀ m ∈ l, m < C := fun l => by
      induction l with
      | nil => exact ⟨0, fun m h => (by cases h)⟩
      | cons x xs ih =>
        obtain ⟨C, hC⟩ := ih
        refine ⟨if x < C then C else x + 1, fun m hm => ?_⟩
        rcases List.mem_cons.mp hm with rfl | hm
        · split <;> omega
        · have := hC m hm
          split <;> omega
    obtain ⟨C, hC⟩ := one k
    refine ⟨if B < C then C else B, fun j hj m hm => ⟨h j hj m hm, ?_⟩⟩
    rcases List.mem_cons.mp hj with rfl | hj
    · have := hC m hm
      split <;> omega
    · have := (hB j hj m hm).2
      split <;> omega
theorem ff_sorted3 {L : Lay} : FnF L (rSorted3 L.K L.pr L.w) nSorted3 := by
  intro ds d xs H A Q e r hA q
  unfold nSorted3 at e
  split at e
  · rename_i ys
    split at e
    · rename_i ns e1
      cases e
      obtain ⟨v, rfl, rv⟩ := r.one
      obtain ⟨a, vs, rfl, h, rr⟩ := rv.lst
      rw [intsD_vals e1 rr] at h
      refine .inl ⟨a, ns, rfl, .inl (.inl h), fun ns' p hp hs hn => ?_⟩
      rw [PySem.W.eq_sortI hp hs]
      exact q _ _ hn (Rp.ofInts _)
    · exact .inr (.inr (.inr (ff_sortedD (L := L) _ _ _ _ _ _ e r hA q)))
  · rename_i ys
    split at e
    · rename_i hz
      cases e
      obtain ⟨hz, ok⟩ := hz
      obtain ⟨v, rfl, rv⟩ := r.one
      rcases Rp.set_iff.mp (show Rp L (hid H A) _ v from rv) with ⟨a, ns, rfl, rfl, pw, h⟩ | ⟨a, ks, L', rfl, rfl, pw, h, h2, h3⟩
      · rw [List.length_map] at hz
        refine .inr (.inl ⟨a, _, _, rfl, hid_le _ _ h, hz, fun ns' p pw' hm _ hn => ?_⟩)
        have e2 : ns' = ns := rising_eq pw' pw fun k => by rw [hm k]; exact decide_eq_true_iff
        subst e2
        exact q _ _ hn (Rp.ofInts _)
      · obtain ⟨n, B, hn1, hnB⟩ : ∃ (n : Nat) (B : Int), 1 ≤ n ∧ ∀ k ∈ ks, k.length = n ∧ TS.Bd B k := by
          unfold okSet at ok
          rw [tupsD_map] at ok
          cases ks with
          | nil => exact ⟨1, 0, Nat.le_refl _, fun k h => (by cases h)⟩
          | cons k ks =>
            replace ok : (decide (1 ≤ k.length) && (k :: ks).all fun j => decide (j.length = k.length) && j.all fun m => decide (0 ≤ m)) = true := ok
            rw [Bool.and_eq_true_iff] at ok
            have all := List.all_eq_true.mp ok.2
            obtain ⟨B, hB⟩ := bound_ex (k :: ks) fun j hj m hm => by
              have q := all j hj
              rw [Bool.and_eq_true_iff] at q
              exact of_decide_eq_true (List.all_eq_true.mp q.2 m hm)
            refine ⟨k.length, B, of_decide_eq_true ok.1, fun j hj => ⟨?_, hB j hj⟩⟩
            have q := all j hj
            rw [Bool.and_eq_true_iff] at q
            exact of_decide_eq_true q.1
        have mem : ∀ p ∈ L', p.2 ∈ ks := fun p hp => (h3 p.2).mpr (List.mem_map.mpr ⟨p, hp, rfl⟩)
        refine .inr (.inr (.inl ⟨a, L', n, B, rfl, hid_le _ _ h, fun p hp => SqT.same hid_le (h2 p hp), hn1, fun p hp => hnB _ (mem p hp), fun M p pm nd _ pw' hn => ?_⟩))
        have memM : ∀ p ∈ M, p ∈ L' := fun p hp => pm.mem_iff.mp hp
        have e2 : M.map (·.2) = ks := by
          refine risingT_eq ?_ pw fun k => ?_
          · have nd' := List.pairwise_map.mp nd
            rw [List.pairwise_map]
            refine (List.pairwise_and_iff.mpr ⟨pw', nd'⟩).imp_of_mem fun {x y} hx hy hxy => ?_
            obtain ⟨b1, b2⟩ := hnB _ (mem x (memM x hx))
            obtain ⟨c1, c2⟩ := hnB _ (mem y (memM y hy))
            exact code_le_lt (b1.trans c1.symm) b2 c2 hxy.1 hxy.2
          · rw [h3 k]
            exact (pm.map (·.2)).mem_iff
        have e3 : ks.map (fun k => D.tup (k.map D.int)) = M.map fun p => tInts p.2 := by rw [← e2, List.map_map]; rfl
        have e4 : (M.map fun q => V.ref q.1) = M.map fun q => V.ref q.1 := rfl
        rw [e3] at q
        exact q _ _ hn (Rps.of_map fun p hp => Rp.tup_iff.mpr ⟨p.1, p.2.map V.int, rfl, h2 p (memM p hp), Rp.ofInts _⟩)
    · cases e
  · cases e
def rMax1 (K : PySem.W.Frag) : List V → Hp → VK → Prop := fun xs H Q => rMax K xs H Q ∨ rMaxD K xs H Q
theorem cr_max1 (hc : X.calm = true) (hu : X.A.units + 64 < cLine) : CallR X (.builtin "max") (rMax1 X.K) := by
  intro pins s σ H xs us Q I r h
  rcases h with h | h
  · exact cr_max hc pins s σ H xs us Q I r h
  · exact cr_maxD hc hu pins s σ H xs us Q I r h
def rMin1 (K : PySem.W.Frag) : List V → Hp → VK → Prop := fun xs H Q => rMin K xs H Q ∨ rMinD K xs H Q
theorem cr_min1 (hc : X.calm = true) (hu : X.A.units + 64 < cLine) : CallR X (.builtin "min") (rMin1 X.K) := by
  intro pins s σ H xs us Q I r h
  rcases h with h | h
  · exact cr_min hc pins s σ H xs us Q I r h
  · exact cr_minD hc hu pins s σ H xs us Q I r h
def dMax1 (ds : List D) : Option D := match dMaxL ds with
  | some d => some d
  | none => dMaxD ds
def dMin1 (ds : List D) : Option D := match dMinL ds with
  | some d => some d
  | none => dMinD ds
theorem fs_max1 {L : Lay} : FnS L (rMax1 L.K) dMax1 := by
  intro ds d xs H A Q e r hA q
  unfold dMax1 at e
  split at e
  · rename_i e1
    cases e
    exact .inl (fs_maxL _ _ _ _ _ _ e1 r hA q)
  · exact .inr (fs_maxD _ _ _ _ _ _ e r hA q)
theorem fs_min1 {L : Lay} : FnS L (rMin1 L.K) dMin1 := by
  intro ds d xs H A Q e r hA q
  unfold dMin1 at e
  split at e
  · rename_i e1
    cases e
    exact .inl (fs_minL _ _ _ _ _ _ e1 r hA q)
  · exact .inr (fs_minD _ _ _ _ _ _ e r hA q)
end
end Sm
set_option Elab.async false
set_option linter.all false
set_option maxRecDepth 100000
set_option maxHeartbeats 1000000
namespace Sm
open PySem PySem.Spec PyProof.Rows L2
open AutoSeq1 (wpAny_loadPart')
theorem meets_enumT (l : Addr) (xs : Array Value) (n : Nat) (dd : Option Addr) (sl : Array (Option Value)) :
    Meets (Builtin.«enumerate.__new__» ⟨[.type "enumerate", .ref l], []⟩) (fun _ R s => s.heap.get? l = some { cls := .type "tuple", dict := dd, data := .seq xs n, slots := sl } ∧ R (.ok (.ret (.ref (s.heap.push { cls := .type "tuple_iterator", data := .fields #[.ref l, .int 0 0] }).objs.size)))
      { s with heap := (s.heap.push { cls := .type "tuple_iterator", data := .fields #[.ref l, .int 0 0] }).push { cls := .type "enumerate", data := .fields #[.none, .bool false, .ref s.heap.objs.size, rawInt 0, .none, .none] } }) :=
  .of_wp fun prog w A R s h => by
    obtain ⟨hp, g, d, tk, os⟩ := s
    obtain ⟨e1, e2⟩ := h
    have sb := sub_enumerate
    have T : Heap.IsTuple (Shared.heap ⟨hp, g, d, tk, os⟩) l xs := ⟨_, e1, rfl, n, rfl⟩
    wp_walk using wpAny_loadPart' e1
    refine wpAny_stack_any fun st => wpAny_pure ?_
    split
    · rename_i c _ _ _ _ _
      cases (c == Value.type "enumerate") <;> (wp_walk using wpAny_loadPart' e1, wpAny_pyIter_tuple T; exact ⟨_, rfl, e2⟩)
    · wp_walk using wpAny_loadPart' e1, wpAny_pyIter_tuple T; exact ⟨_, rfl, e2⟩
section
variable {prog : Program} {w : World} {A : Around} {E : Value → Shared → Prop} {s : Shared}
theorem call_enumT {l : Addr} {xs : Array Value} {Q : Value → Shared → Prop} (T : s.heap.IsTuple l xs)
    (h : ∀ h', IsEnum h' (s.heap.objs.size + 1) s.heap.objs.size 0 .none → h'.IsTupleIter s.heap.objs.size l 0 → (∀ b o, s.heap.get? b = some o → h'.get? b = some o) → Q (.ref (s.heap.objs.size + 1)) { s with heap := h' }) : wpAny (model prog w) A (call (.type "enumerate") [.ref l]) Q E s := by
  obtain ⟨⟨c, dd, dt, sl⟩, hl, hc, n, hd⟩ := T
  have hc : c = .type "tuple" := hc
  have hd : dt = .seq xs n := hd
  subst hc hd
  refine callType_new F.called_enumerate (by decide) (F.typeCall_enumerate_1 _) (F.newCall_enumerate_1 _) (fun obj => F.args_object_init_2 obj _) F.entry_enumerate_new (meets_enumT l xs n dd sl) ⟨hl, ?_⟩
  have hz : (s.heap.push { cls := .type "tuple_iterator", data := .fields #[.ref l, .int 0 0] }).objs.size = s.heap.objs.size + 1 := Heap.size_push ..
  rw [hz]
  have he : IsEnum ((s.heap.push { cls := .type "tuple_iterator", data := .fields #[.ref l, .int 0 0] }).push { cls := .type "enumerate", data := .fields #[.none, .bool false, .ref s.heap.objs.size, rawInt 0, .none, .none] }) (s.heap.objs.size + 1) s.heap.objs.size 0 .none := by
    have q := Heap.get?_push_size (s.heap.push { cls := .type "tuple_iterator", data := .fields #[.ref l, .int 0 0] }) (o := { cls := .type "enumerate", data := .fields #[.none, .bool false, .ref s.heap.objs.size, rawInt 0, .none, .none] }) rfl
    rw [hz] at q; exact q
  exact ⟨⟨_, he, rfl⟩, h _ he ⟨_, Heap.get?_push_of_some _ (Heap.get?_push_size _ rfl), rfl, rfl⟩ fun b o x => Heap.get?_push_of_some _ (Heap.get?_push_of_some _ x)⟩
end
theorem drawsT {prog : Program} {w : World} {A : Around} (hh : A.handled = none) (it l : Addr) (hne : l ≠ it) (xs : Array Value) :
    Draws prog w A it [it, l] xs.size (fun i v => xs[i]? = some v) (fun i h => h.IsTupleIter it l i ∧ h.IsTuple l xs) :=
  ⟨fun _ _ st => let ⟨o, ho, _⟩ := st.1; ⟨o, ho⟩, fun _ _ _ st hk => ⟨st.1.at fun o e => hk it (by simp) o e, st.2.at fun o e => hk l (by simp) o e⟩,
    fun i s Q E hi st hQ => RZ.nextOf_tuple_item st.1 st.2 (x := xs[i]) (by simp [hi]) fun h' q1 q2 => hQ _ h' s.toks (by simp [hi]) ⟨q1, st.2.extBut q2.extBut hne⟩ q2,
    fun s Q E st hE => RZ.nextOf_tuple_end hh st.1 st.2 (by simp) hE⟩
section
variable {prog : Program} {w : World} {A : Around} {E : Value → Shared → Prop} {s : Shared}
theorem enumT_end {e it l : Addr} {i : Nat} {xs : Array Value} {j : Int} {old : Value} {Q : Option Value → Shared → Prop} (hh : A.handled = none) (he : IsEnum s.heap e it j old) (hit : s.heap.IsTupleIter it l i) (hl : s.heap.IsTuple l xs) (hx : xs[i]? = none)
    (q : ∀ h', Heap.ExtBut it s.heap h' → Q none { s with heap := h' }) : wpAny (model prog w) A (pyNext (.ref e)) Q E s := by
  have T : s.TypeIs (.ref e) "enumerate" := ⟨_, he, rfl⟩
  unfold pyNext
  refine wpAny_bind (wpAny_attempt (wpAny_callSpecial?_slot (name := Str.ofString "__next__") T F.slot_enumerate_next (wpAny_call_entry F.slot_enumerate_next T F.entry_enumerate_next ?_ (F.args_enumerate_next_1 _))))
  show wpAny _ _ (field (.ref e) 2 >>= _) _ _ _
  refine wpAny_bind (wpAny_field he rfl (x := .ref it) rfl (wpAny_bind (RZ.nextOf_tuple_end hh hit hl hx fun h' x he' hx' => ?_)))
  obtain ⟨o, ho, hc⟩ := hx'
  exact wpAny_bind (wpAny_isInstance (T := "StopIteration") (b := true) ⟨o, ho, hc⟩ isSubtype_stop (wpAny_pure (q _ he')))
end
def IteT (K : PySem.W.Frag) (a : Addr) : It :=
  ⟨fun i H => ∃ (xs : List V) (x : V), SqT K H a xs ∧ xs[i]? = some x, fun i H v H' => ∃ T x, v = .ref T ∧ H T = none ∧ H' = upd H T (.tup [.int (i : Nat), x]) ∧ ∀ xs, SqT K H a xs → xs[i]? = some x, fun i H => ∃ xs : List V, SqT K H a xs ∧ xs.length ≤ i⟩
theorem turn_enumT {P : Program} {w : World} {K : PySem.W.Frag} {elts : List Expr} {kk : Nat} {tpos : Pos} (a e it : Addr) :
    Turn P w K (.Tuple elts kk tpos) (IteT K a) [e, it] e (fun i h => (∃ old, IsEnum h e it ((i : Nat) : Int) old) ∧ h.IsTupleIter it a i ∧ e ≠ it ∧ a ≠ it ∧ e ≠ a) where
  mem := by simp
  obj := fun i h st b hb => by
    obtain ⟨⟨old, he⟩, ⟨o, ho, hc, hd⟩, _⟩ := st
    rcases (show b = e ∨ b = it by simpa using hb) with rfl | rfl
    · exact ⟨_, he, fun v q => nomatch q⟩
    · exact ⟨o, ho, fun v q => by rw [hd] at q; cases q⟩
  keep := fun i h h' st k => let ⟨⟨old, he⟩, hi, hne⟩ := st; ⟨⟨old, k e (by simp) _ he⟩, hi.at fun o q => k it (by simp) o q, hne⟩
  item := by
    intro X hP hw hK hc i pins s σ H E I hf st hg
    subst hP hw hK
    obtain ⟨⟨old, he⟩, hit, hne, hai, hea⟩ := st
    obtain ⟨xs, x, hq, hx⟩ := hg
    obtain ⟨its, rv, p, hz⟩ := I.tuple hq
    obtain ⟨u, hu, ru⟩ := rv.get hx
    have hel : e < s.heap.objs.size := Heap.lt_size he
    have hil : it < s.heap.objs.size := by obtain ⟨_, q, _⟩ := hit; exact Heap.lt_size q
    have hlt : i < its.toArray.size := by have := (List.getElem?_eq_some_iff.mp hu).1; simpa using this
    refine wpAny_pyNext_enum_itemD (drawsT (prog := X.prog) (w := X.w) (A := X.A.in1) (I.ok.hd hc) it a hai its.toArray) he ⟨hit, p⟩ hlt hne (by simp [hne, hea]) fun x' h' tk hP ho hit' hT hsz hk => ?_
    have ex : x' = u := by
      have q : its.toArray[i]? = some u := by simpa using hu
      rw [q] at hP
      exact (Option.some.inj hP).symm
    subst ex
    refine ⟨_, rfl, wpAny_letOwnedTupleGo_enum (s := { s with heap := h', toks := tk + 1 }) ho fun h'' he' sb => ?_⟩
    have hT2 := (sb.2 _ (Nat.ne_of_gt hel)).trans hT
    have new : ObjOk X.prog X.w (upd H s.heap.objs.size (.tup [.int (i : Nat), x])) h'' s.heap.objs.size (.tup [.int (i : Nat), x]) := ⟨by show 2 ≤ sizeLine; decide, [.int i tk, x'], .cons ⟨_, rfl⟩ (.cons ru .nil), ⟨_, hT2, rfl, _, rfl⟩⟩
    have I1 : Inv X pins σ (upd H s.heap.objs.size (.tup [.int (i : Nat), x])) { s with heap := h'', toks := tk + 1 } := I.turnedNew (ch := [e, it]) (fun b ob hb q => (sb.2 b (fun z => hb (by simp [z]))).trans (hk b ob (fun z => hb (by simp [z])) (fun z => hb (by simp [z])) q)) hf (Nat.le_refl _) new
    have e1 : ((i + 1 : Nat) : Int) = (i : Int) + 1 := by omega
    refine ⟨.ref s.heap.objs.size, _, I1, rfl, ⟨_, x, rfl, I.hok.fresh (Nat.le_refl _), rfl, fun ys hy => by rw [I.tuple_inj hy hq]; exact hx⟩, ⟨⟨x', by rw [e1]; exact he'⟩, hit'.1.at fun o q => (sb.2 it (Ne.symm hne)).trans q, hne, hai, hea⟩, fun b hb => ?_⟩
    have hb' : b < s.heap.objs.size := by
      rcases (show b = e ∨ b = it by simpa using hb) with rfl | rfl
      · exact hel
      · exact hil
    rw [upd_ne (Nat.ne_of_lt hb')]
    exact (hf b hb).1
  done := by
    intro X hP hw hK hc i pins s σ H E I hf st hg
    subst hP hw hK
    obtain ⟨⟨old, he⟩, hit, hne, hai, hea⟩ := st
    obtain ⟨xs, hq, hx⟩ := hg
    obtain ⟨its, rv, p, hz⟩ := I.tuple hq
    obtain ⟨f0, f1, f2, f3, f4, f5⟩ := hf it (by simp)
    have hl := rv.length
    exact enumT_end (I.ok.hd hc) he hit p (by simp; omega) fun h' eb => ⟨rfl, I.turned (t' := s.toks) (fun b o hb q => eb b o hb q) f0 f1 f3 f4 f5⟩
  self := fun A i s Q E st h => let ⟨⟨_, he⟩, _⟩ := st; wpAny_pyIter_enum he h

def iEnum2 (K : PySem.W.Frag) (ta : TA) : TI := fun σ H R => ta σ H fun vs H1 => ∃ a xs, vs = [.ref a] ∧ ((SqL K H1 a xs ∧ R (Ite K a) H1) ∨ (SqT K H1 a xs ∧ R (IteT K a) H1))
theorem pi_enum2 {X : Cx} {e : Expr} {ta : TA} {p pos tpos : Pos} {elts : List Expr} {kk : Nat} (hg : Gl X "enumerate") (hm : X.mg "enumerate" = none) (ha : PA X [e] ta) (hs : starEach [e] X.env = [(false, eval e X.env)] := by rfl) : PI X (.Tuple elts kk tpos) (.Call (.Name "enumerate" p) [e] [] pos) (iEnum2 X.K ta) := by
  refine ⟨fun pins s σ H R I h => Call_ (ld_blt I hg hm boot_enumerate (PyProof.Rows.callWith_type1 (thn (ha.run pos pins s σ H _ I h) fun us s1 ⟨vs, H1, I1, r1, q1⟩ => ?_) hs rfl))⟩
  obtain ⟨a, xs, ex, hq⟩ := q1
  subst ex
  cases r1 with
  | cons r rr =>
    cases rr
    cases r
    have cut : ∀ h' : Heap, (∀ b o, s1.heap.get? b = some o → h'.get? b = some o) → ∀ b, b ∈ [s1.heap.objs.size + 1, s1.heap.objs.size] → _ := fun h' hk b hb => by
      have hle : s1.heap.objs.size ≤ b := by
        rcases (show b = s1.heap.objs.size + 1 ∨ b = s1.heap.objs.size by simpa using hb) with rfl | rfl
        · exact Nat.le_add_right _ _
        · exact Nat.le_refl _
      exact I1.fpOk hle (I1.hok.fresh hle)
    rcases hq with ⟨hq, q⟩ | ⟨hq, q⟩
    · obtain ⟨its, rv, p', hz⟩ := I1.list hq
      refine call_enumerate_list p'.isList fun h' he hit hsz hk => wpAny_pyIter_enum he ?_
      exact ⟨s1.heap.objs.size + 1, [s1.heap.objs.size + 1, s1.heap.objs.size], _, _, H1, rfl, I1.kept (t' := s1.toks) hk, turn_enum a (s1.heap.objs.size + 1) s1.heap.objs.size, ⟨⟨.none, he⟩, hit, Nat.succ_ne_self _⟩, cut h' hk, q⟩
    · obtain ⟨its, rv, p', hz⟩ := I1.tuple hq
      have hal : a < s1.heap.objs.size := by obtain ⟨o, ho, _⟩ := p'; exact Heap.lt_size ho
      refine call_enumT p' fun h' he hit hk => wpAny_pyIter_enum he ?_
      exact ⟨s1.heap.objs.size + 1, [s1.heap.objs.size + 1, s1.heap.objs.size], _, _, H1, rfl, I1.kept (t' := s1.toks) hk, turn_enumT a (s1.heap.objs.size + 1) s1.heap.objs.size, ⟨⟨.none, he⟩, hit, Nat.succ_ne_self _, Nat.ne_of_lt hal, Nat.ne_of_gt (Nat.lt_succ_of_lt hal)⟩, cut h' hk, q⟩
section
variable {L : Lay} {P : Pa} {W : WX} {X : Cx} {E : L2.St → XK} {pos : Pos} {e a b c : Expr} {es : List Expr} {m ma mb mc : M D} {ms : M (List D)}
theorem iteT_ok {a : Addr} {vs : List V} {xs : List D} {F : Hp} (s : SqT L.K F a vs) (r : Rps L F xs vs) : ItR L (IteT L.K a) (fun H2 A2 => Same F (hid H2 A2)) (enumD 0 xs) := by
  intro i H A g hA
  have q : SqT L.K H a vs := SqT.same (g.trans hid_le) s
  rw [enumD_get]
  cases e : xs[i]? with
  | none => exact ⟨fun d e => (by cases e), fun _ => ⟨vs, q, by rw [r.length]; exact List.getElem?_eq_none_iff.mp e⟩⟩
  | some x =>
    refine ⟨fun d ed => ?_, fun e => (by cases e)⟩
    cases ed
    obtain ⟨v, hv, rv⟩ := r.get e
    refine ⟨⟨vs, v, q, hv⟩, fun t H' yy => ?_⟩
    obtain ⟨T, x1, rfl, hT, rfl, f1⟩ := yy
    cases (Option.some.inj (hv.symm.trans (f1 vs q)) : v = x1)
    rw [show (0 : Int) + (i : Nat) = (i : Nat) from Int.zero_add _]
    exact ⟨same_upd hT, new_tup2 hA hT .mk_int (rv.same g)⟩
def enum2 : List D → Option (List D)
  | [.lst xs] => some (enumD 0 xs)
  | [.tup xs] => some (enumD 0 xs)
  | _ => none
theorem sI_enum2 {a : Expr} {p tpos : Pos} {elts : List Expr} {kk : Nat} (hK : X.K = L.K) (hg : Gl X "enumerate") (hm : X.mg "enumerate" = none) (ha : SA L P E X [a] ms) (hs : starEach [a] X.env = [(false, eval a X.env)] := by rfl) : SI L P E X (.Tuple elts kk tpos) (.Call (.Name "enumerate" p) [a] [] pos) (mOns enum2 ms) :=
  PI.weak (pi_enum2 hg hm ha hs) fun σ H R h => by
    obtain ⟨τ, R0, h⟩ := tI_args h
    refine ⟨τ, R0, h.imp fun vs H1 ⟨d, ds, τ1, R1, r1, e, q⟩ => ?_⟩
    rw [hK]
    unfold enum2 at e
    split at e
    · cases e
      obtain ⟨v, rfl, rv⟩ := r1.one
      obtain ⟨a1, us, rfl, s1, q1⟩ := Rp.lst_iff.mp rv
      exact ⟨a1, us, rfl, .inl ⟨.inl (.inl (hid_le _ _ s1)), q _ H1 .refl R1 (ite_ok s1 q1)⟩⟩
    · cases e
      obtain ⟨v, rfl, rv⟩ := r1.one
      obtain ⟨a1, us, rfl, s1, q1⟩ := Rp.tup_iff.mp rv
      exact ⟨a1, us, rfl, .inr ⟨SqT.same hid_le s1, q _ H1 .refl R1 (iteT_ok s1 q1)⟩⟩
    · cases e

theorem of65 {u c : Nat} (h : u + 65 < c) : u + 64 < c := by omega
end
end Sm
set_option Elab.async false
set_option linter.all false
set_option maxRecDepth 100000
set_option maxHeartbeats 400000
namespace Sm
open PySem PySem.Spec PyProof.Rows L2
section
variable {L : Lay} {P : Pa} {W : WX} {X : Cx} {E : L2.St → XK} {pos : Pos} {e : Expr} {m : M D}
theorem passNo (σ : L2.St) : PassesAt (L2.CX X.prog X.w) X σ (Eno σ) := fun _ _ _ _ _ _ ⟨_, _, _, _, _, _, _, _, _, _, _, _, h⟩ => h.elim
theorem passB {Pr : Program} {w : World} {K : PySem.W.Frag} {mg : Str → Option Value} {base : Heap} {N : List Str} {qual : Str} {sc : Scope} {f : Addr} {cdv : Value} {A : Around} {outer : List Env} {s : Shared} {H : Hp} {E : XK} (σ : L2.St) :
    PassesAt (L2.CX Pr w) (cxB Pr w K mg base N qual sc f cdv A outer s H E) σ (WE (Wof E) σ) :=
  passAt (X := cxB Pr w K mg base N qual sc f cdv A outer s H E) (W := Wof E) (takes_of (X := cxB Pr w K mg base N qual sc f cdv A outer s H E) rfl rfl rfl rfl) σ
theorem ownB {Pr : Program} {w : World} {K : PySem.W.Frag} {mg : Str → Option Value} {base : Heap} {N : List Str} {qual : Str} {sc : Scope} {f : Addr} {cdv : Value} {A : Around} {outer : List Env} {s : Shared} {H : Hp} {E : XK} :
    PassesOwn (model Pr w) (cxB Pr w K mg base N qual sc f cdv A outer s H E).A (cxB Pr w K mg base N qual sc f cdv A outer s H E).env (cxB Pr w K mg base N qual sc f cdv A outer s H E).xe :=
  passes_of (X := cxB Pr w K mg base N qual sc f cdv A outer s H E) rfl
theorem bd_of {x qual : Str} {st : Stmt} {f : Addr} {fd : FuncData} {ps : List Str} (F : Fun L.K x qual st f fd) (n : Nat) (ks : List Str) (ix : List Nat)
    (h : ∀ (kV doc pm : Value) (an : Option Addr) (cdv ct : Value) (us ws : List Value), us.length = n → ws.length = ks.length → bindArgs (PySem.W.fnOf x qual (defArgs st) (defBody st) (defScope st) .none kV doc pm an cdv ct) ⟨us, ks.zip ws⟩ = pure (ps.zip (ix.map fun i => (us ++ ws ++ []).getD i Value.none))) : Bd L fd ps n ks ix [] := by
  obtain ⟨oc, od, kV, doc, pm, an, cdv, ct, osl, rfl, lk, hcd⟩ := F.ex
  exact ⟨[], [], .nil, fun _ => .nil, fun s us ws _ h1 h2 => .of_eq (h kV doc pm an cdv ct us ws h1 h2)⟩
theorem fn_fail {Pr : Program} {w : World} {mg : Str → Option Value} {base : Heap} {f : Addr} {fd : FuncData} {ps : List Str} {k : Nat} {io : List Bool} : FnOk Pr w L.K mg base (L2.CX Pr w) k f fd ps (spF L io fun _ => .fail) :=
  ⟨fun _ _ _ _ ⟨_, _, _, _, h⟩ => h.elim, fun _ _ _ _ _ _ _ _ _ _ _ _ _ ⟨_, _, _, _, h⟩ => h.elim⟩
variable {a b : Expr} {ma mb : M D} {rest : List Expr}
theorem room65 {k : Nat} {A : Around} (r : Room k A) : A.units + 65 < cLine := by have := r.un; omega
theorem sE_one {op : BoolOp} (h : SE L P E X a ma) : SE L P E X (.BoolOp op [a] pos) ma := pe_one h
def mAndV (a b : M D) : M D := fun τ => (a τ).bind fun x => fun τ => (Res.lift (truD x) τ).bind fun k => fun τ => if k = true then b τ else .ok x τ
theorem sE_andC (hK : X.K = L.K) (ha : SE L P E X a ma) (hb : SE L P E X (.BoolOp .And (b :: rest) pos) mb) : SE L P E X (.BoolOp .And (a :: b :: rest) pos) (mAndV ma mb) :=
  PE.weak (pe_andT ha hb) fun σ H Q ⟨τ, R, h⟩ => by
    refine ⟨τ, R, (Post.split (R := RV L) h).imp fun x H1 ⟨d1, τ1, t1, R1, r1, h1⟩ => ?_⟩
    obtain ⟨k, e, q⟩ := (Post.split (R := RB) h1).lift
    refine ⟨k, by rw [hK]; exact truV_ok hid_le (r1.bp hid_le) e, ?_⟩
    obtain ⟨b', τ3, t3, R3, rb, h3⟩ := q k H1 .refl R1 rfl
    cases rb
    cases k with
    | false => rw [if_neg Bool.false_ne_true] at h3 ⊢; exact h3 x H1 .refl R3 (r1.same (R1.fz t3))
    | true => rw [if_pos rfl] at h3 ⊢; exact ⟨τ3, R3, h3⟩
def mNotV (a : M D) : M D := fun τ => (a τ).bind fun x => fun τ => Res.lift ((truD x).map fun k => .bl (!k)) τ
theorem sE_notV (hK : X.K = L.K) (ha : SE L P E X a ma) : SE L P E X (.UnaryOp .Not a pos) (mNotV ma) :=
  PE.weak (pe_notT ha) fun σ H Q ⟨τ, R, h⟩ => by
    refine ⟨τ, R, (Post.split (R := RV L) h).imp fun x H1 ⟨d1, τ1, t1, R1, r1, h1⟩ => ?_⟩
    obtain ⟨d, e, q⟩ := h1.done R1
    obtain ⟨k, e1, rfl⟩ := Option.map_eq_some_iff.mp e
    exact ⟨k, by rw [hK]; exact truV_ok hid_le (r1.bp hid_le) e1, q _ H1 (.refl _) .mk_bl⟩
end
theorem bt_len : bootBuiltins "len" = some (.builtin "len") := by decide +kernel
theorem bt_abs : bootBuiltins "abs" = some (.builtin "abs") := by decide +kernel
theorem bt_max : bootBuiltins "max" = some (.builtin "max") := by decide +kernel
theorem bt_min : bootBuiltins "min" = some (.builtin "min") := by decide +kernel
theorem bt_all : bootBuiltins "all" = some (.builtin "all") := by decide +kernel
theorem bt_sorted : bootBuiltins "sorted" = some (.builtin "sorted") := by decide +kernel
theorem bt_int : bootBuiltins "int" = some (.type "int") := by decide +kernel
theorem bt_tuple : bootBuiltins "tuple" = some (.type "tuple") := by decide +kernel
theorem bt_list : bootBuiltins "list" = some (.type "list") := by decide +kernel
theorem bt_set : bootBuiltins "set" = some (.type "set") := by decide +kernel
end Sm
set_option Elab.async false
set_option linter.all false
set_option maxRecDepth 100000
set_option maxHeartbeats 400000
namespace Sm
open PySem PySem.Spec PyProof.Rows L2
section
variable {L : Lay} {P : Pa} {W : WX} {X : Cx} {E : L2.St → XK} {pos p p' : Pos} {a b : Expr} {ma mb : M D} {ms : M (List D)}
theorem upFrom_map (lo : Int) : ∀ n : Nat, upFrom lo n = (List.range n).map fun i => D.int (lo + (i : Nat))
  | n => by
    refine List.ext_getElem? fun i => ?_
    rw [upFrom_get, List.getElem?_map]
    by_cases h : i < n
    · rw [if_pos h, List.getElem?_range h]; rfl
    · rw [if_neg h, List.getElem?_eq_none_iff.mpr (by rw [List.length_range]; omega)]; rfl
theorem rps_rg {F : Hp} (lo hi : Int) : Rps L F (upFrom lo (hi - lo).toNat) (rgV lo hi) := by
  rw [upFrom_map]
  unfold rgV
  have e1 : ((List.range (hi - lo).toNat).map fun i => D.int (lo + (i : Nat))) = (((List.range (hi - lo).toNat).map fun i => lo + ((i : Nat) : Int))).map D.int := by rw [List.map_map]; rfl
  have e2 : ((List.range (hi - lo).toNat).map fun i => V.int (lo + (i : Nat))) = (((List.range (hi - lo).toNat).map fun i => lo + ((i : Nat) : Int))).map V.int := by rw [List.map_map]; rfl
  rw [e1, e2]
  exact Rp.ofInts _
def nRg (lo hi : Int) : Option (List D) := if lo.natAbs < 2 ^ 60 ∧ hi.natAbs < 2 ^ 60 ∧ hi - lo < 16000000 then some (upFrom lo (hi - lo).toNat) else none
theorem nRg_some {lo hi : Int} {ds : List D} (h : nRg lo hi = some ds) : RgOk lo hi ∧ ds = upFrom lo (hi - lo).toNat := by
  unfold nRg at h
  split at h
  · rename_i q
    cases h
    exact ⟨⟨by omega, by omega, by omega, by omega, by omega⟩, rfl⟩
  · cases h
def mTupRg1 (ma : M D) : M D := fun τ => (ma τ).bind fun x => fun τ => Res.lift ((asI x).bind fun n => (nRg 0 n).map .tup) τ
theorem asI_some {d : D} {i : Int} (h : asI d = some i) : d = .int i := by
  cases d with
  | int j => cases h; rfl
  | _ => cases h
theorem sE_tupRg1 (hc : X.calm = true) (hg : Gl X "tuple") (hm : X.mg "tuple" = none) (hg' : Gl X "range") (hm' : X.mg "range" = none) (ha : SE L P E X a ma) (na : starEach [a] X.env = (false, eval a X.env) :: starEach [] X.env := by rfl)
    (nb : starEach [.Call (.Name "range" p') [a] [] p] X.env = (false, eval (.Call (.Name "range" p') [a] [] p) X.env) :: starEach [] X.env := by rfl) {p2 : Pos} : SE L P E X (.Call (.Name "tuple" p2) [.Call (.Name "range" p') [a] [] p] [] pos) (mTupRg1 ma) :=
  PE.weak (pe_tupRg hc hg hm (prg_1 hg' hm' ha na) nb) fun σ H Q ⟨τ, R, h⟩ => by
    refine ⟨τ, R, (Post.split (R := RV L) h).imp fun x H1 ⟨d1, τ1, t1, R1, r1, h1⟩ => ?_⟩
    obtain ⟨d, e, q⟩ := h1.done R1
    obtain ⟨n, e1, e2⟩ := Option.bind_eq_some_iff.mp e
    have := asI_some e1
    subst this
    obtain ⟨ds, e3, rfl⟩ := Option.map_eq_some_iff.mp e2
    obtain ⟨ok, rfl⟩ := nRg_some e3
    exact ⟨n, Rp.int_iff.mp r1, ok, fun l hl => q _ _ (.of (same_upd hl)) (new_tup (fun a ha => R1.hd_there ha) hl (rps_rg 0 n))⟩
end
end Sm
set_option Elab.async false
set_option linter.all false
set_option maxRecDepth 100000
set_option maxHeartbeats 400000
namespace Sm
open PySem PySem.Spec PyProof.Rows L2
def RF.yes : RF → Bool
  | .ok (.bl true) _ => true
  | _ => false
theorem law_sp {L : Lay} {f : List D → RF} {H : Hp} {a : Addr} {ns : List Int} (h : (f [.scr (ns.map .int)]).yes = true) (hS : SqL L.K H a (ns.map V.int)) : spF L [false] f [.ref a] H (fun v _ => v = .bl true) fun _ _ _ => False := by
  have no : ∀ i b, ¬ OwnAt [some (V.ref a)] [Sl.fz (.scr (ns.map .int))] i b := fun i b ⟨_, t, et, ow⟩ => by
    match i, et with
    | 0, et => cases et; cases ow
    | i + 1, et => cases et
  refine ⟨[.scr (ns.map .int)], fun _ => False, rfl, ⟨rfl, fun i j b x => (no i b x).elim, fun b ⟨i, x⟩ => (no i b x).elim, fun _ h => h.elim, fun i t et => ?_⟩, ?_⟩
  · match i, et with
    | 0, et =>
      cases et
      refine ⟨.ref a, rfl, Rp.scr_iff.mpr ⟨a, _, rfl, ?_, Rp.ofInts ns⟩⟩
      have s : ∀ o, ¬ MkH o → H a = some o → hid H (Hd ⟨[.ref a], fun _ => False⟩ [some (.ref a)] [Sl.fz (.scr (ns.map .int))]) a = some o := fun o m e => hid_some.mpr ⟨e, fun z => z.elim (fun ⟨i, x⟩ => no i a x) fun z => z, m⟩
      rcases hS with (h | ⟨o, h⟩) | h
      · exact .inl (.inl (s _ NoMk.no h))
      · exact .inl (.inr ⟨o, s _ NoMk.no h⟩)
      · exact .inr h
    | i + 1, et => cases et
  · revert h
    cases f [.scr (ns.map .int)] with
    | ok d outs =>
      intro h v H' _ _ r
      cases d with
      | bl b =>
        cases b with
        | true => exact Rp.bl_iff.mp r
        | false => cases h
      | _ => cases h
    | _ => intro h; cases h
theorem noCX {Pr : Program} (w : World) (H : Hp) (s : Shared) (e : Value) (s' : Shared) (h : L2.CX Pr w [] H s (fun _ _ _ => False) e s') : False := by
  obtain ⟨_, _, _, _, _, _, _, _, _, _, _, _, h⟩ := h
  exact h
end Sm
set_option Elab.async false
set_option linter.all false
set_option maxRecDepth 100000
set_option maxHeartbeats 400000
namespace Sm
open PySem PySem.Spec PyProof.Rows L2
section
variable {α β : Type} {t : Sl} {τ : List Sl} {ma mb mc m : M D} {ms ms' mk : M (List D)} {mr : M (List Ar)} {f f' : D → D → Option D} {g : D → Option D} {na nb nt : M Bool} {i j : Nat} {d : D} {sa sb : MS} {F : List D → Option D} {FF : List D → Option (List D)}
@[simp] theorem ev_op : mOp f ma mb (t :: τ) = (ma (t :: τ)).bind fun x => fun τ => (mb τ).bind fun y => fun τ => Res.lift (f x y) τ := rfl
@[simp] theorem ev_un : mUn g ma (t :: τ) = (ma (t :: τ)).bind fun x => fun τ => Res.lift (g x) τ := rfl
@[simp] theorem ev_b : mB m (t :: τ) = (m (t :: τ)).bind fun x => fun τ => Res.lift (asB x) τ := rfl
@[simp] theorem ev_c : mC d (t :: τ) = .ok d (t :: τ) := rfl
@[simp] theorem ev_var : mVar i (t :: τ) = match (t :: τ)[i]? with | some (.fz d) => .ok d (t :: τ) | some (.ow d) => .ok d ((t :: τ).set i (.fz d)) | _ => .fail := rfl
@[simp] theorem ev_nil : mNil (t :: τ) = .ok [] (t :: τ) := rfl
@[simp] theorem ev_cons : mCons m ms (t :: τ) = (m (t :: τ)).bind fun x => fun τ => (ms τ).bind fun xs => fun τ => .ok (x :: xs) τ := rfl
@[simp] theorem ev_tup : mTup ms (t :: τ) = (ms (t :: τ)).bind fun xs => fun τ => Res.lift ((small xs).map D.tup) τ := rfl
@[simp] theorem ev_lst : mLst ms (t :: τ) = (ms (t :: τ)).bind fun xs => fun τ => Res.lift ((small xs).map D.lst) τ := rfl
@[simp] theorem ev_and : mAnd na nb (t :: τ) = (na (t :: τ)).bind fun k => fun τ => if k = true then nb τ else .ok false τ := rfl
@[simp] theorem ev_or : mOr na nb (t :: τ) = (na (t :: τ)).bind fun k => fun τ => if k = true then .ok true τ else nb τ := rfl
@[simp] theorem ev_not : mNot na (t :: τ) = (na (t :: τ)).bind fun k => fun τ => .ok (!k) τ := rfl
@[simp] theorem ev_if {x y : M α} : mIf na x y (t :: τ) = (na (t :: τ)).bind fun k => fun τ => if k = true then x τ else y τ := rfl
@[simp] theorem ev_nx : mNx (t :: τ) = .nx (t :: τ) := rfl
@[simp] theorem ev_seq : mSeq sa sb (t :: τ) = (sa (t :: τ)).then sb := rfl
@[simp] theorem ev_bk : mBk (t :: τ) = .bk (t :: τ) := rfl
@[simp] theorem ev_ct : mCt (t :: τ) = .ct (t :: τ) := rfl
@[simp] theorem ev_ret : mRet m (t :: τ) = (m (t :: τ)).st fun d τ => .rt d τ := rfl
@[simp] theorem ev_retN : mRetN (t :: τ) = .rt .non (t :: τ) := rfl
@[simp] theorem ev_retO : mRetO m (t :: τ) = (m (t :: τ)).st fun d τ => .ro d τ := rfl
@[simp] theorem ev_ifS : mIfS na sa sb (t :: τ) = (na (t :: τ)).st fun k τ => if k = true then sa τ else sb τ := rfl
@[simp] theorem ev_drop : mDrop m (t :: τ) = (m (t :: τ)).st fun _ τ => .nx τ := rfl
@[simp] theorem ev_set : mSet i m (t :: τ) = (m (t :: τ)).st fun d τ => SR.opt (setFz i d τ) := rfl
@[simp] theorem ev_setO : mSetO i m (t :: τ) = (m (t :: τ)).st fun d τ => SR.opt (setOw i d τ) := rfl
@[simp] theorem ev_par : mPar i j ma mb (t :: τ) = (ma (t :: τ)).st fun a τ => (mb τ).st fun b τ => SR.opt ((setFz i a τ).bind (setFz j b)) := rfl
@[simp] theorem ev_asg {q : MG} : mAsg q m (t :: τ) = (m (t :: τ)).st fun d τ => SR.opt (q d τ) := rfl
@[simp] theorem ev_setFz : setFz i d (t :: τ) = match (t :: τ)[i]? with | some s => if s.free = true then some ((t :: τ).set i (.fz d)) else none | none => none := rfl
@[simp] theorem ev_setOw : setOw i d (t :: τ) = match (t :: τ)[i]? with | some s => if s.free = true then some ((t :: τ).set i (.ow d)) else none | none => none := rfl
@[simp] theorem free_un : Sl.un.free = true := rfl
@[simp] theorem free_fz : (Sl.fz d).free = true := rfl
@[simp] theorem free_ow : (Sl.ow d).free = true := rfl
@[simp] theorem ev_gN : gN i d (t :: τ) = setFz i d (t :: τ) := rfl
@[simp] theorem ev_gNil : Sm.gNil [] (t :: τ) = some (t :: τ) := rfl
@[simp] theorem ev_gCons {q : MG} {qs : MGs} {ds : List D} : Sm.gCons q qs (d :: ds) (t :: τ) = (q d (t :: τ)).bind (qs ds) := rfl
@[simp] theorem ev_gT {n : Nat} {qs : MGs} {ds : List D} : gT n qs (.tup ds) (t :: τ) = if ds.length = n then qs ds (t :: τ) else none := rfl
@[simp] theorem ev_gTl {n : Nat} {qs : MGs} {ds : List D} : gT n qs (.lst ds) (t :: τ) = if ds.length = n then qs ds (t :: τ) else none := rfl
@[simp] theorem ev_gIx : gIx i m d (t :: τ) = if isLst (peek i (t :: τ)) = true then (m (t :: τ)).ixO fun k τ => chgS i (fSet k d) τ else none := rfl
@[simp] theorem ev_peek : peek i (t :: τ) = ((t :: τ)[i]?).bind Sl.get := rfl
@[simp] theorem get_fz : Sl.get (.fz d) = some d := rfl
@[simp] theorem get_ow : Sl.get (.ow d) = some d := rfl
@[simp] theorem get_io : Sl.get (.io i d) = some d := rfl
@[simp] theorem isLst_lst {ds : List D} : isLst (some (.lst ds)) = true := rfl
@[simp] theorem ev_chg {h : List D → Option (List D)} : chgS i h (t :: τ) = ((t :: τ)[i]?).bind fun s => (s.chg h).map fun s' => (t :: τ).set i s' := rfl
@[simp] theorem chg_ow {h : List D → Option (List D)} {ds : List D} : Sl.chg h (.ow (.lst ds)) = (h ds).map fun ns => .ow (.lst ns) := rfl
@[simp] theorem chg_io {h : List D → Option (List D)} {ds : List D} : Sl.chg h (.io i (.lst ds)) = (h ds).map fun ns => .io i (.lst ns) := rfl
@[simp] theorem ev_pk : mPk i f mb (t :: τ) = match peek i (t :: τ) with | none => .fail | some _ => (mb (t :: τ)).bind fun y => fun τ => Res.lift ((peek i τ).bind fun x => f x y) τ := rfl
@[simp] theorem ev_ch : mCh f f' ma mb mc (t :: τ) = (ma (t :: τ)).bind fun x => fun τ => (mb τ).bind fun y => fun τ => (Res.lift ((f x y).bind asB) τ).bind fun k => fun τ => if k = true then (mc τ).bind fun z => fun τ => Res.lift (f' y z) τ else .ok (.bl false) τ := rfl
@[simp] theorem ev_andV : mAndV ma mb (t :: τ) = (ma (t :: τ)).bind fun x => fun τ => (Res.lift (truD x) τ).bind fun k => fun τ => if k = true then mb τ else .ok x τ := rfl
@[simp] theorem ev_orV : mOrV ma mb (t :: τ) = (ma (t :: τ)).bind fun x => fun τ => (Res.lift (truD x) τ).bind fun k => fun τ => if k = true then .ok x τ else mb τ := rfl
@[simp] theorem ev_notV : mNotV ma (t :: τ) = (ma (t :: τ)).bind fun x => fun τ => Res.lift ((truD x).map fun k => .bl (!k)) τ := rfl
@[simp] theorem ev_fn : mFn F ms (t :: τ) = (ms (t :: τ)).bind fun xs => fun τ => Res.lift (F xs) τ := rfl
@[simp] theorem ev_fnF : mFnF FF ms (t :: τ) = (ms (t :: τ)).bind fun xs => fun τ => Res.lift ((FF xs).map D.lst) τ := rfl
@[simp] theorem ev_fnP : mFnP F i (t :: τ) = Res.lift ((peek i (t :: τ)).bind fun d => F [d]) (t :: τ) := rfl
@[simp] theorem ev_on {h : α → Option β} {x : M α} : mOn h x (t :: τ) = (x (t :: τ)).bind fun d => fun τ => Res.lift (h d) τ := rfl
@[simp] theorem ev_ons : mOns FF ms (t :: τ) = (ms (t :: τ)).bind fun xs => fun τ => Res.lift (FF xs) τ := rfl
@[simp] theorem ev_yes : mYes (t :: τ) = .ok true (t :: τ) := rfl
@[simp] theorem ev_oNone : oNone (t :: τ) = .ok none (t :: τ) := rfl
@[simp] theorem ev_oSome : oSome m (t :: τ) = (m (t :: τ)).bind fun x => fun τ => Res.lift ((asI x).map some) τ := rfl
@[simp] theorem ev_for {mi : M (List D)} {q : MG} : mFor mi q sa (t :: τ) = (mi (t :: τ)).st fun ds τ => mLoop q sa ds τ := rfl
@[simp] theorem ev_aNil : aNil (t :: τ) = .ok [] (t :: τ) := rfl
@[simp] theorem ev_aV : aV m mr (t :: τ) = (m (t :: τ)).bind fun x => fun τ => (mr τ).bind fun xs => fun τ => .ok (.v x :: xs) τ := rfl
@[simp] theorem ev_aIo : aIo i mr (t :: τ) = match ownD (t :: τ)[i]? with | some _ => (mr (t :: τ)).bind fun xs => fun τ => .ok (.io i :: xs) τ | none => .fail := rfl
@[simp] theorem ev_call {io : List Bool} {fn : List D → RF} {n k : Nat} {ix : List Nat} {dds : List D} : mCall io fn n k ix dds mr mk (t :: τ) = (mr (t :: τ)).bind fun as => fun τ => (mk τ).bind fun es => fun τ =>
    if as.length = n ∧ es.length = k then callR io fn (pick ix (as ++ es.map Ar.v ++ dds.map Ar.v)) τ else .fail := rfl
@[simp] theorem small_nil : small [] = some [] := rfl
@[simp] theorem dd_add {a b : Int} : dAdd (.int a) (.int b) = some (.int (a + b)) := rfl
@[simp] theorem dd_sub {a b : Int} : dSub (.int a) (.int b) = some (.int (a - b)) := rfl
@[simp] theorem dd_mul {a b : Int} : dMul (.int a) (.int b) = if mulOk a b = true then some (.int (a * b)) else none := rfl
@[simp] theorem dd_mod {a b : Int} : dMod (.int a) (.int b) = if 0 < b then some (.int (a % b)) else none := rfl
@[simp] theorem dd_neg {a : Int} : dNeg (.int a) = some (.int (-a)) := rfl
@[simp] theorem dd_lt {a b : Int} : dLt (.int a) (.int b) = some (.bl (decide (a < b))) := rfl
@[simp] theorem dd_le {a b : Int} : dLe (.int a) (.int b) = some (.bl (decide (a ≤ b))) := rfl
@[simp] theorem dd_gt {a b : Int} : dGt (.int a) (.int b) = some (.bl (decide (b < a))) := rfl
@[simp] theorem dd_ge {a b : Int} : dGe (.int a) (.int b) = some (.bl (decide (b ≤ a))) := rfl
@[simp] theorem dd_int {a : Int} : dInt [.int a] = some (.int a) := rfl
@[simp] theorem dd_intb {k : Bool} : dInt [.bl k] = some (.int (if k = true then 1 else 0)) := rfl
@[simp] theorem dd_abs {a : Int} : dAbs [.int a] = some (.int (if a < 0 then -a else a)) := rfl
@[simp] theorem dd_lenL {xs : List D} : dLen [.lst xs] = some (.int xs.length) := rfl
@[simp] theorem dd_lenT {xs : List D} : dLen [.tup xs] = some (.int xs.length) := rfl
@[simp] theorem dd_ixL {xs : List D} {a : Int} : dIx (.lst xs) (.int a) = L2.atI xs a := rfl
@[simp] theorem dd_ixT {xs : List D} {a : Int} : dIx (.tup xs) (.int a) = L2.atI xs a := rfl
@[simp] theorem tru_bl {k : Bool} : truD (.bl k) = some k := rfl
@[simp] theorem at1_0 {a : D} : L2.atI [a] 0 = some a := rfl
@[simp] theorem at2_0 {a b : D} : L2.atI [a, b] 0 = some a := rfl
@[simp] theorem at2_1 {a b : D} : L2.atI [a, b] 1 = some b := rfl
@[simp] theorem at3_0 {a b c : D} : L2.atI [a, b, c] 0 = some a := rfl
@[simp] theorem at3_1 {a b c : D} : L2.atI [a, b, c] 1 = some b := rfl
@[simp] theorem at3_2 {a b c : D} : L2.atI [a, b, c] 2 = some c := rfl
@[simp] theorem set3_0 {a b c : D} : fSet 0 d [a, b, c] = some [d, b, c] := rfl
@[simp] theorem set3_1 {a b c : D} : fSet 1 d [a, b, c] = some [a, d, c] := rfl
@[simp] theorem set3_2 {a b c : D} : fSet 2 d [a, b, c] = some [a, b, d] := rfl
end
theorem mulOk_l {i j : Int} (h : i.natAbs < 2 ^ 63) : mulOk i j = true := by unfold mulOk; rw [decide_eq_true h]; rfl
theorem mulOk_r {i j : Int} (h : j.natAbs < 2 ^ 63) : mulOk i j = true := by unfold mulOk; rw [decide_eq_true h, Bool.or_true]; rfl
theorem dd_fdiv {a b : Int} (h : 0 < b) (h2 : b < 2 ^ 62) : dFdiv (.int a) (.int b) = some (.int (a / b)) := by
  show (if 0 < b ∧ b.natAbs < 2 ^ 8000 then some (D.int (a / b)) else none) = _
  rw [if_pos ⟨h, Nat.lt_of_lt_of_le (show b.natAbs < 2 ^ 62 by omega) (Nat.pow_le_pow_right (by decide) (by decide))⟩]
end Sm
set_option Elab.async false
set_option linter.all false
set_option maxRecDepth 100000
set_option maxHeartbeats 400000
namespace Sm
open PySem PySem.Spec PyProof.Rows L2
def b_boxC (c : Int) : MS := (mSeq (mSet 2 (mIf (mB (mOp dLt (mVar 1) (mFn dLen (mCons (mVar 0) mNil)))) (mPk 0 dIx (mVar 1)) (mC (.int 0))))
    (mRetO (mLst (mCons (mOp dMul (mFn dAbs (mCons (mVar 2) mNil)) (mFn dInt (mCons (mOp dGe (mFn dAbs (mCons (mVar 2) mNil)) (mOp dPow (mC (.int 10)) (mC (.int 18)))) mNil))) (mCons (mOp dAdd (mOp dAdd (mOp dMod (mFn dInt (mCons (mVar 2) mNil)) (mC (.int 2305843009213693951))) (mOp dMul (mC (.int 39373)) (mVar 1))) (mC (.int c))) (mCons (mC (.int 0)) mNil))))))
def f_boxC (c : Int) : List D → RF := mkF 3 [false, false] (b_boxC c)
def b_take : MS := (mSeq (mIfS (mB (mOp dGt (mPk 0 dIx (mC (.int 0))) (mC (.int 0)))) (mSeq (mSet 2 (mOp dMod (mFn dInt (mCons (mPk 0 dIx (mC (.int 0))) mNil)) (mVar 1)))
    (mSeq (mAsg (gIx 0 (mC (.int 0))) (mOp dFdiv (mPk 0 dIx (mC (.int 0))) (mVar 1)))
    (mRet (mVar 2)))) mNx)
    (mSeq (mAsg (gIx 0 (mC (.int 2))) (mOp dAdd (mPk 0 dIx (mC (.int 2))) (mC (.int 1))))
    (mSeq (mSet 3 (mOp dMod (mFn dInt (mCons (mOp dMul (mOp dAdd (mPk 0 dIx (mC (.int 1))) (mOp dMul (mC (.int 48271)) (mPk 0 dIx (mC (.int 2))))) (mOp dAdd (mC (.int 39373)) (mPk 0 dIx (mC (.int 2))))) mNil)) (mC (.int 2147483647))))
    (mSeq (mSet 4 (mOp dAdd (mOp dMod (mFn dInt (mCons (mVar 3) mNil)) (mC (.int 40009))) (mC (.int 7))))
    (mSeq (mSet 5 (mOp dMod (mFn dInt (mCons (mOp dMul (mOp dAdd (mOp dAdd (mVar 3) (mPk 0 dIx (mC (.int 2)))) (mOp dFdiv (mPk 0 dIx (mC (.int 1))) (mC (.int 1000003)))) (mVar 4)) mNil)) (mC (.int 2147483629))))
    (mRet (mOp dMod (mFn dInt (mCons (mOp dFdiv (mOp dMod (mFn dInt (mCons (mOp dAdd (mOp dMul (mVar 5) (mC (.int 48271))) (mVar 3)) mNil)) (mC (.int 2147483587))) (mC (.int 64))) mNil)) (mVar 1))))))))
def f_take : List D → RF := mkF 6 [true, false] b_take
def b_cells : MS := (mSeq (mSetO 2 (mOrV (mFnF nList (mCons (mSlP 0 oNone (oSome (mVar 1))) mNil)) (mLst (mCons (mC (.int 0)) mNil))))
    (mSeq (mFor (mOns enum2 (mCons (mSlP 0 (oSome (mVar 1)) (oSome (mC (.int 63)))) mNil)) (gT 2 (Sm.gCons (gN 3) (Sm.gCons (gN 4) Sm.gNil))) (mSeq (mSet 5 (mOp dMod (mFn dInt (mCons (mVar 3) mNil)) (mVar 1)))
    (mAsg (gIx 2 (mVar 5)) (mOp dAdd (mPk 2 dIx (mVar 5)) (mOp dMul (mVar 4) (mOp dAdd (mVar 3) (mC (.int 2))))))))
    (mRet (mVar 2))))
def f_cells : List D → RF := mkF 6 [false, false] b_cells
def b_same (self_ : List D → RF) : MS := (mSeq (mIfS (mB (mFn (dIsi2 "list" "tuple") (mCons (mVar 1) mNil))) (mSeq (mIfS (mB (mOp dNe (mFn (dIsi "list") (mCons (mVar 0) mNil)) (mFn (dIsi "list") (mCons (mVar 1) mNil)))) (mRet (mC (.bl false))) mNx)
    (mSeq (mIfS (mB (mOp dNe (mFn (dIsi "tuple") (mCons (mVar 0) mNil)) (mFn (dIsi "tuple") (mCons (mVar 1) mNil)))) (mRet (mC (.bl false))) mNx)
    (mRet (mAndV (mOp dEq (mFn dLen (mCons (mVar 0) mNil)) (mFn dLen (mCons (mVar 1) mNil))) (mFn dAll (mCons (mLc (mOns zip2 (mCons (mVar 0) (mCons (mVar 1) mNil))) (gT 2 (Sm.gCons (gN 3) (Sm.gCons (gN 4) Sm.gNil))) mYes (mCall [false, false] self_ 2 0 [0, 1] [] (aV (mVar 3) (aV (mVar 4) aNil)) mNil) [3, 4]) mNil)))))) mNx)
    (mSeq (mIfS (mOr (mB (mOp dIs (mVar 1) (mC .non))) (mB (mFn (dIsi2 "bool" "str") (mCons (mVar 1) mNil)))) (mSeq (mSet 2 (mAndV (mOp dEq (mFn (dIsi "bool") (mCons (mVar 0) mNil)) (mFn (dIsi "bool") (mCons (mVar 1) mNil))) (mOp dEq (mOp dIs (mVar 0) (mC .non)) (mOp dIs (mVar 1) (mC .non)))))
    (mRet (mAndV (mVar 2) (mOp dEq (mVar 0) (mVar 1))))) mNx)
    (mRet (mAndV (mFn (dIsi "int") (mCons (mVar 0) mNil)) (mAndV (mNotV (mFn (dIsi "bool") (mCons (mVar 0) mNil))) (mOp dEq (mVar 0) (mVar 1)))))))
def ff_same : Nat → List D → RF
  | 0 => fun _ => .fail
  | n + 1 => mkF 5 [false, false] (b_same (ff_same n))
abbrev f_same : List D → RF := ff_same 6
def bx (a b c : Int) : D := .lst [.int a, .int b, .int c]
theorem take1 {a b c n : Int} (ha : 0 < a) (hn : 0 < n) (hn2 : n < 2 ^ 62) : f_take [bx a b c, .int n] = .ok (.int (a % n)) [some (bx (a / n) b c), none] := by
  simp [f_take, mkF, b_take, argS, bx, ha, hn, dd_fdiv hn hn2, outD, outE]
def mixOnce (b c : Int) : Int := (b + 48271 * c) * (39373 + c) % 2147483647
def mixAgain (b c : Int) : Int := (mixOnce b c + c + b / 1000003) * (mixOnce b c % 40009 + 7) % 2147483629
def mix (b c : Int) : Int := (mixAgain b c * 48271 + mixOnce b c) % 2147483587 / 64
theorem take2 {a b c n : Int} (ha : a ≤ 0) (hb : 0 ≤ b) (hb2 : b < 2 ^ 62) (hc : 0 ≤ c) (hc2 : c < 2 ^ 30) (hn : 0 < n) : f_take [bx a b c, .int n] = .ok (.int (mix b (c + 1) % n)) [some (bx a b (c + 1)), none] := by
  have ha' : ¬ 0 < a := by omega
  have m1 : mulOk 48271 (c + 1) = true := mulOk_l (by decide)
  have m2 : mulOk (b + 48271 * (c + 1)) (39373 + (c + 1)) = true := mulOk_r (by omega)
  have e1 : 0 ≤ mixOnce b (c + 1) ∧ mixOnce b (c + 1) < 2147483647 := ⟨Int.emod_nonneg _ (by decide), Int.emod_lt_of_pos _ (by decide)⟩
  have m3 : mulOk (mixOnce b (c + 1) + (c + 1) + b / 1000003) (mixOnce b (c + 1) % 40009 + 7) = true := mulOk_r (by omega)
  have m4 : mulOk (mixAgain b (c + 1)) 48271 = true := mulOk_r (by decide)
  have d1 := dd_fdiv (a := b) (b := 1000003) (by decide) (by decide)
  have d2 := dd_fdiv (a := (mixAgain b (c + 1) * 48271 + mixOnce b (c + 1)) % 2147483587) (b := 64) (by decide) (by decide)
  have f1 : (b + 48271 * (c + 1)) * (39373 + (c + 1)) % 2147483647 = mixOnce b (c + 1) := rfl
  have f2 : (mixOnce b (c + 1) + (c + 1) + b / 1000003) * (mixOnce b (c + 1) % 40009 + 7) % 2147483629 = mixAgain b (c + 1) := rfl
  have f3 : (mixAgain b (c + 1) * 48271 + mixOnce b (c + 1)) % 2147483587 / 64 = mix b (c + 1) := rfl
  simp [f_take, mkF, b_take, argS, bx, ha', hn, outD, outE, m1, m2, f1, d1, m3, f2, m4, d2, f3]
def Box (k : Int) (d : D) : Prop := ∃ a b c : Int, d = bx a b c ∧ 0 ≤ a ∧ 0 ≤ b ∧ b < 2 ^ 62 ∧ 0 ≤ c ∧ c + k < 2 ^ 30
theorem Box.le {k j : Int} {d : D} (h : Box k d) (hj : j ≤ k) : Box j d := by
  obtain ⟨a, b, c, e, h1, h2, h3, h4, h5⟩ := h
  exact ⟨a, b, c, e, h1, h2, h3, h4, by omega⟩
theorem take_ok {k n : Int} {d : D} (h : Box k d) (hk : 1 ≤ k) (hn : 0 < n) (hn2 : n < 2 ^ 62) : ∃ r d', f_take [d, .int n] = .ok (.int r) [some d', none] ∧ 0 ≤ r ∧ r < n ∧ Box (k - 1) d' := by
  obtain ⟨a, b, c, rfl, h1, h2, h3, h4, h5⟩ := h
  by_cases ha : 0 < a
  · exact ⟨_, _, take1 ha hn hn2, Int.emod_nonneg _ (by omega), Int.emod_lt_of_pos _ hn, a / n, b, c, rfl, Int.ediv_nonneg h1 (by omega), h2, h3, h4, by omega⟩
  · exact ⟨_, _, take2 (by omega) h2 h3 h4 (by omega) hn, Int.emod_nonneg _ (by omega), Int.emod_lt_of_pos _ hn, a, b, c + 1, rfl, h1, h2, h3, by omega, by omega⟩
theorem dd_pow18 : dPow (.int 10) (.int 18) = some (.int 1000000000000000000) := rfl
theorem box_ok {cs : List Int} {k : Nat} {c : Int} (hc : 0 ≤ c) (hc2 : c < 1000000) (hk : k < cs.length) (hk2 : k < 1000) : ∃ d, f_boxC c [.lst (cs.map .int), .int (k : Nat)] = .own d ∧ Box 1000000 d := by
  have h1 : L2.atI (cs.map D.int) ((k : Nat) : Int) = some (.int cs[k]) := atI_nat (by rw [List.getElem?_map, List.getElem?_eq_getElem hk]; rfl)
  have h2 : ((k : Nat) : Int) < (cs.map D.int).length := by rw [List.length_map]; omega
  have h2' : ((k : Nat) : Int) < cs.length := by omega
  generalize cs[k] = x at h1
  generalize hy : (if x < 0 then -x else x) = y
  have y0 : 0 ≤ y := by rw [← hy]; split <;> omega
  generalize hz : (if (1000000000000000000 : Int) ≤ y then (1 : Int) else 0) = z
  have z0 : 0 ≤ z ∧ z ≤ 1 := by rw [← hz]; split <;> omega
  have m1 : mulOk y z = true := mulOk_r (by omega)
  have m2 : mulOk 39373 ((k : Nat) : Int) = true := mulOk_l (by decide)
  have md : 0 ≤ x % 2305843009213693951 ∧ x % 2305843009213693951 < 2305843009213693951 := ⟨Int.emod_nonneg _ (by decide), Int.emod_lt_of_pos _ (by decide)⟩
  refine ⟨bx (y * z) (x % 2305843009213693951 + 39373 * (k : Nat) + c) 0, ?_, _, _, _, rfl, Int.mul_nonneg y0 z0.1, by omega, by omega, by omega, by omega⟩
  simp [f_boxC, mkF, b_boxC, argS, bx, h1, h2', hy, hz, dd_pow18, m1, m2, small]
def fine : Nat → D → Bool
  | 0, _ => false
  | n + 1, .lst ds => ds.all (fine n) && decide (ds.length ≤ 16000000)
  | n + 1, .tup ds => ds.all (fine n) && decide (ds.length ≤ 16000000)
  | _ + 1, .non => true
  | _ + 1, .bl _ => true
  | _ + 1, .int _ => true
  | _, _ => false
@[simp] theorem isi_list_non  : dIsi "list" [.non] = some (.bl false) := rfl
@[simp] theorem isi_tuple_non  : dIsi "tuple" [.non] = some (.bl false) := rfl
@[simp] theorem isi_int_non  : dIsi "int" [.non] = some (.bl false) := rfl
@[simp] theorem isi_bool_non  : dIsi "bool" [.non] = some (.bl false) := rfl
@[simp] theorem isi_list_tuple_non  : dIsi2 "list" "tuple" [.non] = some (.bl false) := rfl
@[simp] theorem isi_bool_str_non  : dIsi2 "bool" "str" [.non] = some (.bl false) := rfl
@[simp] theorem isn_non  : dIs .non .non = some (.bl true) := rfl
@[simp] theorem isi_list_bl {k : Bool} : dIsi "list" [(.bl k)] = some (.bl false) := rfl
@[simp] theorem isi_tuple_bl {k : Bool} : dIsi "tuple" [(.bl k)] = some (.bl false) := rfl
@[simp] theorem isi_int_bl {k : Bool} : dIsi "int" [(.bl k)] = some (.bl true) := rfl
@[simp] theorem isi_bool_bl {k : Bool} : dIsi "bool" [(.bl k)] = some (.bl true) := rfl
@[simp] theorem isi_list_tuple_bl {k : Bool} : dIsi2 "list" "tuple" [(.bl k)] = some (.bl false) := rfl
@[simp] theorem isi_bool_str_bl {k : Bool} : dIsi2 "bool" "str" [(.bl k)] = some (.bl true) := rfl
@[simp] theorem isn_bl {k : Bool} : dIs (.bl k) .non = some (.bl false) := rfl
@[simp] theorem isi_list_int {i : Int} : dIsi "list" [(.int i)] = some (.bl false) := rfl
@[simp] theorem isi_tuple_int {i : Int} : dIsi "tuple" [(.int i)] = some (.bl false) := rfl
@[simp] theorem isi_int_int {i : Int} : dIsi "int" [(.int i)] = some (.bl true) := rfl
@[simp] theorem isi_bool_int {i : Int} : dIsi "bool" [(.int i)] = some (.bl false) := rfl
@[simp] theorem isi_list_tuple_int {i : Int} : dIsi2 "list" "tuple" [(.int i)] = some (.bl false) := rfl
@[simp] theorem isi_bool_str_int {i : Int} : dIsi2 "bool" "str" [(.int i)] = some (.bl false) := rfl
@[simp] theorem isn_int {i : Int} : dIs (.int i) .non = some (.bl false) := rfl
@[simp] theorem isi_list_str {z : Str} : dIsi "list" [(.str z)] = some (.bl false) := rfl
@[simp] theorem isi_tuple_str {z : Str} : dIsi "tuple" [(.str z)] = some (.bl false) := rfl
@[simp] theorem isi_int_str {z : Str} : dIsi "int" [(.str z)] = some (.bl false) := rfl
@[simp] theorem isi_bool_str {z : Str} : dIsi "bool" [(.str z)] = some (.bl false) := rfl
@[simp] theorem isi_list_tuple_str {z : Str} : dIsi2 "list" "tuple" [(.str z)] = some (.bl false) := rfl
@[simp] theorem isi_bool_str_str {z : Str} : dIsi2 "bool" "str" [(.str z)] = some (.bl true) := rfl
@[simp] theorem isn_str {z : Str} : dIs (.str z) .non = some (.bl false) := rfl
@[simp] theorem isi_list_lst {xs : List D} : dIsi "list" [(.lst xs)] = some (.bl true) := rfl
@[simp] theorem isi_tuple_lst {xs : List D} : dIsi "tuple" [(.lst xs)] = some (.bl false) := rfl
@[simp] theorem isi_int_lst {xs : List D} : dIsi "int" [(.lst xs)] = some (.bl false) := rfl
@[simp] theorem isi_bool_lst {xs : List D} : dIsi "bool" [(.lst xs)] = some (.bl false) := rfl
@[simp] theorem isi_list_tuple_lst {xs : List D} : dIsi2 "list" "tuple" [(.lst xs)] = some (.bl true) := rfl
@[simp] theorem isi_bool_str_lst {xs : List D} : dIsi2 "bool" "str" [(.lst xs)] = some (.bl false) := rfl
@[simp] theorem isn_lst {xs : List D} : dIs (.lst xs) .non = some (.bl false) := rfl
@[simp] theorem isi_list_tup {xs : List D} : dIsi "list" [(.tup xs)] = some (.bl false) := rfl
@[simp] theorem isi_tuple_tup {xs : List D} : dIsi "tuple" [(.tup xs)] = some (.bl true) := rfl
@[simp] theorem isi_int_tup {xs : List D} : dIsi "int" [(.tup xs)] = some (.bl false) := rfl
@[simp] theorem isi_bool_tup {xs : List D} : dIsi "bool" [(.tup xs)] = some (.bl false) := rfl
@[simp] theorem isi_list_tuple_tup {xs : List D} : dIsi2 "list" "tuple" [(.tup xs)] = some (.bl true) := rfl
@[simp] theorem isi_bool_str_tup {xs : List D} : dIsi2 "bool" "str" [(.tup xs)] = some (.bl false) := rfl
@[simp] theorem isn_tup {xs : List D} : dIs (.tup xs) .non = some (.bl false) := rfl
@[simp] theorem asB_bl2 {k : Bool} : asB (.bl k) = some k := rfl
@[simp] theorem eq_bl {a b : Bool} : dEq (.bl a) (.bl b) = some (.bl (a == b)) := by cases a <;> cases b <;> rfl
@[simp] theorem ne_bl {a b : Bool} : dNe (.bl a) (.bl b) = some (.bl (a != b)) := by cases a <;> cases b <;> rfl
@[simp] theorem eq_int {a b : Int} : dEq (.int a) (.int b) = some (.bl (decide (a = b))) := by
  show (eqD (.int a) (.int b)).map D.bl = _
  have e : eqD (.int a) (.int b) = some (a == b) := rfl
  rw [e]; rfl
@[simp] theorem eq_non : dEq .non .non = some (.bl true) := rfl
theorem same_int {n : Nat} {i j : Int} : ff_same (n + 1) [.int i, .int j] = .ok (.bl (decide (i = j))) [none, none] := by
  show mkF _ _ _ _ = _
  simp [mkF, b_same, argS, outD, outE]
theorem same_bl {n : Nat} {i j : Bool} : ff_same (n + 1) [.bl i, .bl j] = .ok (.bl (decide (i = j))) [none, none] := by
  show mkF _ _ _ _ = _
  cases i <;> cases j <;> simp [mkF, b_same, argS, outD, outE]
theorem same_non {n : Nat} : ff_same (n + 1) [.non, .non] = .ok (.bl true) [none, none] := by
  show mkF _ _ _ _ = _
  simp [mkF, b_same, argS, outD, outE]
end Sm
set_option Elab.async false
set_option linter.all false
set_option maxRecDepth 100000
set_option maxHeartbeats 400000
namespace Sm
open PySem PySem.Spec PyProof.Rows L2
section
variable {τ S S0 : List Sl} {t : Sl} {fn : List D → RF} {a b c d : D} {i : Nat} {o : List (Option D)} {g : MG} {tt : M Bool} {m : M D} {vs : List Nat} {ds : List D} {p : D → Bool} {y : D → D} {mi : M (List D)}
@[simp] theorem call_v1 : callR [false] fn [.v a] τ = callB none (fn [a]) τ := rfl
@[simp] theorem call_v2 : callR [false, false] fn [.v a, .v b] τ = callB none (fn [a, b]) τ := rfl
@[simp] theorem call_v3 : callR [false, false, false] fn [.v a, .v b, .v c] τ = callB none (fn [a, b, c]) τ := rfl
theorem call_io_v {x : Sl} (h : τ[i]? = some x) (h2 : ownD (some x) = some d) : callR [true, false] fn [.io i, .v a] τ = callB (some (0, i)) (fn [d, a]) τ := by
  show (match ((ownD τ[i]?).bind fun d => some [d, a]) with | none => _ | some ds => callB (some (0, i)) (fn ds) τ) = _
  rw [h, h2]; rfl
@[simp] theorem callB_ok : callB none (.ok d o) τ = .ok d τ := rfl
@[simp] theorem callB_io {k : Nat} : callB (some (k, i)) (.ok d o) τ = .ok d (give τ i (o.getD k none)) := rfl
@[simp] theorem pick1 {x : Ar} : pick [0] [x] = [x] := rfl
@[simp] theorem pick2 {x y : Ar} : pick [0, 1] [x, y] = [x, y] := rfl
@[simp] theorem pick21 {x y : Ar} : pick [1, 0] [x, y] = [y, x] := rfl
@[simp] theorem pick3 {x y z : Ar} : pick [0, 1, 2] [x, y, z] = [x, y, z] := rfl
@[simp] theorem ownD_io {k : Nat} : ownD (some (.io k d)) = some d := rfl
@[simp] theorem ownD_ow : ownD (some (.ow d)) = some d := rfl
theorem lcGo_ok (h : ∀ d ∈ ds, ∃ τ1 τ2, g d S = some τ1 ∧ tt τ1 = .ok (p d) τ2 ∧ (p d = false → Sm.wipeS τ2 vs = S) ∧ (p d = true → ∃ τ3, m τ2 = .ok (y d) τ3 ∧ Sm.wipeS τ3 vs = S)) :
    mLcGo g tt m vs ds S = .ok ((ds.filter p).map y) S := by
  induction ds with
  | nil => rfl
  | cons x xs ih =>
    obtain ⟨τ1, τ2, e1, e2, h3, h4⟩ := h x List.mem_cons_self
    have ih' := ih fun d hd => h d (List.mem_cons_of_mem _ hd)
    unfold mLcGo
    rw [e1]
    show ((tt τ1).nox.bind _) = _
    rw [e2]
    show (if p x = true then _ else _) = _
    by_cases hp : p x = true
    · obtain ⟨τ3, e3, e4⟩ := h4 hp
      rw [if_pos hp, e3]
      show ((mLcGo g tt m vs xs (Sm.wipeS τ3 vs)).bind _) = _
      rw [e4, ih', List.filter_cons_of_pos hp]
      rfl
    · have hp' : p x = false := by simpa using hp
      rw [if_neg hp, h3 hp', ih', List.filter_cons_of_neg hp]
theorem lc_ok (h1 : mi S0 = .ok ds S) (hz : ds.length ≤ 16000000) (hu : allUn S vs = true)
    (h : ∀ d ∈ ds, ∃ τ1 τ2, g d S = some τ1 ∧ tt τ1 = .ok (p d) τ2 ∧ (p d = false → Sm.wipeS τ2 vs = S) ∧ (p d = true → ∃ τ3, m τ2 = .ok (y d) τ3 ∧ Sm.wipeS τ3 vs = S)) :
    mLc mi g tt m vs S0 = .ok (.lst ((ds.filter p).map y)) S := by
  show (mi S0).bind _ = _
  rw [h1]
  show lcEnd g tt m vs ds S = _
  unfold lcEnd
  rw [if_pos ⟨hz, hu⟩, lcGo_ok h]
  rfl
theorem lc_map (h1 : mi S0 = .ok ds S) (hz : ds.length ≤ 16000000) (hu : allUn S vs = true)
    (h : ∀ d ∈ ds, ∃ τ1 τ2 τ3, g d S = some τ1 ∧ tt τ1 = .ok true τ2 ∧ m τ2 = .ok (y d) τ3 ∧ Sm.wipeS τ3 vs = S) :
    mLc mi g tt m vs S0 = .ok (.lst (ds.map y)) S := by
  have q := lc_ok (p := fun _ => true) (y := y) (m := m) h1 hz hu fun d hd => let ⟨τ1, τ2, τ3, e1, e2, e3, e4⟩ := h d hd; ⟨τ1, τ2, e1, e2, fun z => (by cases z), fun _ => ⟨τ3, e3, e4⟩⟩
  rw [q, List.filter_eq_self.mpr fun _ _ => rfl]
theorem zipD_self : ∀ xs : List D, zipD xs xs = xs.map fun x => .tup [x, x]
  | [] => rfl
  | x :: xs => by rw [zipD, zipD_self xs]; rfl
theorem bools_true : ∀ xs : List D, bools (xs.map fun _ => .bl true) = some (xs.map fun _ => true)
  | [] => rfl
  | x :: xs => by
    show (bools (xs.map fun _ => .bl true)).map (true :: ·) = _
    rw [bools_true xs]; rfl
theorem all_true : ∀ xs : List D, dAll [.lst (xs.map fun _ => .bl true)] = some (.bl true) := fun xs => by
  show (bools (xs.map fun _ => D.bl true)).map _ = _
  rw [bools_true xs]
  show some (D.bl _) = _
  congr 2
  rw [List.all_eq_true]
  intro x hx
  obtain ⟨_, _, rfl⟩ := List.mem_map.mp hx
  rfl
@[simp] theorem zip2_lst {xs ys : List D} : zip2 [.lst xs, .lst ys] = some (zipD xs ys) := rfl
@[simp] theorem zip2_tup {xs ys : List D} : zip2 [.tup xs, .tup ys] = some (zipD xs ys) := rfl
theorem same_seq {n : Nat} {xs : List D} {q : D} (hq : q = .lst xs ∨ q = .tup xs) (hz : xs.length ≤ 16000000) (h : ∀ x ∈ xs, ∃ o, ff_same n [x, x] = .ok (.bl true) o) : ∃ o, ff_same (n + 1) [q, q] = .ok (.bl true) o := by
  have e : mLc (mOns zip2 (mCons (mVar 0) (mCons (mVar 1) mNil))) (gT 2 (Sm.gCons (gN 3) (Sm.gCons (gN 4) Sm.gNil))) mYes (mCall [false, false] (ff_same n) 2 0 [0, 1] [] (aV (mVar 3) (aV (mVar 4) aNil)) mNil) [3, 4] [.fz q, .fz q, .un, .un, .un]
      = .ok (.lst (xs.map fun _ => .bl true)) [.fz q, .fz q, .un, .un, .un] := by
    have z : zip2 [q, q] = some (xs.map fun x => .tup [x, x]) := by
      rcases hq with rfl | rfl
      · rw [zip2_lst, zipD_self]
      · rw [zip2_tup, zipD_self]
    rw [lc_map (ds := xs.map fun x => .tup [x, x]) (S := [.fz q, .fz q, .un, .un, .un]) (y := fun _ => .bl true) (by simp [z]) (by rw [List.length_map]; exact hz) rfl fun d hd => ?_, List.map_map]
    · rfl
    · obtain ⟨x, hx, rfl⟩ := List.mem_map.mp hd
      obtain ⟨o, ho⟩ := h x hx
      exact ⟨_, _, [.fz q, .fz q, .un, .fz x, .fz x], by simp; rfl, rfl, by simp [ho], rfl⟩
  refine ⟨[none, none], ?_⟩
  show mkF _ _ _ _ = _
  have l : (xs.length : Int) = xs.length := rfl
  rcases hq with rfl | rfl
  · simp [mkF, b_same, argS, outD, outE, e, all_true]
  · simp [mkF, b_same, argS, outD, outE, e, all_true]
theorem same_fine : ∀ {n : Nat} {d : D}, fine n d = true → ∃ o, ff_same n [d, d] = .ok (.bl true) o
  | 0, _, h => by cases h
  | n + 1, .lst xs, h => by
    obtain ⟨h1, h2⟩ := Bool.and_eq_true_iff.mp h
    exact same_seq (.inl rfl) (of_decide_eq_true h2) fun x hx => same_fine (List.all_eq_true.mp h1 x hx)
  | n + 1, .tup xs, h => by
    obtain ⟨h1, h2⟩ := Bool.and_eq_true_iff.mp h
    exact same_seq (.inr rfl) (of_decide_eq_true h2) fun x hx => same_fine (List.all_eq_true.mp h1 x hx)
  | n + 1, .non, _ => ⟨_, same_non⟩
  | n + 1, .bl b, _ => ⟨_, by rw [same_bl, decide_eq_true rfl]⟩
  | n + 1, .int b, _ => ⟨_, by rw [same_int, decide_eq_true rfl]⟩
  | n + 1, .str _, h => by cases h
  | n + 1, .dct _ _, h => by cases h
  | n + 1, .set _, h => by cases h
  | n + 1, .obj _ _, h => by cases h
  | n + 1, .exc _ _ _, h => by cases h
  | n + 1, .dki _ _, h => by cases h
  | n + 1, .ptup _, h => by cases h
  | n + 1, .scr _, h => by cases h
end
end Sm
set_option Elab.async false
set_option linter.all false
set_option maxRecDepth 100000
set_option maxHeartbeats 400000
namespace Sm
open PySem PySem.Spec PyProof.Rows L2
section
variable {τ S S0 : List Sl} {t : Sl} {d : D} {i : Nat} {g : MG} {b : MS} {ds : List D} {ml mh : M (Option Int)}
theorem loop_inv (I : List Sl → Prop) (hs : ∀ d ∈ ds, ∀ S, I S → ∃ τ1 τ2, g d S = some τ1 ∧ b τ1 = .nx τ2 ∧ I τ2) : ∀ S, I S → ∃ S', mLoop g b ds S = .nx S' ∧ I S' := by
  induction ds with
  | nil => exact fun S h => ⟨S, rfl, h⟩
  | cons x xs ih =>
    intro S h
    obtain ⟨τ1, τ2, e1, e2, h2⟩ := hs x List.mem_cons_self S h
    obtain ⟨S', e3, h3⟩ := ih (fun d hd => hs d (List.mem_cons_of_mem _ hd)) τ2 h2
    refine ⟨S', ?_, h3⟩
    unfold mLoop
    rw [e1]
    show (match b τ1 with | .nx τ => mLoop g b xs τ | .ct τ => mLoop g b xs τ | .bk τ => .nx τ | r => r) = _
    rw [e2]
    exact e3
@[simp] theorem ev_slP : mSlP i ml mh (t :: τ) = match peek i (t :: τ) with | none => .fail | some _ => (ml (t :: τ)).bind fun l => fun τ => (mh τ).bind fun h => fun τ => Res.lift ((peek i τ).bind (dSl l h)) τ := rfl
@[simp] theorem sl_scr {xs : List D} {lo hi : Option Int} : dSl lo hi (.scr xs) = some (.lst (cutD xs lo hi)) := rfl
@[simp] theorem sl_lst {xs : List D} {lo hi : Option Int} : dSl lo hi (.lst xs) = some (.lst (cutD xs lo hi)) := rfl
@[simp] theorem nList_lst {xs : List D} : nList [.lst xs] = some xs := rfl
@[simp] theorem asI_int2 {a : Int} : asI (.int a) = some a := rfl
@[simp] theorem tru_lst {xs : List D} : truD (.lst xs) = some (!xs.isEmpty) := rfl
@[simp] theorem enum2_lst {xs : List D} : enum2 [.lst xs] = some (enumD 0 xs) := rfl
theorem cutD_map {ns : List Int} {lo hi : Option Int} : cutD (ns.map .int) lo hi = ((ns.drop (HT.sIx ns.length 0 lo)).take (HT.sIx ns.length ns.length hi - HT.sIx ns.length 0 lo)).map .int := by
  unfold cutD
  rw [List.length_map, List.map_take, List.map_drop]
theorem enumD_mem {d : D} : ∀ {xs : List Int} {k : Int}, d ∈ enumD k (xs.map .int) → ∃ j v : Int, d = .tup [.int j, .int v] ∧ k ≤ j ∧ j < k + xs.length
  | [], k, h => by cases h
  | x :: xs, k, h => by
    rcases List.mem_cons.mp h with rfl | h
    · exact ⟨k, x, rfl, Int.le_refl _, by rw [List.length_cons]; omega⟩
    · obtain ⟨j, v, e, h1, h2⟩ := enumD_mem (xs := xs) (k := k + 1) h
      exact ⟨j, v, e, by omega, by rw [List.length_cons]; omega⟩
def CellI (ns : List Int) (top n : Nat) (S : List Sl) : Prop := ∃ (cs : List Int) (x3 x4 x5 : Sl), S = [.fz (.scr (ns.map .int)), .fz (.int (top : Nat)), .ow (.lst (cs.map .int)), x3, x4, x5] ∧ cs.length = n ∧ x3.free = true ∧ x4.free = true ∧ x5.free = true
theorem cells_ok {top : Nat} (ht : 1 ≤ top) (ht2 : top < 60) (ns : List Int) (hn : ns.length ≤ 63) : ∃ cs o, f_cells [.scr (ns.map .int), .int (top : Nat)] = .ok (.lst (cs.map .int)) o ∧ cs ≠ [] ∧ cs.length ≤ top := by
  have ef : cutD (ns.map .int) none (some ((top : Nat) : Int)) = (ns.take top).map .int := by
    rw [cutD_map, HT.sIx_none, HT.sIx_nat, List.drop_zero, Nat.sub_zero]
    congr 1
    rw [← List.take_eq_take_min]
  obtain ⟨es, eb, hl, hne⟩ : ∃ es : List Int, cutD (ns.map .int) (some ((top : Nat) : Int)) (some 63) = es.map .int ∧ es.length ≤ 63 ∧ (es ≠ [] → top < ns.length) := by
    refine ⟨_, cutD_map, ?_, fun h => ?_⟩
    · rw [List.length_take, List.length_drop]; omega
    · rw [HT.sIx_nat] at h
      by_cases q : top < ns.length
      · exact q
      · exfalso
        apply h
        rw [show min top ns.length = ns.length by omega, List.drop_length, List.take_nil]
  generalize hc : (if (ns.take top).isEmpty = true then [0] else ns.take top) = c0
  have c1 : c0 ≠ [] ∧ c0.length ≤ top ∧ (top < ns.length → c0.length = top) := by
    cases hq : ns.take top with
    | nil =>
      rw [hq] at hc
      have : c0 = [0] := hc.symm
      subst this
      refine ⟨by simp, by simpa using ht, fun h => ?_⟩
      have := congrArg List.length hq
      rw [List.length_take, List.length_nil] at this
      omega
    | cons x r =>
      rw [hq] at hc
      have e : c0 = ns.take top := by rw [hq]; exact hc.symm
      subst e
      refine ⟨by rw [hq]; simp, by rw [List.length_take]; omega, fun h => by rw [List.length_take]; omega⟩
  have first : ∀ x : List Sl, (mSetO 2 (mOrV (mFnF nList (mCons (mSlP 0 oNone (oSome (mVar 1))) mNil)) (mLst (mCons (mC (.int 0)) mNil)))) [.fz (.scr (ns.map .int)), .fz (.int (top : Nat)), .un, .un, .un, .un]
      = .nx [.fz (.scr (ns.map .int)), .fz (.int (top : Nat)), .ow (.lst (c0.map .int)), .un, .un, .un] := fun _ => by
    cases hq : ns.take top with
    | nil =>
      rw [hq] at hc
      have : c0 = [0] := hc.symm
      subst this
      simp [ef, hq, small]
    | cons x r =>
      rw [hq] at hc
      have e : c0 = x :: r := hc.symm
      subst e
      simp [ef, hq, small]
  have loop : ∃ (S' : List Sl) (cs : List Int), mLoop (gT 2 (Sm.gCons (gN 3) (Sm.gCons (gN 4) Sm.gNil))) (mSeq (mSet 5 (mOp dMod (mFn dInt (mCons (mVar 3) mNil)) (mVar 1))) (mAsg (gIx 2 (mVar 5)) (mOp dAdd (mPk 2 dIx (mVar 5)) (mOp dMul (mVar 4) (mOp dAdd (mVar 3) (mC (.int 2)))))))
      (enumD 0 (es.map .int)) [.fz (.scr (ns.map .int)), .fz (.int (top : Nat)), .ow (.lst (c0.map .int)), .un, .un, .un] = .nx S' ∧ (∃ x3 x4 x5 : Sl, S' = [.fz (.scr (ns.map .int)), .fz (.int (top : Nat)), .ow (.lst (cs.map .int)), x3, x4, x5]) ∧ cs.length = c0.length := by
    have step : ∀ d ∈ enumD 0 (es.map .int), ∀ S, CellI ns top c0.length S → ∃ τ1 τ2, (gT 2 (Sm.gCons (gN 3) (Sm.gCons (gN 4) Sm.gNil))) d S = some τ1 ∧ (mSeq (mSet 5 (mOp dMod (mFn dInt (mCons (mVar 3) mNil)) (mVar 1))) (mAsg (gIx 2 (mVar 5)) (mOp dAdd (mPk 2 dIx (mVar 5)) (mOp dMul (mVar 4) (mOp dAdd (mVar 3) (mC (.int 2))))))) τ1 = .nx τ2 ∧ CellI ns top c0.length τ2 := by
      rintro d hd S ⟨cs, x3, x4, x5, hS, hcs, f3, f4, f5⟩
      subst hS
      obtain ⟨j, v, rfl, hj0, hj1⟩ := enumD_mem hd
      have big : top < ns.length := hne fun z => by subst z; cases hd
      have len : cs.length = top := by rw [hcs]; exact c1.2.2 big
      have tp : (0 : Int) < (top : Nat) := by omega
      obtain ⟨a, ha, ha2⟩ : ∃ a : Nat, j % (top : Nat) = (a : Nat) ∧ a < top := by
        have h1 := Int.emod_nonneg j (show ((top : Nat) : Int) ≠ 0 by omega)
        have h2 := Int.emod_lt_of_pos j tp
        exact ⟨(j % (top : Nat)).toNat, by omega, by omega⟩
      have at1 : L2.atI (cs.map D.int) ((a : Nat) : Int) = some (.int (cs[a]'(by omega))) := atI_nat (by rw [List.getElem?_map, List.getElem?_eq_getElem (by omega)]; rfl)
      have m1 : mulOk v (j + 2) = true := mulOk_r (by omega)
      have st : ∀ w : Int, fSet ((a : Nat) : Int) (.int w) (cs.map D.int) = some ((cs.set a w).map D.int) := fun w => by
        have e : ixN (cs.map D.int).length ((a : Nat) : Int) = some a := by
          unfold ixN
          rw [List.length_map, if_pos (by omega), if_pos (by omega)]; simp
        unfold fSet
        rw [e, List.map_set]; rfl
      have g1 : gT 2 (Sm.gCons (gN 3) (Sm.gCons (gN 4) Sm.gNil)) (.tup [.int j, .int v]) [.fz (.scr (ns.map .int)), .fz (.int (top : Nat)), .ow (.lst (cs.map .int)), x3, x4, x5] = some [.fz (.scr (ns.map .int)), .fz (.int (top : Nat)), .ow (.lst (cs.map .int)), .fz (.int j), .fz (.int v), x5] := by
        simp [f3, f4]
      refine ⟨_, [.fz (.scr (ns.map .int)), .fz (.int (top : Nat)), .ow (.lst ((cs.set a ((cs[a]'(by omega)) + v * (j + 2))).map .int)), .fz (.int j), .fz (.int v), .fz (.int (a : Nat))], g1, ?_, cs.set a ((cs[a]'(by omega)) + v * (j + 2)), _, _, _, rfl, by rw [List.length_set]; exact hcs, rfl, rfl, rfl⟩
      have tp' : 0 < top := ht
      simp [f5, tp', ha, at1, m1, st]
    obtain ⟨S', e, cs, x3, x4, x5, h1, h2, _⟩ := loop_inv (CellI ns top c0.length) step _ ⟨c0, .un, .un, .un, rfl, rfl, rfl, rfl, rfl⟩
    exact ⟨S', cs, e, ⟨x3, x4, x5, h1⟩, h2⟩
  obtain ⟨S', cs, e2, ⟨x3, x4, x5, rfl⟩, hcs⟩ := loop
  refine ⟨cs, outD 0 [false, false] [.fz (.scr (ns.map .int)), .fz (.int (top : Nat)), .fz (.lst (cs.map .int)), x3, x4, x5], ?_, fun z => ?_, by rw [hcs]; exact c1.2.1⟩
  · have f1 := first []
    simp [f_cells, mkF, b_cells, argS, -ev_setO, f1, eb, e2]
  · subst z
    exact c1.1 (List.length_eq_zero_iff.mp hcs.symm)
end
end Sm
set_option Elab.async false
set_option linter.all false
set_option maxRecDepth 100000
set_option maxHeartbeats 400000
namespace Sm
open PySem PySem.Spec PyProof.Rows L2
def b_stay : MS := (mSeq (mSet 2 (mLst (mCons (mCall [true, false] f_take 2 0 [0, 1] [] (aIo 0 (aV (mVar 1) aNil)) mNil) (mCons (mCall [true, false] f_take 2 0 [0, 1] [] (aIo 0 (aV (mVar 1) aNil)) mNil) mNil))))
    (mRet (mTup (mCons (mFn dMin1 (mCons (mVar 2) mNil)) (mCons (mFn dMax1 (mCons (mVar 2) mNil)) mNil)))))
def f_stay : List D → RF := mkF 3 [true, false] b_stay
theorem draw_ok {k n : Int} {d : D} {τ : List Sl} {i j : Nat} {mn : M D} (h : Box k d) (hk : 1 ≤ k) (hn : 0 < n) (hn2 : n < 2 ^ 62) (hi : τ[i]? = some (.io j d) ∨ τ[i]? = some (.ow d)) (hm : mn τ = .ok (.int n) τ) :
    ∃ r d', 0 ≤ r ∧ r < n ∧ Box (k - 1) d' ∧ mCall [true, false] f_take 2 0 [0, 1] [] (aIo i (aV mn aNil)) mNil τ = .ok (.int r) (give τ i (some d')) := by
  obtain ⟨r, d', e, h1, h2, h3⟩ := take_ok h hk hn hn2
  refine ⟨r, d', h1, h2, h3, ?_⟩
  have e1 : ownD τ[i]? = some d := by rcases hi with q | q <;> rw [q] <;> rfl
  have c : callR [true, false] f_take [.io i, .v (.int n)] τ = .ok (.int r) (give τ i (some d')) := by
    rcases hi with q | q
    · rw [call_io_v q rfl, e]; rfl
    · rw [call_io_v q rfl, e]; rfl
  have s : aIo i (aV mn aNil) τ = .ok [.io i, .v (.int n)] τ := by
    unfold aIo
    rw [e1]
    show ((mn τ).bind _).bind _ = _
    rw [hm]; rfl
  show ((aIo i (aV mn aNil) τ).bind _) = _
  rw [s]
  exact c
theorem stay_ok {k n : Int} {d : D} (h : Box k d) (hk : 2 ≤ k) (hn : 0 < n) (hn2 : n < 2 ^ 62) : ∃ a b d', f_stay [d, .int n] = .ok (.tup [.int a, .int b]) [some d', none] ∧ 0 ≤ a ∧ a ≤ b ∧ b < n ∧ Box (k - 2) d' := by
  obtain ⟨r1, d1, p1, p2, h1, e1⟩ := draw_ok (τ := [.io 0 d, .fz (.int n), .un]) (i := 0) (j := 0) (mn := mVar 1) h (by omega) hn hn2 (.inl rfl) rfl
  obtain ⟨r2, d2, q1, q2, h2, e2⟩ := draw_ok (τ := [.io 0 d1, .fz (.int n), .un]) (i := 0) (j := 0) (mn := mVar 1) h1 (by omega) hn hn2 (.inl rfl) rfl
  have g1 : give [.io 0 d, .fz (.int n), .un] 0 (some d1) = [.io 0 d1, .fz (.int n), .un] := rfl
  have g2 : give [.io 0 d1, .fz (.int n), .un] 0 (some d2) = [.io 0 d2, .fz (.int n), .un] := rfl
  rw [g1] at e1
  rw [g2] at e2
  have mn : dMin1 [.lst [.int r1, .int r2]] = some (.int (if r2 < r1 then r2 else r1)) := rfl
  have mx : dMax1 [.lst [.int r1, .int r2]] = some (.int (if r2 > r1 then r2 else r1)) := rfl
  refine ⟨if r2 < r1 then r2 else r1, if r2 > r1 then r2 else r1, d2, ?_, by split <;> omega, by split <;> split <;> omega, by split <;> omega, h2.le (by omega)⟩
  simp [f_stay, mkF, b_stay, argS, -ev_call, e1, e2, small, mn, mx, outD, outE]
end Sm
set_option Elab.async false
set_option linter.all false
set_option maxRecDepth 100000
set_option maxHeartbeats 400000
namespace Sm
open PySem PySem.Spec PyProof.Rows L2
section
variable {S S0 : List Sl} {g : MG} {tt : M Bool} {m : M D} {vs : List Nat} {mi : M (List D)}
theorem lcA_go {α : Type} {f : α → D} {p : α → Bool} {y : α → D} : ∀ {xs : List α}, (∀ x ∈ xs, ∃ τ1 τ2, g (f x) S = some τ1 ∧ tt τ1 = .ok (p x) τ2 ∧ (p x = false → Sm.wipeS τ2 vs = S) ∧ (p x = true → ∃ τ3, m τ2 = .ok (y x) τ3 ∧ Sm.wipeS τ3 vs = S)) →
    mLcGo g tt m vs (xs.map f) S = .ok ((xs.filter p).map y) S
  | [], _ => rfl
  | x :: xs, h => by
    obtain ⟨τ1, τ2, e1, e2, h3, h4⟩ := h x List.mem_cons_self
    have ih' := lcA_go (xs := xs) fun d hd => h d (List.mem_cons_of_mem _ hd)
    rw [List.map_cons]
    unfold mLcGo
    rw [e1]
    show ((tt τ1).nox.bind _) = _
    rw [e2]
    show (if p x = true then _ else _) = _
    by_cases hp : p x = true
    · obtain ⟨τ3, e3, e4⟩ := h4 hp
      rw [if_pos hp, e3]
      show ((mLcGo g tt m vs (xs.map f) (Sm.wipeS τ3 vs)).bind _) = _
      rw [e4, ih', List.filter_cons_of_pos hp]
      rfl
    · have hp' : p x = false := by simpa using hp
      rw [if_neg hp, h3 hp', ih', List.filter_cons_of_neg hp]
theorem lcA_ok {α : Type} {f : α → D} (p : α → Bool) (y : α → D) {xs : List α} (h1 : mi S0 = .ok (xs.map f) S) (hz : xs.length ≤ 16000000) (hu : allUn S vs = true)
    (h : ∀ x ∈ xs, ∃ τ1 τ2, g (f x) S = some τ1 ∧ tt τ1 = .ok (p x) τ2 ∧ (p x = false → Sm.wipeS τ2 vs = S) ∧ (p x = true → ∃ τ3, m τ2 = .ok (y x) τ3 ∧ Sm.wipeS τ3 vs = S)) :
    mLc mi g tt m vs S0 = .ok (.lst ((xs.filter p).map y)) S := by
  show (mi S0).bind _ = _
  rw [h1]
  show lcEnd g tt m vs (xs.map f) S = _
  unfold lcEnd
  rw [if_pos ⟨by rw [List.length_map]; exact hz, hu⟩, lcA_go h]
  rfl
theorem lcA_map {α : Type} {f : α → D} (y : α → D) {xs : List α} (h1 : mi S0 = .ok (xs.map f) S) (hz : xs.length ≤ 16000000) (hu : allUn S vs = true)
    (h : ∀ x ∈ xs, ∃ τ1 τ2 τ3, g (f x) S = some τ1 ∧ tt τ1 = .ok true τ2 ∧ m τ2 = .ok (y x) τ3 ∧ Sm.wipeS τ3 vs = S) :
    mLc mi g tt m vs S0 = .ok (.lst (xs.map y)) S := by
  have q := lcA_ok (fun _ => true) y (m := m) h1 hz hu fun d hd => let ⟨τ1, τ2, τ3, e1, e2, e3, e4⟩ := h d hd; ⟨τ1, τ2, e1, e2, fun z => (by cases z), fun _ => ⟨τ3, e3, e4⟩⟩
  rw [q, List.filter_eq_self.mpr fun _ _ => rfl]
theorem bools_of {α : Type} {y : α → Bool} : ∀ xs : List α, bools (xs.map fun x => .bl (y x)) = some (xs.map y)
  | [] => rfl
  | x :: xs => by
    show (bools (xs.map fun x => .bl (y x))).map (y x :: ·) = _
    rw [bools_of xs]; rfl
theorem all_of {α : Type} {y : α → Bool} (xs : List α) : dAll [.lst (xs.map fun x => .bl (y x))] = some (.bl (xs.all y)) := by
  show (bools (xs.map fun x => D.bl (y x))).map _ = _
  rw [bools_of xs]
  show some (D.bl _) = _
  rw [List.all_map]; rfl
@[simp] theorem asS_lst2 {xs : List D} : asS (.lst xs) = some xs := rfl
@[simp] theorem asS_tup2 {xs : List D} : asS (.tup xs) = some xs := rfl
end
end Sm
set_option Elab.async false
set_option linter.all false
set_option maxRecDepth 100000
set_option maxHeartbeats 400000
namespace Sm
open PySem PySem.Spec PyProof.Rows L2
theorem pys_ints : ∀ xs : List Int, D.pys (xs.map .int) = some (xs.map PyData.int)
  | [] => rfl
  | x :: xs => by
    show (D.pys (xs.map .int)).map (PyData.int x :: ·) = _
    rw [pys_ints xs]; rfl
theorem canLay_ints : ∀ xs : List Int, PyData.canLayAll0 (xs.map PyData.int) = true
  | [] => rfl
  | x :: xs => by
    show (PyData.canLay0 (.int x) && PyData.canLayAll0 (xs.map PyData.int)) = true
    rw [canLay_ints xs]; rfl
theorem depth_ints : ∀ xs : List Int, PyData.depthAll (xs.map PyData.int) = 0
  | [] => rfl
  | x :: xs => by
    show max (PyData.depth (.int x)) (PyData.depthAll (xs.map PyData.int)) = 0
    rw [depth_ints xs]; rfl
theorem shaped_ints (xs : List Int) : SeqAt.shaped (.list (xs.map PyData.int)) = true := by
  show (PyData.canLayAll0 (xs.map PyData.int) && decide (PyData.depthAll (xs.map PyData.int) + 1 ≤ 64)) = true
  rw [canLay_ints, depth_ints]; rfl
theorem eqv_ints : ∀ xs ys : List Int, PyData.eqvAll (xs.map .int) (ys.map .int) = decide (xs = ys)
  | [], [] => rfl
  | [], y :: ys => rfl
  | x :: xs, [] => rfl
  | x :: xs, y :: ys => by
    show ((x == y) && PyData.eqvAll (xs.map .int) (ys.map .int)) = _
    rw [eqv_ints xs ys]
    by_cases h : x = y
    · subst h; simp
    · simp [h]
theorem eqD_ints (xs ys : List Int) : eqD (.lst (xs.map .int)) (.lst (ys.map .int)) = some (decide (xs = ys)) := by
  show (match ((D.pys (xs.map .int)).map PyData.list), ((D.pys (ys.map .int)).map PyData.list) with | some p, some q => _ | _, _ => none) = _
  rw [pys_ints, pys_ints]
  show (if SeqAt.shaped (.list (xs.map PyData.int)) = true ∧ SeqAt.shaped (.list (ys.map PyData.int)) = true then some (PyData.eqvAll (xs.map .int) (ys.map .int)) else none) = _
  rw [if_pos ⟨shaped_ints xs, shaped_ints ys⟩, eqv_ints]
@[simp] theorem eq_ints {xs ys : List Int} : dEq (.lst (xs.map .int)) (.lst (ys.map .int)) = some (.bl (decide (xs = ys))) := by unfold dEq; rw [eqD_ints]; rfl
@[simp] theorem ne_ints {xs ys : List Int} : dNe (.lst (xs.map .int)) (.lst (ys.map .int)) = some (.bl (!decide (xs = ys))) := by unfold dNe; rw [eqD_ints]; rfl
@[simp] theorem eq_nil {xs : List Int} : dEq (.lst (xs.map .int)) (.lst []) = some (.bl (decide (xs = []))) := eq_ints (ys := [])
@[simp] theorem ne_nil {xs : List Int} : dNe (.lst (xs.map .int)) (.lst []) = some (.bl (!decide (xs = []))) := ne_ints (ys := [])
theorem inD_ints (i : Int) (xs : List Int) : inD (.int i) (.lst (xs.map .int)) = some (decide (i ∈ xs)) := by
  show inDs (some (.int i)) (D.pys (xs.map .int)) = _
  rw [pys_ints]
  show (if SeqAt.shaped (.int i) = true ∧ SeqAt.shaped (.list (xs.map PyData.int)) = true then some ((xs.map PyData.int).any fun z => PyData.eqv z (.int i)) else none) = _
  rw [if_pos ⟨rfl, shaped_ints xs⟩]
  congr 1
  rw [List.any_map, Bool.eq_iff_iff, List.any_eq_true, decide_eq_true_iff]
  constructor
  · rintro ⟨x, hx, e⟩
    have e : (x == i) = true := e
    rw [← beq_iff_eq.mp e]; exact hx
  · exact fun h => ⟨i, h, show (i == i) = true from beq_self_eq_true i⟩
@[simp] theorem in_ints {i : Int} {xs : List Int} : dIn (.int i) (.lst (xs.map .int)) = some (.bl (decide (i ∈ xs))) := by unfold dIn; rw [inD_ints]; rfl
@[simp] theorem notIn_ints {i : Int} {xs : List Int} : dNotIn (.int i) (.lst (xs.map .int)) = some (.bl (!decide (i ∈ xs))) := by unfold dNotIn; rw [inD_ints]; rfl
end Sm
set_option Elab.async false
set_option linter.all false
set_option maxRecDepth 100000
set_option maxHeartbeats 400000
namespace Sm
open PySem PySem.Spec PyProof.Rows L2
section
variable {α β : Type} {c : Prop} [Decidable c] {a b : α} {τ S : List Sl} {x y : D}
@[simp] theorem mg_ok : (if c then Res.ok a τ else Res.ok b τ) = Res.ok (if c then a else b) τ := by split <;> rfl
@[simp] theorem mg_some : (if c then some a else some b) = some (if c then a else b) := by split <;> rfl
@[simp] theorem mg_bl {p q : Bool} : (if c then D.bl p else D.bl q) = D.bl (if c then p else q) := by split <;> rfl
@[simp] theorem mg_int {p q : Int} : (if c then D.int p else D.int q) = D.int (if c then p else q) := by split <;> rfl
@[simp] theorem mg_tup {p q : List D} : (if c then D.tup p else D.tup q) = D.tup (if c then p else q) := by split <;> rfl
@[simp] theorem mg_lst {p q : List D} : (if c then D.lst p else D.lst q) = D.lst (if c then p else q) := by split <;> rfl
@[simp] theorem mg_rt : (if c then SR.rt x τ else SR.rt y τ) = SR.rt (if c then x else y) τ := by split <;> rfl
@[simp] theorem mg_fin {o : List (Option D)} : (if c then RF.ok x o else RF.ok y o) = RF.ok (if c then x else y) o := by split <;> rfl
@[simp] theorem di_bind {r s : Res α} {f : α → M β} : (if c then r else s).bind f = if c then r.bind f else s.bind f := by split <;> rfl
@[simp] theorem di_st {r s : Res α} {f : α → MS} : (if c then r else s).st f = if c then r.st f else s.st f := by split <;> rfl
@[simp] theorem di_nox {r s : Res α} : (if c then r else s).nox = if c then r.nox else s.nox := by split <;> rfl
@[simp] theorem di_lift {r s : Option α} : Res.lift (if c then r else s) τ = if c then Res.lift r τ else Res.lift s τ := by split <;> rfl
@[simp] theorem di_then {r s : SR} {f : MS} : (if c then r else s).then f = if c then r.then f else s.then f := by split <;> rfl
@[simp] theorem di_obind {r s : Option α} {f : α → Option β} : (if c then r else s).bind f = if c then r.bind f else s.bind f := by split <;> rfl
@[simp] theorem di_omap {r s : Option α} {f : α → β} : (if c then r else s).map f = if c then r.map f else s.map f := by split <;> rfl
def fin (io : List Bool) : SR → RF
  | .nx τ => .ok .non (outD 0 io τ)
  | .rt d τ => .ok d (outD 0 io τ)
  | .ro d _ => if io.any id = true then .fail else .own d
  | .exc c xs τ => if io.any id = true then .exo c xs (outD 0 io τ) else .exc c xs
  | _ => .fail
theorem mkF_fin {n : Nat} {io : List Bool} {b : MS} {ds : List D} : mkF n io b ds = if ds.length = io.length then fin io (b (argS 0 io ds ++ List.replicate (n - io.length) .un)) else .fail := by
  unfold mkF
  split
  · generalize b (argS 0 io ds ++ List.replicate (n - io.length) .un) = r
    cases r <;> rfl
  · rfl
@[simp] theorem fin_nx {io : List Bool} : fin io (.nx τ) = .ok .non (outD 0 io τ) := rfl
@[simp] theorem fin_rt {io : List Bool} : fin io (.rt x τ) = .ok x (outD 0 io τ) := rfl
@[simp] theorem fin_ro {io : List Bool} : fin io (.ro x τ) = if io.any id = true then .fail else .own x := rfl
@[simp] theorem fin_exc {io : List Bool} {k : Nat} {xs : List D} : fin io (.exc k xs τ) = if io.any id = true then .exo k xs (outD 0 io τ) else .exc k xs := rfl
@[simp] theorem fin_fail {io : List Bool} : fin io .fail = .fail := rfl
@[simp] theorem di_fin {io : List Bool} {r s : SR} : fin io (if c then r else s) = if c then fin io r else fin io s := by split <;> rfl
@[simp] theorem di_callB {p : Option (Nat × Nat)} {r s : RF} : callB p (if c then r else s) τ = if c then callB p r τ else callB p s τ := by split <;> rfl
def optR (o : Option (List Sl)) : Res Unit :=
  match o with
  | some τ => .ok () τ
  | none => .fail
@[simp] theorem optR_some : optR (some τ) = .ok () τ := rfl
@[simp] theorem optR_none : optR none = .fail := rfl
@[simp] theorem di_optR {r s : Option (List Sl)} : optR (if c then r else s) = if c then optR r else optR s := by split <;> rfl
def lcOne (g : MG) (tt : M Bool) (m : M D) (vs : List Nat) (d : D) : M (Option D) := fun S =>
  (optR (g d S)).bind fun _ => fun τ => (tt τ).bind fun k => fun τ => if k = true then (m τ).bind fun y => fun τ => .ok (some y) (Sm.wipeS τ vs) else .ok none (Sm.wipeS τ vs)
@[simp] theorem ev_lcOne {g : MG} {tt : M Bool} {m : M D} {vs : List Nat} {d : D} {t : Sl} {τ : List Sl} : lcOne g tt m vs d (t :: τ) =
  (optR (g d (t :: τ))).bind fun _ => fun τ => (tt τ).bind fun k => fun τ => if k = true then (m τ).bind fun y => fun τ => .ok (some y) (Sm.wipeS τ vs) else .ok none (Sm.wipeS τ vs) := rfl
open Classical in
noncomputable def lcK (h : α → Res (Option D)) (xs : List α) (S : List Sl) (alt : Res D) : Res D :=
  if ∃ r : α → Option D, ∀ x ∈ xs, h x = .ok (r x) S then .ok (.lst (xs.filterMap fun x => match h x with | .ok o _ => o | _ => none)) S else alt
theorem lcK_of {h : α → Res (Option D)} {xs : List α} {S : List Sl} {alt : Res D} (r : α → Option D) (e : ∀ x ∈ xs, h x = .ok (r x) S) : lcK h xs S alt = .ok (.lst (xs.filterMap r)) S := by
  unfold lcK
  rw [if_pos ⟨r, e⟩]
  congr 2
  induction xs with
  | nil => rfl
  | cons x xs ih =>
    rw [List.filterMap_cons, List.filterMap_cons, e x List.mem_cons_self, ih fun z hz => e z (List.mem_cons_of_mem _ hz)]
@[simp] theorem lcK_ok {r : α → Option D} {xs : List α} {S : List Sl} {alt : Res D} : lcK (fun x => Res.ok (r x) S) xs S alt = .ok (.lst (xs.filterMap r)) S := lcK_of r fun _ _ => rfl
@[simp] theorem ev_lc {mi : M (List D)} {g : MG} {tt : M Bool} {m : M D} {vs : List Nat} {t : Sl} {τ : List Sl} : mLc mi g tt m vs (t :: τ) = (mi (t :: τ)).bind fun ds => lcEnd g tt m vs ds := rfl
@[simp] theorem fm_some {xs : List α} {y : α → β} : (xs.filterMap fun x => some (y x)) = xs.map y := by
  induction xs with
  | nil => rfl
  | cons x xs ih => rw [List.filterMap_cons, ih]; rfl
@[simp] theorem fm_if {xs : List α} {y : α → β} {p : α → Prop} [DecidablePred p] : (xs.filterMap fun x => if p x then some (y x) else none) = (xs.filter fun x => decide (p x)).map y := by
  induction xs with
  | nil => rfl
  | cons x xs ih =>
    rw [List.filterMap_cons, ih]
    by_cases h : p x
    · rw [if_pos h, List.filter_cons_of_pos (by simpa using h)]; rfl
    · rw [if_neg h, List.filter_cons_of_neg (by simpa using h)]
@[simp] theorem fm_ifn {xs : List α} {y : α → β} {p : α → Prop} [DecidablePred p] : (xs.filterMap fun x => if p x then none else some (y x)) = (xs.filter fun x => decide (¬ p x)).map y := by
  induction xs with
  | nil => rfl
  | cons x xs ih =>
    rw [List.filterMap_cons, ih]
    by_cases h : p x
    · rw [if_pos h, List.filter_cons_of_neg (by simpa using h)]
    · rw [if_neg h, List.filter_cons_of_pos (by simpa using h)]; rfl
@[simp] theorem wipe0 {τ : List Sl} : Sm.wipeS τ [] = τ := rfl
@[simp] theorem wipe1 {τ : List Sl} {v : Nat} {vs : List Nat} : Sm.wipeS τ (v :: vs) = (Sm.wipeS τ vs).set v .un := rfl
theorem small_of {xs : List D} (h : xs.length ≤ 16000000) : small xs = some xs := if_pos h
def iota (n : Int) : List Int := (List.range n.toNat).map fun i : Nat => (i : Int)
theorem rng1_of {n : Int} (h : n < 16000000) (h2 : -16000000 < n) : rng1 [.int n] = some ((iota n).map .int) := by
  have e : ∀ (k : Nat) (lo : Int), upFrom lo k = ((List.range k).map fun i : Nat => lo + (i : Int)).map D.int := by
    intro k
    induction k with
    | zero => intro lo; rfl
    | succ k ih =>
      intro lo
      show D.int lo :: upFrom (lo + 1) k = _
      rw [ih, List.range_succ_eq_map, List.map_cons, List.map_cons, List.map_map]
      congr 1
      · rw [show lo + ((0 : Nat) : Int) = lo by omega]
      · rw [List.map_map, List.map_map]
        apply List.map_congr_left
        intro i _
        show D.int (lo + 1 + i) = D.int (lo + ((i + 1 : Nat) : Int))
        rw [show lo + 1 + (i : Int) = lo + ((i + 1 : Nat) : Int) by omega]
  show (if n < 16000000 ∧ n.natAbs < 2 ^ 60 then some (upFrom 0 n.toNat) else none) = _
  rw [if_pos ⟨h, by omega⟩, e]
  unfold iota
  congr 2
  apply List.map_congr_left
  intro i _
  omega
theorem mem_iota {n i : Int} : i ∈ iota n ↔ 0 ≤ i ∧ i < n := by
  unfold iota
  rw [List.mem_map]
  constructor
  · rintro ⟨k, hk, rfl⟩
    rw [List.mem_range] at hk
    omega
  · intro ⟨h1, h2⟩
    exact ⟨i.toNat, by rw [List.mem_range]; omega, by omega⟩
theorem iota_len {n : Int} : (iota n).length = n.toNat := by
  unfold iota
  rw [List.length_map, List.length_range]
end
end Sm
set_option Elab.async false
set_option linter.all false
set_option maxRecDepth 100000
set_option maxHeartbeats 400000
namespace Sm
open PySem PySem.Spec PyProof.Rows L2
section
variable {α σ : Type} {g : MG} {tt : M Bool} {m : M D} {vs : List Nat} {f : α → D}
theorem lcOne_step {d : D} {S T : List Sl} {y : D} {ds : List D} (h : lcOne g tt m vs d S = .ok (some y) T) : mLcGo g tt m vs (d :: ds) S = (mLcGo g tt m vs ds T).bind fun ys => fun τ => .ok (y :: ys) τ := by
  unfold lcOne at h
  conv => lhs; unfold mLcGo
  cases hg : g d S with
  | none => rw [hg] at h; cases h
  | some τ1 =>
    rw [hg] at h
    replace h : ((tt τ1).bind fun k => fun τ => if k = true then (m τ).bind fun y => fun τ => .ok (some y) (Sm.wipeS τ vs) else .ok none (Sm.wipeS τ vs)) = _ := h
    show ((tt τ1).nox.bind _) = _
    cases ht : tt τ1 with
    | fail => rw [ht] at h; cases h
    | exc _ _ _ => rw [ht] at h; cases h
    | ok k τ2 =>
      rw [ht] at h
      replace h : (if k = true then (m τ2).bind fun y => fun τ => .ok (some y) (Sm.wipeS τ vs) else .ok none (Sm.wipeS τ2 vs)) = Res.ok (some y) T := h
      show (if k = true then (m τ2).nox.bind _ else mLcGo g tt m vs ds (Sm.wipeS τ2 vs)) = _
      cases k with
      | false => rw [if_neg (by decide)] at h; injection h with e1 e2; cases e1
      | true =>
        rw [if_pos rfl] at h ⊢
        cases hm : m τ2 with
        | fail => rw [hm] at h; cases h
        | exc _ _ _ => rw [hm] at h; cases h
        | ok z τ3 =>
          rw [hm] at h
          replace h : Res.ok (some z) (Sm.wipeS τ3 vs) = Res.ok (some y) T := h
          injection h with e1 e2
          injection e1 with e1
          show ((mLcGo g tt m vs ds (Sm.wipeS τ3 vs)).bind _) = _
          rw [e2, e1]
theorem lcI_go {S : σ → List Sl} {I : Nat → σ → Prop} {Y : D → Prop} : ∀ (xs : List α), (∀ x ∈ xs, ∀ n s, I (n + 1) s → ∃ y s', lcOne g tt m vs (f x) (S s) = .ok (some y) (S s') ∧ Y y ∧ I n s') →
    ∀ (k : Nat) s, I (k + xs.length) s → ∃ ys s', mLcGo g tt m vs (xs.map f) (S s) = .ok ys (S s') ∧ (∀ y ∈ ys, Y y) ∧ ys.length = xs.length ∧ I k s'
  | [], _, k, s, h => ⟨[], s, rfl, fun y hy => (by cases hy), rfl, h⟩
  | x :: xs, hs, k, s, h => by
    obtain ⟨y, s1, e1, y1, h1⟩ := hs x List.mem_cons_self (k + xs.length) s (by rw [List.length_cons] at h; exact h)
    obtain ⟨ys, s2, e2, y2, l2, h2⟩ := lcI_go xs (fun z hz => hs z (List.mem_cons_of_mem _ hz)) k s1 h1
    refine ⟨y :: ys, s2, ?_, fun z hz => ?_, by rw [List.length_cons, List.length_cons, l2], h2⟩
    · rw [List.map_cons, lcOne_step e1, e2]; rfl
    · rcases List.mem_cons.mp hz with rfl | hz
      · exact y1
      · exact y2 z hz
theorem lcI_end {S : σ → List Sl} {I : Nat → σ → Prop} {Y : D → Prop} (xs : List α) (hs : ∀ x ∈ xs, ∀ n s, I (n + 1) s → ∃ y s', lcOne g tt m vs (f x) (S s) = .ok (some y) (S s') ∧ Y y ∧ I n s')
    (k : Nat) (s : σ) (h : I (k + xs.length) s) (hz : xs.length ≤ 16000000) (hu : allUn (S s) vs = true) :
    ∃ ys s', lcEnd g tt m vs (xs.map f) (S s) = .ok (.lst ys) (S s') ∧ (∀ y ∈ ys, Y y) ∧ ys.length = xs.length ∧ I k s' := by
  obtain ⟨ys, s', e, h1, h2, h3⟩ := lcI_go xs hs k s h
  refine ⟨ys, s', ?_, h1, h2, h3⟩
  unfold lcEnd
  rw [if_pos ⟨by rw [List.length_map]; exact hz, hu⟩, e]
  rfl
theorem all_yes : ∀ {ys : List D}, (∀ y ∈ ys, y = .bl true) → dAll [.lst ys] = some (.bl true) := fun {ys} h => by
  have e : ys = ys.map fun _ => D.bl true := by
    conv => lhs; rw [← List.map_id ys]
    exact List.map_congr_left fun y hy => h y hy
  rw [e]
  exact all_true ys
@[simp] theorem io0 {fn : List D → RF} {a d : D} {j : Nat} {τ : List Sl} : callR [true, false] fn [.io 0, .v a] (.io j d :: τ) = callB (some (0, 0)) (fn [d, a]) (.io j d :: τ) := rfl
@[simp] theorem give0 {d e : D} {j : Nat} {τ : List Sl} : give (.io j e :: τ) 0 (some d) = .io j d :: τ := rfl
theorem loopI {g : MG} {b : MS} (I : List Sl → Prop) {xs : List α} (hs : ∀ x ∈ xs, ∀ S, I S → ∃ τ1 τ2, g (f x) S = some τ1 ∧ b τ1 = .nx τ2 ∧ I τ2) (S : List Sl) (h : I S) : ∃ S', mLoop g b (xs.map f) S = .nx S' ∧ I S' :=
  loop_inv (ds := xs.map f) I (fun d hd S hS => by
    obtain ⟨x, hx, rfl⟩ := List.mem_map.mp hd
    exact hs x hx S hS) S h
theorem ioc2 {fn : List D → RF} {d a v d' : D} {τ : List Sl} {i j : Nat} {mn : M D} (h : fn [d, a] = .ok v [some d', none]) (hi : τ[i]? = some (.io j d) ∨ τ[i]? = some (.ow d)) (hm : mn τ = .ok a τ) :
    mCall [true, false] fn 2 0 [0, 1] [] (aIo i (aV mn aNil)) mNil τ = .ok v (give τ i (some d')) := by
  have e1 : ownD τ[i]? = some d := by rcases hi with q | q <;> rw [q] <;> rfl
  have c : callR [true, false] fn [.io i, .v a] τ = .ok v (give τ i (some d')) := by
    rcases hi with q | q
    · rw [call_io_v q rfl, h]; rfl
    · rw [call_io_v q rfl, h]; rfl
  have s : aIo i (aV mn aNil) τ = .ok [.io i, .v a] τ := by
    unfold aIo
    rw [e1]
    show ((mn τ).bind _).bind _ = _
    rw [hm]; rfl
  show ((aIo i (aV mn aNil) τ).bind _) = _
  rw [s]
  exact c
@[simp] theorem pick0 : pick [] [] = [] := rfl
@[simp] theorem call_v0 {fn : List D → RF} {τ : List Sl} : callR [] fn [] τ = callB none (fn []) τ := rfl
@[simp] theorem io3 {fn : List D → RF} {d : D} {a b c : Sl} {τ : List Sl} : callR [true] fn [.io 3] (a :: b :: c :: .ow d :: τ) = callB (some (0, 3)) (fn [d]) (a :: b :: c :: .ow d :: τ) := rfl
theorem Box.noObo {k : Int} {d : D} (h : Box k d) : d.isObo = false := by obtain ⟨_, _, _, e, _⟩ := h; rw [e]; rfl
theorem give3 {d e : D} {a b c : Sl} {τ : List Sl} (hb : d.isObo = false) : give (a :: b :: c :: .ow e :: τ) 3 (some d) = a :: b :: c :: .ow d :: τ := if_neg (by rw [hb]; exact Bool.false_ne_true)
theorem ev_callF_v2 {fn : List D → RF} {a b d : D} {ma mb : M D} {τ : List Sl} (ha : ma τ = .ok a τ) (hb : mb τ = .ok b τ) (h : fn [a, b] = .own d) (hn : d.isObo = false := by rfl) : mCallF [false, false] fn 2 [0, 1] [] (aV ma (aV mb aNil)) τ = .ok d τ := by
  unfold mCallF aV aNil
  show ((ma τ).bind _).bind _ = _
  rw [ha]
  show (((mb τ).bind _).bind _).bind _ = _
  rw [hb]
  show (match fn [a, b] with | .own d => if d.isObo = true then Res.fail else Res.ok d τ | .exc c xs => .exc c xs τ | _ => .fail) = _
  rw [h]
  show (if d.isObo = true then Res.fail else Res.ok d τ) = _
  rw [hn]
  rfl
theorem yes_ok {r : RF} (h : r.yes = true) : ∃ o, r = .ok (.bl true) o := by
  cases r with
  | ok d o =>
    cases d with
    | bl b => cases b with
      | true => exact ⟨o, rfl⟩
      | false => cases h
    | _ => cases h
  | _ => cases h
def turnA (box right : List D → RF) (n : Int) : MS := (mSeq (mSetO 3 (mCallF [false, false] box 2 [0, 1] [] (aV (mVar 1) (aV (mVar 2) aNil))))
    (mIfS (mNot (mB (mFn dAll (mCons (mLc (mOns rng1 (mCons (mC (.int n)) mNil)) (gN 4) mYes (mCall [true] right 1 0 [0] [] (aIo 3 aNil) mNil) [4]) mNil)))) (mRet (mC (.bl false))) mNx))
def lawA (hand box right : List D → RF) (n : Int) : MS := mSeq (mIfS (mNot (mB (mCall [] hand 0 0 [] [] aNil mNil))) (mRet (mC (.bl false))) mNx)
  (mSeq (mSet 1 (mCall [false, false] f_cells 2 0 [0, 1] [] (aV (mVar 0) (aV (mC (.int 3)) aNil)) mNil))
  (mSeq (mFor (mOns rng1 (mCons (mFn dLen (mCons (mVar 1) mNil)) mNil)) (gN 2) (turnA box right n)) (mRet (mC (.bl true)))))
theorem lawA_true {hand right : List D → RF} {n c : Int} {w : Nat} (hc : 0 ≤ c) (hc2 : c < 1000000) (hn : 0 ≤ n) (hn2 : w * n.toNat ≤ 1000000) (hn3 : n < 16000000) (hh : (hand []).yes = true)
    (hr : ∀ (k : Nat) d, Box ((k + w : Nat) : Int) d → ∃ d', right [d] = .ok (.bl true) [some d'] ∧ Box (k : Nat) d') (ns : List Int) (h : ns.length ≤ 63) : (mkF 5 [false] (lawA hand (f_boxC c) right n) [.scr (ns.map .int)]).yes = true := by
  obtain ⟨cs, o, e1, ne, cl⟩ := cells_ok (top := 3) (by decide) (by decide) ns h
  have hc' : (((cs.map D.int).length : Nat) : Int) = (cs.length : Nat) := by rw [List.length_map]
  have hr1 : rng1 [.int (cs.length : Nat)] = some ((iota (cs.length : Nat)).map .int) := rng1_of (by omega) (by omega)
  have rn : rng1 [.int n] = some ((iota n).map .int) := rng1_of hn3 (by omega)
  have step : ∀ i ∈ iota (cs.length : Nat), ∀ S, (∃ x2 x3 : Sl, x2.free = true ∧ x3.free = true ∧ S = [.fz (.scr (ns.map .int)), .fz (.lst (cs.map .int)), x2, x3, .un]) → ∃ τ1 τ2, gN 2 (.int i) S = some τ1 ∧ turnA (f_boxC c) right n τ1 = .nx τ2 ∧ (∃ x2 x3 : Sl, x2.free = true ∧ x3.free = true ∧ τ2 = [.fz (.scr (ns.map .int)), .fz (.lst (cs.map .int)), x2, x3, .un]) := by
    rintro i hi S ⟨x2, x3, f2, f3, rfl⟩
    obtain ⟨i0, i1⟩ := mem_iota.mp hi
    obtain ⟨m, rfl⟩ : ∃ m : Nat, i = (m : Nat) := ⟨i.toNat, by omega⟩
    obtain ⟨d, b1, b2⟩ := box_ok (cs := cs) (k := m) hc hc2 (by omega) (by omega)
    have eb := ev_callF_v2 (ma := mVar 1) (mb := mVar 2) (τ := [.fz (.scr (ns.map .int)), .fz (.lst (cs.map .int)), .fz (.int (m : Nat)), x3, .un]) rfl rfl b1 b2.noObo
    obtain ⟨ys, d', e3, y3, _, _⟩ := lcI_end (g := gN 4) (tt := mYes) (m := mCall [true] right 1 0 [0] [] (aIo 3 aNil) mNil) (vs := [4]) (f := D.int) (S := fun d => [.fz (.scr (ns.map .int)), .fz (.lst (cs.map .int)), .fz (.int (m : Nat)), .ow d, .un]) (I := fun k d => Box ((w * k : Nat) : Int) d) (Y := fun y => y = .bl true) (iota n) (by
      intro x _ k s hB
      obtain ⟨s', q1, q2⟩ := hr (w * k) s (by rw [Nat.mul_succ] at hB; exact hB)
      exact ⟨_, s', by simp -implicitDefEqProofs [q1, give3 q2.noObo], rfl, q2⟩) 0 d (b2.le (by rw [Nat.zero_add, iota_len]; omega)) (by rw [iota_len]; omega) rfl
    refine ⟨[.fz (.scr (ns.map .int)), .fz (.lst (cs.map .int)), .fz (.int (m : Nat)), x3, .un], [.fz (.scr (ns.map .int)), .fz (.lst (cs.map .int)), .fz (.int (m : Nat)), .ow d', .un], by simp -implicitDefEqProofs [f2], ?_, _, _, rfl, rfl, rfl⟩
    simp -implicitDefEqProofs [turnA, eb, f3, rn, e3, all_yes y3]
  obtain ⟨S', e2, x2, x3, f2, f3, rfl⟩ := loopI _ step [.fz (.scr (ns.map .int)), .fz (.lst (cs.map .int)), .un, .un, .un] ⟨_, _, rfl, rfl, rfl⟩
  obtain ⟨oh, hand⟩ := yes_ok hh
  have e1' : f_cells [.scr (ns.map .int), .int 3] = .ok (.lst (cs.map .int)) o := e1
  rw [mkF_fin]
  simp -implicitDefEqProofs [argS, lawA, hand, e1', hr1, e2]
  rfl
end
end Sm
set_option Elab.async false
set_option linter.all false
set_option maxRecDepth 100000
set_option maxHeartbeats 400000
namespace Sm
open PySem PySem.Spec PyProof.Rows L2
abbrev ePr (p : Int × Int) : D := D.tup [D.int p.1, D.int p.2]
abbrev pPr (p : Int × Int) : PyData := .tuple [.int p.1, .int p.2]
def leP (p q : Int × Int) : Bool := decide (p.1 < q.1 ∨ (p.1 = q.1 ∧ p.2 ≤ q.2))
theorem maxI_some : ∀ (xs : List Int) (x : Int), ∃ m, maxI (x :: xs) = some m
  | [], x => ⟨x, rfl⟩
  | y :: ys, x => by
    obtain ⟨m, e⟩ := maxI_some ys y
    refine ⟨if m > x then m else x, ?_⟩
    show (maxI (y :: ys)).map _ = _
    rw [e]; rfl
theorem max_ints {xs : List Int} (h : xs ≠ []) : ∃ m ∈ xs, dMax1 [.lst (xs.map .int)] = some (.int m) ∧ ∀ y ∈ xs, y ≤ m := by
  have e : dMaxL [.lst (xs.map .int)] = (maxI xs).map .int := by
    show (intsD (xs.map .int)).bind _ = _
    rw [intsD_map]; rfl
  cases hm : maxI xs with
  | none => cases xs with
    | nil => exact absurd rfl h
    | cons x xs => obtain ⟨m, e2⟩ := maxI_some xs x; rw [e2] at hm; cases hm
  | some m =>
    obtain ⟨h1, h2⟩ := maxI_spec hm
    refine ⟨m, h1, ?_, h2⟩
    unfold dMax1
    rw [e, hm]; rfl
theorem minI_some : ∀ (xs : List Int) (x : Int), ∃ m, minI (x :: xs) = some m
  | [], x => ⟨x, rfl⟩
  | y :: ys, x => by
    obtain ⟨m, e⟩ := minI_some ys y
    refine ⟨if m < x then m else x, ?_⟩
    show (minI (y :: ys)).map _ = _
    rw [e]; rfl
theorem min_ints {xs : List Int} (h : xs ≠ []) : ∃ m ∈ xs, dMin1 [.lst (xs.map .int)] = some (.int m) ∧ ∀ y ∈ xs, m ≤ y := by
  have e : dMinL [.lst (xs.map .int)] = (minI xs).map .int := by
    show (intsD (xs.map .int)).bind _ = _
    rw [intsD_map]; rfl
  cases hm : minI xs with
  | none => cases xs with
    | nil => exact absurd rfl h
    | cons x xs => obtain ⟨m, e2⟩ := minI_some xs x; rw [e2] at hm; cases hm
  | some m =>
    obtain ⟨h1, h2⟩ := minI_spec hm
    refine ⟨m, h1, ?_, h2⟩
    unfold dMin1
    rw [e, hm]; rfl
theorem list_ints {Y : Int → Prop} : ∀ {ys : List D}, (∀ y ∈ ys, ∃ p : Int, y = .int p ∧ Y p) → ∃ ps : List Int, ys = ps.map .int ∧ ∀ p ∈ ps, Y p
  | [], _ => ⟨[], rfl, fun p h => (by cases h)⟩
  | y :: ys, h => by
    obtain ⟨p, rfl, hp⟩ := h y List.mem_cons_self
    obtain ⟨ps, rfl, h2⟩ := list_ints (ys := ys) fun z hz => h z (List.mem_cons_of_mem _ hz)
    refine ⟨p :: ps, rfl, fun q hq => ?_⟩
    rcases List.mem_cons.mp hq with rfl | hq
    · exact hp
    · exact h2 q hq
end Sm
set_option Elab.async false
set_option linter.all false
set_option maxRecDepth 100000
set_option maxHeartbeats 1000000
namespace Sm
open PySem PySem.Spec PySem.Calls PyProof.Rows L2
section
variable {prog : Program} {w : World} {A : Around} {E : Value → Shared → Prop} {s : Shared}
end
section
variable {X : Cx}
end
section
variable {L : Lay} {P : Pa} {W : WX} {X : Cx} {E : L2.St → XK} {pos : Pos}
theorem sE_gint {x : Str} {z : Int} {t : Tok} (hg : Gl X x) (hm : X.mg x = some (.int z t)) (hd : (x == ("__debug__" : Str)) = false := by decide): SE L P E X (.Name x pos) (mC (.int z)) :=
  PE.weak (pe_glob (v := .int z) hg hm ⟨t, rfl⟩ hd) fun σ H Q ⟨τ, R, h⟩ => h (.int z) H .refl R (Rp.int_iff.mpr rfl)
end
section
variable {L : Lay} {X : Cx}
def rInT (K : PySem.W.Frag) (neg : Bool) : R2 := fun x y H Q => ∃ d ds, Dp K H x d ∧ Dp K H y (.tuple ds) ∧ SeqAt.shaped d = true ∧ SeqAt.shaped (.list ds) = true ∧ Q (.bl (if neg = true then !(ds.any fun z => PyData.eqv z d) else ds.any fun z => PyData.eqv z d)) H
theorem op_inT (hu : X.A.units + 65 < cLine) : OpR X (compareOp .In) (rInT X.K false) := by
  intro pins s σ H x y v u Q I rx ry h
  obtain ⟨d, ds, hd, he, sd, se, q⟩ := h
  obtain ⟨as, r1⟩ := Dp.reads I d x v hd rx
  obtain ⟨bs, r2⟩ := Dp.reads I (.tuple ds) y u he ry
  exact SeqAt.in_tuple_reads r2 r1 (SeqAt.canLay_of_shaped se) (SeqAt.canLay_of_shaped sd) (room_in_shaped sd hu) ⟨.bl _, H, I, rfl, q⟩
theorem op_notInT (hu : X.A.units + 65 < cLine) : OpR X (compareOp .NotIn) (rInT X.K true) := by
  intro pins s σ H x y v u Q I rx ry h
  obtain ⟨d, ds, hd, he, sd, se, q⟩ := h
  obtain ⟨as, r1⟩ := Dp.reads I d x v hd rx
  obtain ⟨bs, r2⟩ := Dp.reads I (.tuple ds) y u he ry
  exact SeqAt.notIn_tuple_reads r2 r1 (SeqAt.canLay_of_shaped se) (SeqAt.canLay_of_shaped sd) (room_in_shaped sd hu) ⟨.bl _, H, I, rfl, q⟩
def dIn2 (a b : D) : Option D := match b with
  | .tup ys => dIn a (.lst ys)
  | b => dIn a b
def dNotIn2 (a b : D) : Option D := match b with
  | .tup ys => dNotIn a (.lst ys)
  | b => dNotIn a b
theorem inT_some {a : D} {ys : List D} {k : Bool} (h : inD a (.lst ys) = some k) : ∃ p ps, a.py = some p ∧ D.py (.tup ys) = some (.tuple ps) ∧ SeqAt.shaped p = true ∧ SeqAt.shaped (.list ps) = true ∧ k = ps.any fun z => PyData.eqv z p := by
  obtain ⟨ys', p, ps, e1, e2, e3, s1, s2, e4⟩ := inD_some h
  cases e1
  refine ⟨p, ps, e2, ?_, s1, s2, e4⟩
  unfold D.py at e3 ⊢
  obtain ⟨qs, e5, e6⟩ := Option.map_eq_some_iff.mp e3
  cases e6
  rw [e5]; rfl
theorem os_in2 : OpS L (fun x y H Q => rInD L.K x y H Q ∨ rInT L.K false x y H Q) dIn2 := by
  intro a b d x y H A Q e ra rb hA q
  cases b with
  | tup ys =>
    obtain ⟨k, e1, rfl⟩ := Option.map_eq_some_iff.mp (show (inD a (.lst ys)).map D.bl = some d from e)
    obtain ⟨p, ps, e2, e3, s1, s2, rfl⟩ := inT_some e1
    exact .inr ⟨p, ps, dp_bp hid_le ra e2, dp_bp hid_le rb e3, s1, s2, q _ H (.refl _) .mk_bl⟩
  | _ => exact .inl (os_in _ _ _ _ _ _ _ _ e ra rb hA q)
theorem os_notIn2 : OpS L (fun x y H Q => rNotInD L.K x y H Q ∨ rInT L.K true x y H Q) dNotIn2 := by
  intro a b d x y H A Q e ra rb hA q
  cases b with
  | tup ys =>
    obtain ⟨k, e1, rfl⟩ := Option.map_eq_some_iff.mp (show (inD a (.lst ys)).map (fun k => D.bl (!k)) = some d from e)
    obtain ⟨p, ps, e2, e3, s1, s2, rfl⟩ := inT_some e1
    exact .inr ⟨p, ps, dp_bp hid_le ra e2, dp_bp hid_le rb e3, s1, s2, q _ H (.refl _) .mk_bl⟩
  | _ => exact .inl (os_notIn _ _ _ _ _ _ _ _ e ra rb hA q)
theorem op_in2 (hu : X.A.units + 65 < cLine) : OpR X (compareOp .In) (fun x y H Q => rInD X.K x y H Q ∨ rInT X.K false x y H Q) := (op_inD hu).or (op_inT hu)
theorem op_notIn2 (hu : X.A.units + 65 < cLine) : OpR X (compareOp .NotIn) (fun x y H Q => rNotInD X.K x y H Q ∨ rInT X.K true x y H Q) := (op_notInD hu).or (op_notInT hu)
end
@[simp] theorem notIn2_ints {i : Int} {xs : List Int} : dNotIn2 (.int i) (.tup (xs.map .int)) = some (.bl (!decide (i ∈ xs))) := notIn_ints
@[simp] theorem in2_ints {i : Int} {xs : List Int} : dIn2 (.int i) (.tup (xs.map .int)) = some (.bl (decide (i ∈ xs))) := in_ints
end Sm
set_option Elab.async false
set_option linter.all false
set_option maxRecDepth 100000
set_option maxHeartbeats 1000000
namespace Sm
open PySem PySem.Spec PySem.Calls PyProof.Rows L2
structure LX (L : Lay) (X : Cx) : Prop where
  K : X.K = L.K
  P : X.prog = L.pr
  w : X.w = L.w
section
variable {L : Lay} {X : Cx} {pins : List (Addr × Obj)} {σ : L2.St} {H : Hp} {s : Shared}
mutual
theorem nk_is (hL : LX L X) (I : Inv X pins σ H s) {F : Hp} (sF : Same F H) : ∀ {d : D} {v : V} {k : NestedKey} {u : Value}, Rp L F d v → d.nk = some k → RelV v u → NestedIs s.heap k u
  | .non, _, _, _, r, e, rv => by rw [Rp.non_iff.mp r] at rv; cases e; cases (show _ = Value.none from rv); exact .none
  | .bl b, _, _, _, r, e, rv => by rw [Rp.bl_iff.mp r] at rv; cases e; cases (show _ = Value.bool b from rv); exact .bool rfl
  | .int i, _, _, _, r, e, rv => by rw [Rp.int_iff.mp r] at rv; cases e; obtain ⟨t, rfl⟩ := rv; exact .int i t
  | .str x, _, _, _, r, e, rv => by rw [Rp.str_iff.mp r] at rv; cases e; obtain ⟨t, rfl⟩ := rv; exact .text x t
  | .tup ds, _, _, _, r, e, rv => by
    obtain ⟨a, vs, rfl, q, rr⟩ := Rp.tup_iff.mp r
    cases (show _ = Value.ref a from rv)
    unfold D.nk at e
    obtain ⟨ks, e1, rfl⟩ := Option.map_eq_some_iff.mp e
    have q' : SqT X.K H a vs := by rw [hL.K]; exact SqT.same sF q
    obtain ⟨its, rv2, ht, _⟩ := I.tuple q'
    obtain ⟨o, ho, hc, n, hdat⟩ := ht
    exact .tup ho hc hdat (by simpa using nks_is hL I sF rr e1 rv2)
  | .lst _, _, _, _, _, e, _ => by unfold D.nk at e; cases e
  | .dct _ _, _, _, _, _, e, _ => by unfold D.nk at e; cases e
  | .set _, _, _, _, _, e, _ => by unfold D.nk at e; cases e
  | .obj _ _, _, _, _, _, e, _ => by unfold D.nk at e; cases e
  | .scr _, _, _, _, _, e, _ => by unfold D.nk at e; cases e
  | .exc _ _ _, _, _, _, _, e, _ => by unfold D.nk at e; cases e
  | .ins _ _ _, _, _, _, _, e, _ => by unfold D.nk at e; cases e
  | .dki _ _, _, _, _, _, e, _ => by unfold D.nk at e; cases e
  | .ptup _, _, _, _, _, e, _ => by unfold D.nk at e; cases e
theorem nks_is (hL : LX L X) (I : Inv X pins σ H s) {F : Hp} (sF : Same F H) : ∀ {ds : List D} {vs : List V} {ks : List NestedKey} {us : List Value}, Rps L F ds vs → D.nks ds = some ks → Vals vs us → NestedAll s.heap ks us
  | [], _, _, _, r, e, rv => by unfold Rps at r; subst r; unfold D.nks at e; cases e; cases rv; exact .nil
  | d :: ds, _, _, _, r, e, rv => by
    unfold Rps at r
    obtain ⟨v, vr, rfl, r1, r2⟩ := r
    unfold D.nks at e
    obtain ⟨k, e1, e2⟩ := Option.bind_eq_some_iff.mp e
    obtain ⟨ks, e3, rfl⟩ := Option.map_eq_some_iff.mp e2
    cases rv with
    | cons a b => exact .cons (nk_is hL I sF r1 e1 a) (nks_is hL I sF r2 e3 b)
end

def DK (L : Lay) (H : Hp) (a : Addr) (es : List Ent) : Prop := ∃ (F : Hp) (ks us : List D), Same F H ∧ DctAt L.pr L.w H a es ∧ DRel L F ks us es
def KK (L : Lay) (H : Hp) (b : Addr) (n : NestedKey) : Prop := ∃ (F : Hp) (kd : D), Same F H ∧ Rp L F kd (.ref b) ∧ kd.nk = some n ∧ n.depth ≤ 8
theorem KK.is (hL : LX L X) (I : Inv X pins σ H s) {b : Addr} {n : NestedKey} (h : KK L H b n) : (nestedKind X.prog X.w).is s.heap n b := by
  obtain ⟨F, kd, sF, r, e, hd⟩ := h
  exact ⟨nk_is hL I sF r e rfl, hd⟩
theorem keys_is (hL : LX L X) (I : Inv X pins σ H s) {F : Hp} (sF : Same F H) : ∀ {ks : List D} {es : List Ent} {xs : List (NestedKey × Addr × Value)}, Paired EntR es xs → D.nks ks = some (es.map (·.1)) → fewDeep es → Rps L F ks (es.map fun e => V.ref e.2.1) → ∀ x ∈ xs, (nestedKind X.prog X.w).is s.heap x.1 x.2.1
  | _, _, _, .nil, _, _, _ => fun x hx => (by cases hx)
  | [], _, _, .cons r t, e, _, _ => by cases e
  | d :: ds, _, _, .cons (l₁ := es) r t, e, hf, rr => fun x hx => by
    unfold Rps at rr
    obtain ⟨v, vr, ev, r1, r2⟩ := rr
    unfold D.nks at e
    obtain ⟨k, e1, e2⟩ := Option.bind_eq_some_iff.mp e
    obtain ⟨ks, e3, e4⟩ := Option.map_eq_some_iff.mp e2
    rw [List.map_cons] at e4 ev
    injection e4 with e5 e6
    injection ev with e7 e8
    subst e5 e6 e7 e8
    rcases List.mem_cons.mp hx with rfl | hx
    · refine ⟨?_, ?_⟩
      · rw [← r.1, ← r.2.1]
        exact nk_is hL I sF r1 e1 rfl
      · rw [← r.1]
        exact hf _ List.mem_cons_self
    · exact keys_is hL I sF t e3 (fun e he => hf e (List.mem_cons_of_mem _ he)) r2 x hx
theorem DK.at (hL : LX L X) (I : Inv X pins σ H s) {a : Addr} {es : List Ent} (h : DK L H a es) : ∃ xs, Paired EntR es xs ∧ s.heap.DictOfH (nestedKind X.prog X.w) a xs ∧ es.length ≤ sizeLine ∧ (a == sysModules) = false := by
  obtain ⟨F, ks, us, sF, ⟨_, ha⟩, r⟩ := h
  obtain ⟨⟨⟨o, ds, ep, xs, h1, h2, h3, h4, h5, h6, h7, h8⟩, _⟩, _⟩ := I.hok a _ ha
  rw [← hL.P, ← hL.w] at h4
  exact ⟨xs, h6, ⟨o, ds, ep, h1, h2, h3, h4, keys_is hL I sF h6 r.1 r.2.1 r.2.2.1, h5⟩, h7, h8⟩
end
section
variable {L : Lay} {X : Cx} {o e f : Expr} {apos cpos : Pos} {td ty tx : TE}
end
end Sm
set_option Elab.async false
set_option linter.all false
set_option maxRecDepth 100000
set_option maxHeartbeats 1000000
namespace Sm
open PySem PySem.Spec PySem.Calls PyProof.Rows L2
def keyD : D → Option NestedKey
  | .tup ds => ((D.tup ds).nk).bind fun n => if n.depth ≤ 8 then some n else none
  | _ => none
def isKey (k : D) (n : NestedKey) : Bool := match k.nk with
  | some m => NestedKey.beq m n
  | none => false
def setD : List D → List D → NestedKey → D → List D
  | k :: ks, u :: us, n, x => (if isKey k n = true then x else u) :: setD ks us n x
  | _, _, _, _ => []
section
variable {L : Lay}
theorem keyD_some {d : D} {n : NestedKey} (h : keyD d = some n) : ∃ ds, d = .tup ds ∧ d.nk = some n ∧ n.depth ≤ 8 := by
  unfold keyD at h
  split at h
  · obtain ⟨m, e1, e2⟩ := Option.bind_eq_some_iff.mp h
    split at e2
    · rename_i hz
      cases e2
      exact ⟨_, rfl, e1, hz⟩
    · cases e2
  · cases h
theorem isKey_of {k : D} {m n : NestedKey} (h : k.nk = some m) : isKey k n = decide (m = n) := by
  unfold isKey
  rw [h, NestedKey.decide_eq]
theorem DRel.cons_inv {F : Hp} {k u : D} {ks us : List D} {es : List Ent} (h : DRel L F (k :: ks) (u :: us) es) : ∃ e r, es = e :: r ∧ k.nk = some e.1 ∧ e.1.depth ≤ 8 ∧ Rp L F k (.ref e.2.1) ∧ Rp L F u e.2.2 ∧ DRel L F ks us r := by
  obtain ⟨h1, h2, h3, h4⟩ := h
  unfold D.nks at h1
  obtain ⟨n, e1, e2⟩ := Option.bind_eq_some_iff.mp h1
  obtain ⟨ns, e3, e4⟩ := Option.map_eq_some_iff.mp e2
  cases es with
  | nil => cases e4
  | cons e r =>
    rw [List.map_cons] at e4 h3 h4
    injection e4 with e5 e6
    subst e5 e6
    unfold Rps at h3 h4
    obtain ⟨v, vr, q1, r1, r2⟩ := h3
    obtain ⟨w, wr, q2, r3, r4⟩ := h4
    injection q1 with q1 q3
    injection q2 with q2 q4
    subst q1 q2 q3 q4
    exact ⟨e, r, rfl, e1, h2 e List.mem_cons_self, r1, r3, e3, fun x hx => h2 x (List.mem_cons_of_mem _ hx), r2, r4⟩
theorem DRel.nil_inv {F : Hp} {us : List D} {es : List Ent} (h : DRel L F [] us es) : es = [] ∧ us = [] := by
  obtain ⟨h1, _, _, h4⟩ := h
  have : es = [] := by
    cases es with
    | nil => rfl
    | cons e r => cases h1
  subst this
  refine ⟨rfl, ?_⟩
  cases us with
  | nil => rfl
  | cons u us => unfold Rps at h4; obtain ⟨v, r, e, _⟩ := h4; cases e
theorem DRel.len {F : Hp} : ∀ {ks us : List D} {es : List Ent}, DRel L F ks us es → es.length = ks.length ∧ us.length = ks.length
  | [], us, es, h => by obtain ⟨rfl, rfl⟩ := h.nil_inv; exact ⟨rfl, rfl⟩
  | k :: ks, [], es, h => by
    obtain ⟨h1, _, _, h4⟩ := h
    unfold Rps at h4
    have : es = [] := List.map_eq_nil_iff.mp h4
    subst this
    unfold D.nks at h1
    obtain ⟨n, e1, e2⟩ := Option.bind_eq_some_iff.mp h1
    obtain ⟨ns, e3, e4⟩ := Option.map_eq_some_iff.mp e2
    cases e4
  | k :: ks, u :: us, es, h => by
    obtain ⟨e, r, rfl, _, _, _, _, h2⟩ := h.cons_inv
    obtain ⟨a, b⟩ := DRel.len h2
    exact ⟨by rw [List.length_cons, List.length_cons, a], by rw [List.length_cons, List.length_cons, b]⟩
theorem DRel.cons {F : Hp} {k u : D} {ks us : List D} {e : Ent} {es : List Ent} (h1 : k.nk = some e.1) (h2 : e.1.depth ≤ 8) (h3 : Rp L F k (.ref e.2.1)) (h4 : Rp L F u e.2.2) (h : DRel L F ks us es) : DRel L F (k :: ks) (u :: us) (e :: es) := by
  obtain ⟨a, b, c, d⟩ := h
  refine ⟨?_, fun x hx => ?_, .cons h3 c, .cons h4 d⟩
  · unfold D.nks
    rw [h1, a]; rfl
  · rcases List.mem_cons.mp hx with rfl | hx
    · exact h2
    · exact b x hx
theorem DRel.nil {F : Hp} : DRel L F [] [] [] := ⟨rfl, fun e he => (by cases he), .nil, .nil⟩
theorem DRel.set {F : Hp} {n : NestedKey} {x : D} {v : V} (rx : Rp L F x v) : ∀ {ks us : List D} {es : List Ent}, DRel L F ks us es → DRel L F ks (setD ks us n x) (es.map fun e => if e.1 = n then (e.1, e.2.1, v) else e)
  | [], _, _, h => by obtain ⟨rfl, rfl⟩ := h.nil_inv; exact .nil
  | k :: ks, [], es, h => by have := h.len; cases this.2
  | k :: ks, u :: us, es, h => by
    obtain ⟨e, r, rfl, e1, h8, r1, r2, h2⟩ := h.cons_inv
    unfold setD
    rw [isKey_of e1, List.map_cons]
    by_cases hn : e.1 = n
    · rw [decide_eq_true hn, if_pos rfl, if_pos hn]
      exact .cons e1 h8 r1 rx (DRel.set rx h2)
    · rw [decide_eq_false hn, if_neg (by decide), if_neg hn]
      exact .cons e1 h8 r1 r2 (DRel.set rx h2)
end
end Sm
set_option Elab.async false
set_option linter.all false
set_option maxRecDepth 100000
set_option maxHeartbeats 1000000
namespace Sm
open PySem PySem.Spec PySem.Calls PyProof.Rows L2
section
variable {L : Lay} {X : Cx}
theorem Bp.dk {H : Hp} {A : Addr → Prop} {ks us : List D} {v : V} (h : Bp L (hid H A) H (.dct ks us) v) : ∃ a es, v = .ref a ∧ DK L H a es ∧ DRel L (hid H A) ks us es := by
  obtain ⟨a, es, rfl, ha, r⟩ := h.dct
  exact ⟨a, es, rfl, ⟨_, ks, us, hid_le, ha, r⟩, r⟩
theorem Bp.kk {H : Hp} {A : Addr → Prop} {k : D} {n : NestedKey} {v : V} (h : Bp L (hid H A) H k v) (e : keyD k = some n) : ∃ b, v = .ref b ∧ KK L H b n ∧ Rp L (hid H A) k (.ref b) ∧ k.nk = some n ∧ n.depth ≤ 8 := by
  obtain ⟨ds, rfl, e1, e2⟩ := keyD_some e
  have h' : Rp L (hid H A) (.tup ds) v := h
  obtain ⟨b, vs, rfl, _, _⟩ := Rp.tup_iff.mp h'
  exact ⟨b, rfl, ⟨_, .tup ds, hid_le, h', e1, e2⟩, h', e1, e2⟩
end
end Sm
set_option Elab.async false
set_option linter.all false
set_option maxRecDepth 100000
set_option maxHeartbeats 1000000
namespace Sm
open PySem PySem.Spec PySem.Calls PyProof.Rows L2
section
variable {L : Lay} {P : Pa} {W : WX} {X : Cx} {E : L2.St → XK} {pos : Pos} {e a b c : Expr} {m ma mb mc md mk mx : M D}
def Sl.chgD (f : List D → List D → Option (List D × List D)) : Sl → Option Sl
  | .ow (.dct ks us) => (f ks us).map fun n => .ow (.dct n.1 n.2)
  | .le (.dct ks us) => (f ks us).map fun n => .le (.dct n.1 n.2)
  | .io k (.dct ks us) => (f ks us).map fun n => .io k (.dct n.1 n.2)
  | _ => none
def chgD (i : Nat) (f : List D → List D → Option (List D × List D)) (τ : List Sl) : Option (List Sl) := (τ[i]?).bind fun t => (t.chgD f).map fun t' => τ.set i t'
theorem StR.chgD {H : Hp} {σ : L2.St} {τ τ' : List Sl} {i : Nat} {f : List D → List D → Option (List D × List D)} (R : StR L P H σ τ) (h : Sm.chgD i f τ = some τ') :
    ∃ a es ks us ns, σ[i]? = some (some (.ref a)) ∧ DctAt L.pr L.w H a es ∧ DRel L (hid H (Hd P σ τ)) ks us es ∧ f ks us = some ns ∧
      ∀ es' o, DRel L (hid H (Hd P σ τ)) ns.1 ns.2 es' → Tr H (Own σ τ) (upd H a (DctO L.pr L.w a es' o)) (Own σ τ') ∧ StR L P (upd H a (DctO L.pr L.w a es' o)) σ τ' := by
  obtain ⟨t, et, h⟩ := Option.bind_eq_some_iff.mp h
  obtain ⟨t', e', rfl⟩ := Option.map_eq_some_iff.mp h
  have q := R.sl i t et
  have keep : ∀ (a : Addr) (us : List Ent) (ob : Obj) (b : Addr) (o : HO), H b = some o → b ≠ a → upd H a (DctO L.pr L.w a us ob) b = some o := fun a us ob b o h n => by rw [upd_ne n]; exact h
  cases t with
  | ow d =>
    cases d with
    | dct ks us =>
      obtain ⟨ns, e, rfl⟩ := Option.map_eq_some_iff.mp e'
      obtain ⟨a, e1, es, hv, rr⟩ := q
      exact ⟨a, es, ks, us, ns, e1, hv, rr, e, fun es' ob ru => R.upd1 ⟨e1, _, et, rfl⟩ (keep a es' ob) ⟨_, upd_same⟩ (.inr ⟨rfl, fun tr => ⟨a, e1, es', .upd, ru.same (R.fz tr)⟩⟩)⟩
    | _ => cases e'
  | le d =>
    cases d with
    | dct ks us =>
      obtain ⟨ns, e, rfl⟩ := Option.map_eq_some_iff.mp e'
      obtain ⟨a, e1, es, hv, rr⟩ := q
      exact ⟨a, es, ks, us, ns, e1, hv, rr, e, fun es' ob ru => R.upd1 ⟨e1, _, et, rfl⟩ (keep a es' ob) ⟨_, upd_same⟩ (.inr ⟨rfl, fun tr => ⟨a, e1, es', .upd, ru.same (R.fz tr)⟩⟩)⟩
    | _ => cases e'
  | io k d =>
    cases d with
    | dct ks us =>
      obtain ⟨ns, e, rfl⟩ := Option.map_eq_some_iff.mp e'
      obtain ⟨a, e1, e2, q⟩ := q
      obtain ⟨es, hv, rr⟩ := q.list rfl
      exact ⟨a, es, ks, us, ns, e1, hv, rr, e, fun es' ob ru => R.upd1 ⟨e1, _, et, rfl⟩ (keep a es' ob) ⟨_, upd_same⟩ (.inr ⟨rfl, fun tr => ⟨a, e1, e2, .inl ⟨es', .upd, ru.same (R.fz tr)⟩⟩⟩)⟩
    | _ => cases e'
  | un => cases e'
  | fz d => cases e'
  | oo d => cases e'
def Res.keyO (r : Res D) (f : D → NestedKey → List Sl → Option (List Sl)) : Option (List Sl) :=
  match r with
  | .ok k τ => (keyD k).bind fun n => f k n τ
  | _ => none
@[simp] theorem Res.keyO_ok {k : D} {τ : List Sl} {f : D → NestedKey → List Sl → Option (List Sl)} : (Res.ok k τ).keyO f = (keyD k).bind fun n => f k n τ := rfl
end
end Sm
set_option Elab.async false
set_option linter.all false
set_option maxRecDepth 100000
set_option maxHeartbeats 1000000
namespace Sm
open PySem PySem.Spec PySem.Calls PyProof.Rows L2
section
variable {prog : Program} {w : World} {A : Around} {E : Value → Shared → Prop} {s : Shared}
theorem raw_of {h : Heap} {d : Addr} {K : Type} [DecidableEq K] {knd : HeapKind prog w K} {xs : List (K × Addr × Value)} (x : h.DictOfH knd d xs) : ∃ es ep, h.DictRaw d es ep ∧ es.toList = xs.map (entryOfKey knd) := by
  obtain ⟨o, es, ep, h1, h2, h3, h4, _⟩ := x
  exact ⟨es, ep, ⟨o, h1, h2, h3⟩, h4⟩
end
section
variable {L : Lay} {X : Cx} {o : Expr} {apos cpos : Pos} {td : TE}
end
section
variable {prog : Program} {w : World} {A : Around} {E : Value → Shared → Prop} {s : Shared} {r : Addr}
end
section
variable {prog : Program} {w : World} {A : Around} {E : Value → Shared → Prop} {s : Shared} {r : Addr}
end
section
variable {prog : Program} {w : World} {A : Around} {E : Value → Shared → Prop} {s : Shared} {r : Addr}
end
end Sm
set_option Elab.async false
set_option linter.all false
set_option maxRecDepth 100000
set_option maxHeartbeats 1000000
namespace Sm
open PySem PySem.Spec PySem.Calls PyProof.Rows L2
section
theorem paired_get {α β : Type} {R : α → β → Prop} : ∀ {l : List α} {m : List β} {j : Nat} {x : α}, Paired R l m → l[j]? = some x → ∃ y, m[j]? = some y ∧ R x y
  | _, _, _, _, .nil, h => by simp at h
  | _, _, 0, _, .cons r _, h => by simp at h; subst h; exact ⟨_, rfl, r⟩
  | _, _, j + 1, _, .cons _ t, h => by
    obtain ⟨y, h1, h2⟩ := paired_get (j := j) t (by simpa using h)
    exact ⟨y, by simpa using h1, h2⟩
variable {prog : Program} {w : World} {knd : HeapKind prog w NestedKey} {ds : Array DictEntry} {es : List Ent} {xs : List (NestedKey × Addr × Value)} {acc : Array Value}
theorem entry_get (he : ds.toList = xs.map (entryOfKey knd)) (rel : Paired EntR es xs) {i : Nat} (hi : i < ds.size) : ∃ e x, es[i]? = some e ∧ xs[i]? = some x ∧ EntR e x ∧ ds[i].key = .ref e.2.1 ∧ ds[i].val = x.2.2 := by
  have l1 : ds.size = xs.length := size_of_entries he
  have l2 : es.length = xs.length := Paired.length rel
  have g1 : es[i]? = some es[i] := List.getElem?_eq_getElem (by omega)
  obtain ⟨x, g2, r⟩ := paired_get rel g1
  have q := entry_at he i
  rw [Array.getElem?_eq_getElem hi, g2] at q
  have q : ds[i] = entryOfKey knd x := Option.some.inj q
  refine ⟨es[i], x, g1, g2, r, ?_, ?_⟩
  · rw [q, r.2.1]; rfl
  · rw [q]; rfl
theorem acc_keys (he : ds.toList = xs.map (entryOfKey knd)) (rel : Paired EntR es xs) (it : ItemsOf (fun i v => ∃ hi : i < ds.size, v = ds[i].key) acc ds.size) : acc.toList = es.map fun e => Value.ref e.2.1 := by
  have l1 : ds.size = xs.length := size_of_entries he
  have l2 : es.length = xs.length := Paired.length rel
  have hl : acc.toList.length = es.length := by rw [Array.length_toList, it.1]; omega
  apply List.ext_getElem?
  intro j
  rw [List.getElem?_map]
  cases hj : acc.toList[j]? with
  | none =>
    have h1 := List.getElem?_eq_none_iff.mp hj
    rw [List.getElem?_eq_none (by omega)]; rfl
  | some v =>
    obtain ⟨hi, hv⟩ := it.2 j v (by rw [← Array.getElem?_toList]; exact hj)
    obtain ⟨e, x, g1, _, _, q, _⟩ := entry_get he rel hi
    rw [g1, hv, q]; rfl
end
section
variable {L : Lay} {X : Cx}
abbrev keysV (es : List Ent) : List V := es.map fun e => V.ref e.2.1
theorem vals_keys (es : List Ent) : Vals (keysV es) (es.map fun e => Value.ref e.2.1) := by
  have q := vals_refs (es.map fun e => e.2.1)
  rw [List.map_map, List.map_map] at q
  exact q
def rSortedN (L : Lay) : List V → Hp → VK → Prop := fun vs H Q => ∃ (a : Addr) (es : List Ent) (zs : List (V × PyData)), vs = [V.ref a] ∧ DK L H a es ∧ zs.map (·.1) = keysV es ∧ (∀ z ∈ zs, Dp L.K H z.1 z.2) ∧ PySem.W.AllAlike (zs.map (·.2)) ∧ PySem.W.Sortable (zs.map (·.2)) ∧
  (∀ z ∈ zs, z.2.depth ≤ 8) ∧ ∀ p, H p = none → Q (.ref p) (upd H p (.lst ((zs.mergeSort zle).map (·.1))))
theorem cr_sortedN (hL : LX L X) (hc : X.calm = true) (hu : X.A.units + 65 < cLine) : CallR X (.builtin "sorted") (rSortedN L) := by
  intro pins s σ H vs us Q I r h
  obtain ⟨a, es, zs, rfl, g, hzs, hd, hal, hk, hdep, q⟩ := h
  obtain rfl := Vals.ref1 r
  obtain ⟨ys, rel, dd, hz, hd'⟩ := g.at hL I
  obtain ⟨ds, ep, raw, he⟩ := raw_of dd
  have l1 : ds.size = ys.length := size_of_entries he
  have l2 : es.length = ys.length := Paired.length rel
  have hh : X.A.handled = none := I.ok.hd hc
  have l3 : zs.length = es.length := by have := congrArg List.length hzs; rwa [List.length_map, List.length_map] at this
  refine call_function_entry kind_sorted plain_sorted entry_sorted (args_sorted1 _) ?_
  unfold Builtin.«sorted»
  refine wpAny_bind (m := checkCount "sorted" 1 1 _) (wpAny_pure ?_)
  refine wpAny_bind (PySem.W.kdu_collect (A := X.A.in1) (KdlSrc.rawDict hd') hh raw (by omega) fun h' tk acc hk' it => ?_)
  have ea := acc_keys he rel it
  have hl : acc.toList.length = es.length := by rw [ea, List.length_map]
  refine wpAny_bind (wpAny_newList ?_ (by rw [hl]; exact hz))
  have I1 : Inv X pins σ H { s with heap := h', toks := tk } := I.kept hk'
  have hob : (h'.push { cls := .type "list", data := .seq acc.toList.toArray }).get? h'.objs.size = some (seqObj "list" acc.toList.toArray 0) := Heap.get?_push_size _ rfl
  generalize hh2 : h'.push { cls := .type "list", data := .seq acc.toList.toArray } = h2 at hob ⊢
  have k2 : ∀ b o, h'.get? b = some o → h2.get? b = some o := fun b o e => by rw [← hh2]; exact Heap.get?_push_of_some _ e
  have ne : ∀ b o, h'.get? b = some o → b ≠ h'.objs.size := fun b o e => Nat.ne_of_lt (Heap.lt_size e)
  have rv : Vals (zs.map (·.1)) acc.toList := by rw [hzs, ea]; exact vals_keys es
  have e : PySem.W.EachIs (fun (u : Value) (z : V × PyData) => RelV z.1 u) acc.toList zs := each_of rv fun z _ u r => r
  have er : PySem.W.EachIs (fun (u : Value) (z : V × PyData) => ∃ as, Reads (PySem.W.sortingHeap h2 h'.objs.size acc.toList) u z.2 as) acc.toList zs := each_of rv fun z hz u r => by
    obtain ⟨as, rd⟩ := Dp.reads I1 _ _ _ (by rw [hL.K]; exact hd z hz) r
    exact ⟨as, PyProof.Rows.Reads.keeps (fun b o q => PySem.W.sortingHeap_old (ne b o q) (k2 b o q)) rd⟩
  refine wpAny_bind (wpAny_holding (wpAny_call_entry slot_list_sort ⟨_, hob, rfl⟩ entry_list_sort (PySem.W.list_sort_vals (s := { s with heap := h2, toks := tk }) (κ := PySem.W.dataKind (PySem.W.sortingHeap h2 h'.objs.size acc.toList) (zs.map fun z => z.2)) hob
    (PySem.W.SortsAt.data (s := { s with heap := PySem.W.sortingHeap h2 h'.objs.size acc.toList, toks := tk }) (PySem.W.each_map (enc := fun z : V × PyData => z.2) (R := fun v d => ∃ as, Reads (PySem.W.sortingHeap h2 h'.objs.size acc.toList) v d as) er) hal hk ?_) (by rw [hl]; exact hz) ⟨.none, rfl, ?_⟩) (args_list_sort _)))
  · intro d hd2
    obtain ⟨z, hz2, rfl⟩ := List.mem_map.mp hd2
    have := hdep z hz2
    show X.A.units + 1 + 1 + _ < _
    omega
  · have eo := PySem.W.sortVals_data (h' := PySem.W.sortingHeap h2 h'.objs.size acc.toList) (enc := fun z : V × PyData => z.2) false e er hal
    have lo : (PySem.W.sortVals (PySem.W.dataKind (PySem.W.sortingHeap h2 h'.objs.size acc.toList) (zs.map fun z => z.2)) false acc.toList acc.toList).length = es.length := by rw [PySem.W.sortVals_length false rfl]; exact hl
    generalize PySem.W.sortVals (PySem.W.dataKind (PySem.W.sortingHeap h2 h'.objs.size acc.toList) (zs.map fun z => z.2)) false acc.toList acc.toList = out at eo lo ⊢
    obtain ⟨eF, heF⟩ := PyProof.Rows.sortedHeap_at (vs := acc.toList) (out := out.toArray) hob
    have hlen : ((zs.mergeSort zle).map (·.1)).length ≤ sizeLine := by rw [List.length_map, (List.mergeSort_perm zs zle).length_eq]; omega
    exact wpAny_pure ⟨_, rfl, .ref h'.objs.size, upd H h'.objs.size (.lst ((zs.mergeSort zle).map (·.1))), I1.laid (a := h'.objs.size) (t' := tk) (fun b o q => (PyProof.Rows.sortedHeap_old (ne b o q) (Heap.lt_size (k2 b o q))).trans (k2 b o q)) (Nat.le_refl _) ⟨hlen, out, eF, vals_each eo, heF⟩, rfl, q _ (I1.hok.fresh (Nat.le_refl _))⟩
end
end Sm
set_option Elab.async false
set_option linter.all false
set_option maxRecDepth 100000
set_option maxHeartbeats 1000000
namespace Sm
open PySem PySem.Spec PySem.Calls PyProof.Rows L2
section
variable {L : Lay} {P : Pa} {W : WX} {X : Cx} {E : L2.St → XK} {pos : Pos} {a : Expr} {md : M D}
def nSorted4 : List D → Option (List D)
  | [.dct ks _] => nSortedD [.lst ks]
  | xs => nSorted3 xs
theorem ff_sorted4 : FnF L (fun xs H Q => rSorted3 L.K L.pr L.w xs H Q ∨ rSortedN L xs H Q) nSorted4 := by
  intro ds d xs H A Q e r hA q
  unfold nSorted4 at e
  split at e
  · rename_i ks us
    have e : (D.pys ks).bind (fun ps => if okSort ps = true then some (isort dle ks) else none) = some d := e
    obtain ⟨ps, e1, e2⟩ := Option.bind_eq_some_iff.mp e
    split at e2
    · rename_i ok
      cases e2
      unfold okSort at ok
      rw [Bool.and_eq_true_iff, Bool.and_eq_true_iff, Bool.and_eq_true_iff] at ok
      obtain ⟨⟨⟨o1, o2⟩, o3⟩, o4⟩ := ok
      obtain ⟨v, rfl, rv⟩ := r.one
      obtain ⟨a, es, rfl, dk, dr⟩ := rv.dk
      obtain ⟨ts, t1, t2, t3, t4⟩ := triples dr.2.2.1 e1
      have ez : (ts.map (·.2)).map (·.2) = ps := by rw [List.map_map]; exact t3
      refine .inr ⟨a, es, ts.map (·.2), rfl, dk, by rw [List.map_map]; exact t2, fun z hz => ?_, by rw [ez]; exact likeB_all o1, by rw [ez]; exact okSort_able o2, fun z hz => ?_, fun p hp => ?_⟩
      · obtain ⟨t, ht, rfl⟩ := List.mem_map.mp hz
        exact Dp.up hid_le (dp_of (t4 t ht).1 (t4 t ht).2)
      · have : z.2 ∈ ps := by rw [← ez]; exact List.mem_map.mpr ⟨z, hz, rfl⟩
        exact of_decide_eq_true (List.all_eq_true.mp o3 _ this)
      · have k1 : (ts.map (·.2)).mergeSort zle = (ts.mergeSort fun a b => zle a.2 b.2).map (·.2) := (List.map_mergeSort (f := fun t : D × (V × PyData) => t.2) (l := ts) (r := fun a b => zle a.2 b.2) (s := zle) (fun _ _ _ _ => rfl)).symm
        have k2 : isort dle ks = (ts.mergeSort fun a b => zle a.2 b.2).map (·.1) := by
          rw [← isort_merge dle_trans dle_total, ← t1]
          refine (List.map_mergeSort (f := fun t : D × (V × PyData) => t.1) (l := ts) (r := fun a b => zle a.2 b.2) (s := dle) fun a ha b hb => ?_).symm
          show (!PySem.W.dataLt b.2.2 a.2.2) = !PySem.W.dataLt (pyD b.1) (pyD a.1)
          unfold pyD
          rw [(t4 a ha).2, (t4 b hb).2]; rfl
        rw [k1, List.map_map]
        rw [k2] at q
        refine q p _ hp (Rps.of_map fun t ht => (t4 t ?_).1)
        exact (List.mergeSort_perm ts _).mem_iff.mp ht
    · cases e2
  · exact .inl (ff_sorted3 _ _ _ _ _ _ e r hA q)
theorem cr_sorted4 (hL : LX L X) (hc : X.calm = true) (hu : X.A.units + 65 < cLine) : CallR X (.builtin "sorted") (fun xs H Q => rSorted3 X.K X.prog X.w xs H Q ∨ rSortedN L xs H Q) := (cr_sorted3 hc (by omega)).or (cr_sortedN hL hc hu)
end
end Sm
set_option Elab.async false
set_option linter.all false
set_option maxRecDepth 100000
set_option maxHeartbeats 2000000
namespace Sm
open PySem PySem.Spec PySem.Calls PyProof.Rows L2
section
variable {L : Lay} {X : Cx}
variable {kx vx tg iter : Expr} {ifs : List Expr} {scope : Scope} {own : List (Str × Nat)} {pos : Pos} {wi : TI} {g : TG} {tt : TT} {tk tv : TE}
variable {R : Result → Shared → Prop} {m0 : Nat}
end
end Sm
set_option Elab.async false
set_option linter.all false
set_option maxRecDepth 100000
set_option maxHeartbeats 2000000
namespace Sm
open PySem PySem.Spec PySem.Calls PyProof.Rows L2
section
variable {L : Lay} {P : Pa} {W : WX} {X : Cx} {E : L2.St → XK} {pos : Pos} {σ : L2.St} {vs : List Nat}
end
end Sm
set_option Elab.async false
set_option linter.all false
set_option maxRecDepth 100000
set_option maxHeartbeats 1000000
namespace Sm
open PySem PySem.Spec PySem.Calls PyProof.Rows L2 SlX
section
variable {L : Lay} {P : Pa} {X : Cx} {E : L2.St → XK} {pos : Pos} {e a b : Expr} {f : Str} {me ma mb : M D}
theorem Rps.at_ {F : Hp} : ∀ {ds : List D} {vs : List V} {i : Nat} {d : D}, Rps L F ds vs → ds[i]? = some d → ∃ v, vs[i]? = some v ∧ Rp L F d v := fun r e => r.get e
end
end Sm
set_option Elab.async false
set_option linter.all false
set_option maxRecDepth 100000
set_option maxHeartbeats 1000000
namespace Sm
open PySem PySem.Spec PySem.Calls PyProof.Rows L2 SlX
mutual
def D.noSelf : D → Bool
  | .tup ds => D.noSelfs ds
  | .lst ds => D.noSelfs ds
  | .scr ds => D.noSelfs ds
  | .dct ks us => D.noSelfs ks && D.noSelfs us
  | .obj c fs => decide (c < 1000000) && D.noSelfs fs
  | .exc _ _ fs => D.noSelfs fs
  | .ins _ _ fs => D.noSelfs fs
  | .dki _ us => D.noSelfs us
  | .ptup ds => D.noSelfs ds
  | _ => true
def D.noSelfs : List D → Bool
  | [] => true
  | d :: ds => D.noSelf d && D.noSelfs ds
end
mutual
theorem Rp.mv {L : Lay} {a b : Addr} {F : Hp} : ∀ {d : D} {v : V}, Rp (L.at a) F d v → d.noSelf = true → Rp (L.at b) F d v
  | .non, _, h, _ => Rp.non_iff.mpr (Rp.non_iff.mp h)
  | .bl _, _, h, _ => Rp.bl_iff.mpr (Rp.bl_iff.mp h)
  | .int _, _, h, _ => Rp.int_iff.mpr (Rp.int_iff.mp h)
  | .str _, _, h, _ => Rp.str_iff.mpr (Rp.str_iff.mp h)
  | .tup ds, _, h, e => by
    obtain ⟨p, vs, e1, q, r⟩ := Rp.tup_iff.mp h
    exact Rp.tup_iff.mpr ⟨p, vs, e1, q, Rps.mv r (by unfold D.noSelf at e; exact e)⟩
  | .lst ds, _, h, e => by
    obtain ⟨p, vs, e1, q, r⟩ := Rp.lst_iff.mp h
    exact Rp.lst_iff.mpr ⟨p, vs, e1, q, Rps.mv r (by unfold D.noSelf at e; exact e)⟩
  | .scr ds, _, h, e => by
    obtain ⟨p, vs, e1, q, r⟩ := Rp.scr_iff.mp h
    exact Rp.scr_iff.mpr ⟨p, vs, e1, q, Rps.mv r (by unfold D.noSelf at e; exact e)⟩
  | .dki ks us, _, h, e => by
    obtain ⟨p, kvs, e1, q, e2, r⟩ := Rp.dki_iff.mp h
    exact Rp.dki_iff.mpr ⟨p, kvs, e1, q, e2, Rps.mv r (by unfold D.noSelf at e; exact e)⟩
  | .ptup ds, _, h, e => by
    obtain ⟨p, vs, e1, q, r⟩ := Rp.ptup_iff.mp h
    exact Rp.ptup_iff.mpr ⟨p, vs, e1, q, Rps.mv r (by unfold D.noSelf at e; exact e)⟩
  | .dct ks us, _, h, e => by
    obtain ⟨p, es, e1, q, r1, r2, r3, r4⟩ := Rp.dct_iff.mp h
    unfold D.noSelf at e
    obtain ⟨g1, g2⟩ := Bool.and_eq_true_iff.mp e
    exact Rp.dct_iff.mpr ⟨p, es, e1, q, r1, r2, Rps.mv r3 g1, Rps.mv r4 g2⟩
  | .set _, _, h, _ => Rp.set_iff.mpr (Rp.set_iff.mp h)
  | .obj c fs, _, h, e => by
    unfold D.noSelf at e
    obtain ⟨g1, g2⟩ := Bool.and_eq_true_iff.mp e
    have g1 := of_decide_eq_true g1
    rcases Rp.obj_iff.mp h with ⟨p, dx, vs, e1, q, q2, r, hc⟩ | ⟨_, e, _⟩
    · exact Rp.obj_iff.mpr (.inl ⟨p, dx, vs, e1, q, q2, Rps.mv r g2, hc⟩)
    · omega
  | .exc c ns fs, _, h, e => by
    unfold D.noSelf at e
    obtain ⟨p, dx, vs, e1, q, l, r⟩ := Rp.exc_iff.mp h
    exact Rp.exc_iff.mpr ⟨p, dx, vs, e1, q, l, Rps.mv r e⟩
  | .ins c ns fs, _, h, e => by
    unfold D.noSelf at e
    obtain ⟨p, dx, vs, e1, q, l, r⟩ := Rp.ins_iff.mp h
    exact Rp.ins_iff.mpr ⟨p, dx, vs, e1, q, l, Rps.mv r e⟩
theorem Rps.mv {L : Lay} {a b : Addr} {F : Hp} : ∀ {ds : List D} {vs : List V}, Rps (L.at a) F ds vs → D.noSelfs ds = true → Rps (L.at b) F ds vs
  | [], _, h, _ => by unfold Rps at h ⊢; exact h
  | d :: ds, _, h, e => by
    unfold Rps at h ⊢
    unfold D.noSelfs at e
    obtain ⟨g1, g2⟩ := Bool.and_eq_true_iff.mp e
    obtain ⟨v, r, e1, q, rr⟩ := h
    exact ⟨v, r, e1, Rp.mv q g1, Rps.mv rr g2⟩
end
theorem Rp.toAt {L : Lay} {F : Hp} {d : D} {v : V} (a : Addr) (h : Rp L F d v) (e : d.noSelf = true) : Rp (L.at a) F d v := Rp.mv (L := L) (a := L.self) h e
theorem Rps.toAt {L : Lay} {F : Hp} {d : List D} {v : List V} (a : Addr) (h : Rps L F d v) (e : D.noSelfs d = true) : Rps (L.at a) F d v := Rps.mv (L := L) (a := L.self) h e
def Kb (H : Hp) (a dx : Addr) (H' : Hp) : Prop := Tr H (fun p => p = a ∨ p = dx) H' (fun _ => False)
theorem Kb.of {H H3 : Hp} {A A' : Addr → Prop} {a dx : Addr} (tt : Tr H A H3 A') (own0 : ∀ p, ¬ A p) : Kb H a dx H3 :=
  ⟨fun b o e n => tt.keep0 b o e fun z => n (z.mono fun q w => (own0 q w).elim), fun _ z => z.elim, tt.there⟩
theorem Kb.sl {H H3 : Hp} {A A' : Addr → Prop} {a dx C : Addr} {vs : List (Option V)} (tt : Tr H A H3 A') (own0 : ∀ p, ¬ A p) : Kb H a dx (SlX.slH H3 a C dx vs) := by
  have k : Kb H a dx H3 := .of tt own0
  refine ⟨fun b o e n => ?_, fun _ z => z.elim, fun b o e => ?_⟩
  · rw [SlX.slH_ne (fun z => n (.inl (.inl z))) fun z => n (.inl (.inr z))]
    exact k.keep0 b o e n
  · by_cases h1 : b = a
    · exact ⟨_, by unfold SlX.slH; rw [h1, upd_same]⟩
    · by_cases h2 : b = dx
      · exact ⟨_, by unfold SlX.slH; rw [upd_ne h1, h2, upd_same]⟩
      · rw [SlX.slH_ne h1 h2]; exact k.there b o e
theorem Kb.kin {H H' : Hp} {a dx : Addr} {o1 o2 : HO} (k : Kb (upd (upd H dx o1) a o2) a dx H') (na : H a = none) (nd : H dx = none) : Kin H H' := by
  have up : ∀ b o, H b = some o → upd (upd H dx o1) a o2 b = some o := fun b o q => by
    rw [upd_ne (ne_of_none q na), upd_ne (ne_of_none q nd)]; exact q
  refine ⟨⟨fun b o e n => k.keep0 b o (up b o e) fun z => ?_, fun _ z => z.elim, fun b o e => k.there b o (up b o e)⟩⟩
  rcases z with (z | z) | ⟨p, e2, z⟩
  · rw [z, na] at e; cases e
  · rw [z, nd] at e; cases e
  · rw [up b o e, ← e] at e2
    refine n (.inr ⟨p, e2, .inr ?_⟩)
    rcases z with (z | z) | z
    · rw [z]; exact na
    · rw [z]; exact nd
    · by_cases h1 : p = a
      · rw [h1]; exact na
      · by_cases h2 : p = dx
        · rw [h2]; exact nd
        · rw [upd_ne h1, upd_ne h2] at z; exact z
section
variable {L : Lay} {P : Pa} {W : WX} {X : Cx} {E : L2.St → XK} {pos : Pos}
end
end Sm
set_option Elab.async false
set_option linter.all false
set_option maxRecDepth 100000
set_option maxHeartbeats 1000000
namespace Sm
open PySem PySem.Spec PySem.Calls PyProof.Rows L2 SlX
section
variable {L : Lay} {P : Pa} {X : Cx} {E : L2.St → XK} {pos p : Pos} {e : Expr} {es : List Expr} {ms : M (List D)} {x : Str}
variable {c n k : Nat} {f : Addr} {fd : FuncData} {ps : List Str} {run : List D → Option (List D)} {dds : List D} {dvs : List V} {dws : List Value}
end
end Sm
set_option Elab.async false
set_option linter.all false
set_option maxRecDepth 100000
set_option maxHeartbeats 1000000
namespace Sm
open PySem PySem.Spec PySem.Calls PyProof.Rows L2
section
variable {L : Lay} {P : Pa} {W : WX} {X : Cx} {E : L2.St → XK} {pos p kpos : Pos} {e f : Expr} {me mf : M D} {x : Str}
end
end Sm
set_option Elab.async false
set_option linter.all false
set_option maxRecDepth 100000
set_option maxHeartbeats 1000000
namespace Sm
open PySem PySem.Spec PySem.Calls PyProof.Rows L2
section
variable {L : Lay} {P : Pa} {X : Cx} {E : L2.St → XK} {pos p : Pos} {e : Expr} {me : M D} {x : Str}
theorem Kin.rid {H H' : Hp} {a : Addr} {A A' : Addr → Prop} (t : Tr H A H' A') (h : ∀ b, A b → b = a) : Kin (rid H a) H' :=
  ⟨⟨fun b u z n => by
    have nz : b ≠ a := fun y => by rw [y, rid_same] at z; cases z
    refine t.keep0 b u (rid_le b u z) fun y => n ?_
    rcases y with y | ⟨p, e, y⟩
    · exact absurd (h b y) nz
    · refine .inr ⟨p, by rw [rid_ne nz]; exact e, .inr ?_⟩
      rcases y with y | y
      · rw [h p y, rid_same]
      · by_cases hp : p = a
        · rw [hp, rid_same]
        · rw [rid_ne hp]; exact y, fun _ z => z.elim, fun b u z => t.there b u (rid_le b u z)⟩⟩
end
end Sm
set_option Elab.async false
set_option linter.all false
set_option maxRecDepth 100000
set_option maxHeartbeats 1000000
namespace Sm
open PySem PySem.Spec PySem.Calls PyProof.Rows L2 SlX
section
variable {L : Lay} {P : Pa} {X : Cx} {E : L2.St → XK} {pos p p' : Pos} {e : Expr} {me : M D} {x y : Str}
end
end Sm
set_option Elab.async false
set_option linter.all false
set_option maxRecDepth 100000
set_option maxHeartbeats 1000000
namespace Sm
open PySem PySem.Spec PySem.Calls PyProof.Rows L2
section
variable {X : Cx}
def rSortedSetN (w : World) : List V → Hp → VK → Prop := fun vs H Q => ∃ (a : Addr) (S : Int → Bool) (n : Nat), vs = [V.ref a] ∧ H a = some (SetO w a S n) ∧ n ≤ 16000000 ∧ ∀ (ns : List Int) p, ns.Pairwise (· < ·) → (∀ k, k ∈ ns ↔ S k = true) → ns.length = n → H p = none → Q (.ref p) (upd H p (.lst (ns.map V.int)))
theorem dataLe_int (a b : Int) : PySem.W.dataLe false PyData.int a b = decide (a ≤ b) := by
  show (!PySem.W.dataLt (.int b) (.int a)) = _
  rw [PySem.W.dataLt_int, Bool.eq_iff_iff, Bool.not_eq_true', decide_eq_false_iff_not, decide_eq_true_iff]
  omega
theorem each_ints : ∀ {vs : List Value} {ks : List Int}, IntsAre vs ks → PySem.W.EachIs (fun v (k : Int) => ∃ t, v = Value.int k t) vs ks
  | _, _, h => by induction h with
    | nil => exact .nil
    | cons n t _ ih => exact .cons ⟨t, rfl⟩ ih
theorem cr_sortedSetN (hc : X.calm = true) (hu : X.A.units + 65 < cLine) : CallR X (.builtin "sorted") (rSortedSetN X.w) := by
  intro pins s σ H vs us Q I r h
  obtain ⟨a, S, n, rfl, ha, h64, q⟩ := h
  have R := setO_get I ha
  rw [Vals.ref1 r]
  have hh : X.A.handled = none := I.ok.hd hc
  obtain ⟨o, es, ep, t, ho, hex, hd, g, nd, hm, hb, hf, hn, hr, hl⟩ := R
  refine Calls.call_function_entry kind_sorted plain_sorted entry_sorted (args_sorted1 _) ?_
  unfold Builtin.«sorted»
  refine wpAny_bind (m := checkCount "sorted" 1 1 _) (wpAny_pure ?_)
  refine wpAny_bind (collect_set (A := X.A.in1) hh ⟨o, ho, hex.1, hd⟩ hf hb hr hl fun s1 vs k1 hz g1 o1 pm => ?_)
  have hvl : vs.length = n := by rw [pm.length_eq, List.length_map, Array.length_toList]; exact hn
  have hI : IntsAre vs (vs.map Builtin.Re.reRawOf) := ints_of vs fun v hv => by
    obtain ⟨e, he, q⟩ := List.mem_map.mp (pm.mem_iff.mp hv)
    obtain ⟨k, tk, h1, _⟩ := g e he
    exact ⟨k, tk, by rw [← q]; exact h1⟩
  have pk : (vs.map Builtin.Re.reRawOf).Perm (es.toList.map keyOf) := by
    have q := pm.map Builtin.Re.reRawOf
    rw [List.map_map] at q
    exact q
  generalize vs.map Builtin.Re.reRawOf = ks at hI pk
  have lk : ks.length = n := by rw [pk.length_eq, List.length_map, Array.length_toList]; exact hn
  refine wpAny_bind (wpAny_newList ?_ (by rw [hvl, sizeLine_eq]; omega))
  have hob : (s1.heap.push (seqObj "list" vs.toArray 0)).get? s1.heap.objs.size = some (seqObj "list" vs.toArray 0) := Heap.get?_push_size _ rfl
  have e := each_ints hI
  have er : PySem.W.EachIs (fun v (k : Int) => ∃ as, Reads (PySem.W.sortingHeap (s1.heap.push (seqObj "list" vs.toArray 0)) s1.heap.objs.size vs) v (PyData.int k) as) vs ks := e.mono fun v k ⟨t, ht⟩ => ⟨_, by rw [ht]; exact .int _ _⟩
  have hal : PySem.W.AllAlike (ks.map PyData.int) := PySem.W.AllAlike.of fun b b' => rfl
  have hk : PySem.W.Sortable (ks.map PyData.int) := PySem.W.Sortable.others fun b => ⟨(fun z => by cases z), fun xs z => by cases z⟩
  refine wpAny_bind (wpAny_holding (wpAny_call_entry slot_list_sort ⟨_, hob, rfl⟩ entry_list_sort (PySem.W.list_sort_vals (κ := PySem.W.dataKind (PySem.W.sortingHeap (s1.heap.push (seqObj "list" vs.toArray 0)) s1.heap.objs.size vs) (ks.map PyData.int)) hob
    (PySem.W.SortsAt.data (s := { s1 with heap := PySem.W.sortingHeap (s1.heap.push (seqObj "list" vs.toArray 0)) s1.heap.objs.size vs }) (PySem.W.each_map (enc := PyData.int) (R := fun v d => ∃ as, Reads (PySem.W.sortingHeap (s1.heap.push (seqObj "list" vs.toArray 0)) s1.heap.objs.size vs) v d as) er) hal hk ?_) (by rw [hvl, sizeLine_eq]; omega) ⟨.none, rfl, ?_⟩) (args_list_sort _)))
  · intro d hd2
    obtain ⟨z, hz2, rfl⟩ := List.mem_map.mp hd2
    show X.A.units + 1 + 1 + 0 < _
    omega
  · have eo := PySem.W.sortVals_data (h' := PySem.W.sortingHeap (s1.heap.push (seqObj "list" vs.toArray 0)) s1.heap.objs.size vs) (enc := PyData.int) false e er hal
    have lo : (PySem.W.sortVals (PySem.W.dataKind (PySem.W.sortingHeap (s1.heap.push (seqObj "list" vs.toArray 0)) s1.heap.objs.size vs) (ks.map PyData.int)) false vs vs).length = n := by rw [PySem.W.sortVals_length false rfl]; exact hvl
    generalize PySem.W.sortVals (PySem.W.dataKind (PySem.W.sortingHeap (s1.heap.push (seqObj "list" vs.toArray 0)) s1.heap.objs.size vs) (ks.map PyData.int)) false vs vs = out at eo lo ⊢
    have ef : PySem.W.dataLe false PyData.int = fun a b : Int => decide (a ≤ b) := funext fun a => funext fun b => dataLe_int a b
    rw [ef] at eo
    have pm2 := (List.mergeSort_perm ks fun a b : Int => decide (a ≤ b)).trans pk
    have pw := List.pairwise_mergeSort (le := fun a b : Int => decide (a ≤ b)) (fun a b c h1 h2 => decide_eq_true (Int.le_trans (of_decide_eq_true h1) (of_decide_eq_true h2))) (fun a b => by rw [Bool.or_eq_true, decide_eq_true_iff, decide_eq_true_iff]; omega) ks
    generalize ks.mergeSort (fun a b : Int => decide (a ≤ b)) = ns at eo pm2 pw
    obtain ⟨c, hc2⟩ := PyProof.Rows.sortedHeap_at (vs := vs) (out := out.toArray) hob
    have rising : ns.Pairwise (· < ·) := lt_of_le_nodup ns (pw.imp fun h => of_decide_eq_true h) (pm2.nodup_iff.mpr nd)
    have ln : ns.length = n := by rw [pm2.length_eq, List.length_map, Array.length_toList]; exact hn
    have rv : Vals (ns.map V.int) out := by
      clear hc2 lo ef pm2 pw rising ln
      induction eo with
      | nil => exact .nil
      | cons h _ ih => exact .cons h ih
    have k2 : ∀ b u, s.heap.get? b = some u → (PyProof.Rows.sortedHeap (s1.heap.push (seqObj "list" vs.toArray 0)) s1.heap.objs.size vs out.toArray).get? b = some u := fun b u q => by
      have q := k1 b u q
      have hlt := Heap.lt_size q
      rw [PyProof.Rows.sortedHeap_old (Nat.ne_of_lt hlt) (by rw [size_push']; exact Nat.lt_succ_of_lt hlt)]
      exact Heap.get?_push_of_some _ q
    have hlen : (ns.map V.int).length ≤ sizeLine := by rw [List.length_map, ln, sizeLine_eq]; omega
    have fresh : H s1.heap.objs.size = none := I.hok.fresh hz
    have J : Inv X pins σ (upd H s1.heap.objs.size (.lst (ns.map V.int))) { s with heap := PyProof.Rows.sortedHeap (s1.heap.push (seqObj "list" vs.toArray 0)) s1.heap.objs.size vs out.toArray, gens := s1.gens, drawn := s1.drawn, toks := s1.toks } :=
      I.call (ch := []) (Un.laid k2 hz fresh) (I.hok.laid k2 hz ⟨hlen, out, c, rv, hc2⟩) (by rw [g1]; exact I.bare) (fun _ z => nomatch z)
    have es1 : ({ s1 with heap := PyProof.Rows.sortedHeap (s1.heap.push (seqObj "list" vs.toArray 0)) s1.heap.objs.size vs out.toArray } : Shared) = { s with heap := PyProof.Rows.sortedHeap (s1.heap.push (seqObj "list" vs.toArray 0)) s1.heap.objs.size vs out.toArray, gens := s1.gens, drawn := s1.drawn, toks := s1.toks } := by
      cases s1
      cases s
      cases o1
      rfl
    refine wpAny_pure ⟨_, rfl, ?_⟩
    show EP X pins σ Q _ { s1 with heap := PyProof.Rows.sortedHeap (s1.heap.push (seqObj "list" vs.toArray 0)) s1.heap.objs.size vs out.toArray }
    rw [es1]
    exact ⟨.ref s1.heap.objs.size, _, J, rfl, q ns _ rising (fun k => by rw [pm2.mem_iff, ← hm k]) ln fresh⟩
def nSorted5 : List D → Option (List D)
  | [.set (.int i :: xs)] => (intsD xs).bind fun _ => if xs.length < 16000000 then some (.int i :: xs) else none
  | ds => nSorted4 ds
theorem ff_sorted5 {L : Lay} : FnF L (fun xs H Q => (rSorted3 L.K L.pr L.w xs H Q ∨ rSortedN L xs H Q) ∨ rSortedSetN L.w xs H Q) nSorted5 := by
  intro ds d xs H A Q e r hA q
  unfold nSorted5 at e
  split at e
  · rename_i i ys
    obtain ⟨ms, e1, e2⟩ := Option.bind_eq_some_iff.mp e
    split at e2
    · rename_i hz
      cases e2
      obtain ⟨v, rfl, rv⟩ := r.one
      rcases Rp.set_iff.mp (show Rp L (hid H A) _ v from rv) with ⟨a, ns, rfl, en, pw, h⟩ | ⟨a, ks, L', rfl, en, pw, h, h2, h3⟩
      · have hl : ns.length ≤ 16000000 := by
          have := congrArg List.length en
          rw [List.length_map, List.length_cons] at this
          omega
        refine .inr ⟨a, _, _, rfl, hid_le _ _ h, hl, fun ns' p pw' hm _ hn => ?_⟩
        have e2 : ns' = ns := rising_eq pw' pw fun k => by rw [hm k]; exact decide_eq_true_iff
        subst e2
        exact q _ _ hn (by rw [en]; exact Rp.ofInts _)
      · cases ks with
        | nil => cases en
        | cons k ks => cases en
    · cases e2
  · exact .inl (ff_sorted4 _ _ _ _ _ _ e r hA q)
theorem cr_sorted5 {L : Lay} (hL : LX L X) (hc : X.calm = true) (hu : X.A.units + 65 < cLine) : CallR X (.builtin "sorted") (fun xs H Q => (rSorted3 X.K X.prog X.w xs H Q ∨ rSortedN L xs H Q) ∨ rSortedSetN X.w xs H Q) := (cr_sorted4 hL hc hu).or (cr_sortedSetN hc hu)
end
end Sm
set_option Elab.async false
set_option linter.all false
set_option maxRecDepth 100000
set_option maxHeartbeats 400000
namespace Sm
open PySem PySem.Spec PySem.Calls PyProof.Rows L2 SlX
mutual
def D.noL : D → Bool
  | .tup ds => D.noLs ds
  | .dct ks us => D.noLs ks && D.noLs us
  | .obj _ fs => D.noLs fs
  | .exc _ _ fs => D.noLs fs
  | .ins _ _ fs => D.noLs fs
  | .dki _ us => D.noLs us
  | .ptup ds => D.noLs ds
  | .lst _ => false
  | .scr _ => false
  | _ => true
def D.noLs : List D → Bool
  | [] => true
  | d :: ds => D.noL d && D.noLs ds
end
def ButL (F F' : Hp) : Prop := ∀ b o, F b = some o → F' b = some o ∨ ∃ vs, o = .lst vs
theorem ButL.tup {K : PySem.W.Frag} {F F' : Hp} {a : Addr} {xs : List V} (h : ButL F F') (q : SqT K F a xs) : SqT K F' a xs := by
  rcases q with (q | ⟨o, q⟩) | q
  · rcases h _ _ q with z | ⟨vs, z⟩
    · exact .inl (.inl z)
    · cases z
  · rcases h _ _ q with z | ⟨vs, z⟩
    · exact .inl (.inr ⟨o, z⟩)
    · cases z
  · exact .inr q
theorem ButL.ext {F F' : Hp} {a : Addr} {x : Heap → Prop} (h : ButL F F') (q : F a = some (.ext x)) : F' a = some (.ext x) := by
  rcases h _ _ q with z | ⟨vs, z⟩
  · exact z
  · cases z
theorem ButL.xd {F F' : Hp} {a : Addr} {x} (h : ButL F F') (q : F a = some (.xd x)) : F' a = some (.xd x) := by
  rcases h _ _ q with z | ⟨vs, z⟩
  · exact z
  · cases z
mutual
theorem Rp.noL {L : Lay} {F F' : Hp} (h : ButL F F') : ∀ {d : D} {v : V}, d.noL = true → Rp L F d v → Rp L F' d v
  | .non, _, _, r => Rp.non_iff.mpr (Rp.non_iff.mp r)
  | .bl _, _, _, r => Rp.bl_iff.mpr (Rp.bl_iff.mp r)
  | .int _, _, _, r => Rp.int_iff.mpr (Rp.int_iff.mp r)
  | .str _, _, _, r => Rp.str_iff.mpr (Rp.str_iff.mp r)
  | .tup ds, _, e, r => by
    obtain ⟨p, vs, e1, q, rr⟩ := Rp.tup_iff.mp r
    exact Rp.tup_iff.mpr ⟨p, vs, e1, h.tup q, Rps.noL h (by unfold D.noL at e; exact e) rr⟩
  | .lst _, _, e, _ => by unfold D.noL at e; cases e
  | .scr _, _, e, _ => by unfold D.noL at e; cases e
  | .dct ks us, _, e, r => by
    obtain ⟨p, es, e1, q, r1, r2, r3, r4⟩ := Rp.dct_iff.mp r
    unfold D.noL at e
    obtain ⟨g1, g2⟩ := Bool.and_eq_true_iff.mp e
    exact Rp.dct_iff.mpr ⟨p, es, e1, let ⟨o, z⟩ := q; ⟨o, h.ext z⟩, r1, r2, Rps.noL h g1 r3, Rps.noL h g2 r4⟩
  | .dki ks us, _, e, r => by
    obtain ⟨p, kvs, e1, q, e2, rr⟩ := Rp.dki_iff.mp r
    exact Rp.dki_iff.mpr ⟨p, kvs, e1, let ⟨o, z⟩ := q; ⟨o, h.ext z⟩, e2, Rps.noL h (by unfold D.noL at e; exact e) rr⟩
  | .ptup ds, _, e, r => by
    obtain ⟨p, vs, e1, ⟨o, z, q⟩, rr⟩ := Rp.ptup_iff.mp r
    refine Rp.ptup_iff.mpr ⟨p, vs, e1, ⟨o, z, ?_⟩, Rps.noL h (by unfold D.noL at e; exact e) rr⟩
    rcases h _ _ q with y | ⟨ws, y⟩
    · exact y
    · cases y
  | .set _, _, _, r => by
    rcases Rp.set_iff.mp r with ⟨a, ns, e1, e2, e3, q⟩ | ⟨a, ks, L', e1, e2, e3, q, q2, q3⟩
    · exact Rp.set_iff.mpr (.inl ⟨a, ns, e1, e2, e3, h.ext q⟩)
    · exact Rp.set_iff.mpr (.inr ⟨a, ks, L', e1, e2, e3, h.ext q, fun p hp => h.tup (q2 p hp), q3⟩)
  | .obj c fs, _, e, r => by
    unfold D.noL at e
    rcases Rp.obj_iff.mp r with ⟨p, dx, vs, e1, q, q2, rr, hc⟩ | r
    · exact Rp.obj_iff.mpr (.inl ⟨p, dx, vs, e1, h.ext q, h.xd q2, Rps.noL h e rr, hc⟩)
    · exact Rp.obj_iff.mpr (.inr r)
  | .exc c ns fs, _, e, r => by
    unfold D.noL at e
    obtain ⟨p, dx, vs, e1, q, l, rr⟩ := Rp.exc_iff.mp r
    exact Rp.exc_iff.mpr ⟨p, dx, vs, e1, ⟨q.1.imp (fun z => h.ext z) (fun z => h.ext z), q.2.imp (fun z => h.ext z) (fun z => h.xd z)⟩, l, Rps.noL h e rr⟩
  | .obo _ _ _, _, _, r => r.obo_no.elim
  | .ins c ns fs, _, e, r => by
    unfold D.noL at e
    obtain ⟨p, dx, vs, e1, q, l, rr⟩ := Rp.ins_iff.mp r
    refine Rp.ins_iff.mpr ⟨p, dx, vs, e1, ?_, l, Rps.noL h e rr⟩
    rcases h _ _ q with y | ⟨ws, y⟩
    · exact y
    · cases y
theorem Rps.noL {L : Lay} {F F' : Hp} (h : ButL F F') : ∀ {ds : List D} {vs : List V}, D.noLs ds = true → Rps L F ds vs → Rps L F' ds vs
  | [], _, _, r => by unfold Rps at r ⊢; exact r
  | d :: ds, _, e, r => by
    unfold Rps at r ⊢
    unfold D.noLs at e
    obtain ⟨g1, g2⟩ := Bool.and_eq_true_iff.mp e
    obtain ⟨v, r0, e1, q, rr⟩ := r
    exact ⟨v, r0, e1, Rp.noL h g1 q, Rps.noL h g2 rr⟩
end
def ownL : D → Bool
  | .lst xs => D.noLs xs
  | .dct ks us => D.noLs ks && D.noLs us
  | .dki _ us => D.noLs us
  | _ => false
theorem OwR.noL {L : Lay} {F F' H : Hp} (h : ButL F F') : ∀ {d : D} {a : Addr}, ownL d = true → OwR L F H d a → OwR L F' H d a
  | .lst _, _, e, ⟨vs, q, r⟩ => ⟨vs, q, Rps.noL h e r⟩
  | .dct ks us, _, e, ⟨es, q, r1, r2, r3, r4⟩ => by
    obtain ⟨g1, g2⟩ := Bool.and_eq_true_iff.mp e
    exact ⟨es, q, r1, r2, Rps.noL h g1 r3, Rps.noL h g2 r4⟩
  | .dki ks us, _, e, ⟨kvs, q, e2, r⟩ => ⟨kvs, q, e2, Rps.noL h e r⟩
section
variable {L : Lay} {P : Pa} {X : Cx} {E : L2.St → XK} {σ : L2.St} {τ τ1 τr : List Sm.Sl} {i : Nat} {ds : List D} {H H1 : Hp}
end
end Sm
set_option Elab.async false
set_option linter.all false
set_option maxRecDepth 100000
set_option maxHeartbeats 400000
namespace Sm
open PySem PySem.Spec PySem.Calls PyProof.Rows L2 SlX
section
variable {L : Lay} {P : Pa} {X : Cx} {E : L2.St → XK} {tg iter : Expr}
def mWipe (vs : List Nat) (m : M (List D)) : M (List D) := fun τ => (m τ).bind fun ds => fun τ => .ok ds (Sm.wipeS τ vs)
theorem ItR.mono {J : It} {G G' : Hp → (Addr → Prop) → Prop} {ds : List D} (h : ItR L J G ds) (g : ∀ H A, G' H A → G H A) : ItR L J G' ds := fun i H A q hA => h i H A (g H A q) hA
theorem sI_wipe {m : M (List D)} (vs : List Nat) (h : SI L P E X tg iter m) : SI L P E X tg iter (mWipe vs m) :=
  PI.weak h fun σ H R ⟨τ, R0, h⟩ => by
    refine ⟨τ, R0, ?_⟩
    revert h
    unfold mWipe
    cases m τ with
    | ok ds τ1 =>
      intro h J H' t R1 it
      obtain ⟨tw, Rw⟩ := R1.wipeS (vs := vs)
      exact h J H' (t.trans tw) Rw (it.mono fun H2 A2 g => (R1.fz tw).trans g)
    | exc c xs τ1 => exact fun h => h
    | fail => exact fun h => h
@[simp] theorem ev_wipe {m : M (List D)} {vs : List Nat} {t : Sl} {τ : List Sl} : mWipe vs m (t :: τ) = (m (t :: τ)).bind fun ds => fun τ => .ok ds (Sm.wipeS τ vs) := rfl
end
end Sm
set_option Elab.async false
set_option linter.all false
set_option maxRecDepth 100000
set_option maxHeartbeats 1000000
namespace Sm
open PySem PySem.Spec PySem.Calls PyProof.Rows L2 SlX
section
variable {L : Lay} {P : Pa} {X : Cx} {E : L2.St → XK} {pos : Pos} {e a b : Expr} {es : List Expr} {m ma mb : M D} {ms : M (List D)}
def mStar (m : M D) (ms : M (List D)) : M (List D) := fun τ => (m τ).bind fun x => fun τ => (Res.lift (asS x) τ).bind fun xs => fun τ => (ms τ).bind fun ys => fun τ => .ok (xs ++ ys) τ
@[simp] theorem ev_star {t : Sl} {τ : List Sl} : mStar m ms (t :: τ) = (m (t :: τ)).bind fun x => fun τ => (Res.lift (asS x) τ).bind fun xs => fun τ => (ms τ).bind fun ys => fun τ => .ok (xs ++ ys) τ := rfl
def frzD : D → Bool
  | .lst _ => false
  | .dct _ _ => false
  | .dki _ _ => false
  | .obo _ _ _ => false
  | _ => true
theorem Bp.frz {H : Hp} {A : Addr → Prop} {d : D} {v : V} (h : Bp L (hid H A) H d v) (e : frzD d = true) : Rp L (hid H A) d v := by
  cases d with
  | lst ds => cases e
  | dct ks us => cases e
  | dki ks us => cases e
  | obo c ns fs => cases e
  | _ => exact h
end
end Sm
set_option Elab.async false
set_option linter.all false
set_option maxRecDepth 100000
set_option maxHeartbeats 400000
namespace Sm
open PySem PySem.Spec PySem.Calls PyProof.Rows L2 SlX
section
variable {L : Lay} {P : Pa} {W : WX} {X : Cx} {pos : Pos}
end
end Sm
set_option Elab.async false
set_option linter.all false
set_option maxRecDepth 100000
set_option maxHeartbeats 1000000
namespace Sm
open PySem PySem.Spec PySem.Calls PyProof.Rows L2
def Exo (H : Hp) (a C dx : Addr) (fs : List (Str × V)) : Prop := H a = some (exo a C (some dx)) ∧ H dx = some (exd dx fs)
structure ExK (K : PySem.W.Frag) (C : Addr) : Prop where
  oe : OexC K C
  xf : XfC K C
  xi : ExcC K C
section
variable {X : Cx} {pins : List (Addr × Obj)} {σ : L2.St} {H : Hp} {s : Shared} {a C dx : Addr} {fs : List (Str × V)}
theorem Exo.loose (h : Exo H a C dx fs) : ExoL H a C dx fs := ⟨.inl h.1, .inl h.2⟩
end
section
open PySem.W
variable {prog : Program} {w : World} {A : Around} {E : Value → Shared → Prop} {s : Shared} {K : Frag} {x D : Addr} {ox od : Obj}
end
section
variable {X : Cx}
end
section
variable {X : Cx} {CX : CXT} {x : Str} {C fI : Addr} {k : Nat} {fd : FuncData} {ps : List Str} {sp : Sp} {ta : TA} {p pos : Pos} {e : Expr} {es : List Expr}
end
end Sm
set_option Elab.async false
set_option linter.all false
set_option maxRecDepth 100000
set_option maxHeartbeats 4000000
namespace Sm
open PySem PySem.Spec PySem.Calls PySem.W PySem.HandSPX
section
variable {prog : Program} {w : World} {A : Around} {E : Value → Shared → Prop} {R : Result → Shared → Prop} {h : Heap} {g : Array GenState} {d : PySem.Drawn} {t : Nat} {os : OsState} {kw : List (Str × Value)}
variable {nm q : Str} {C N : Addr} {bs bm bmB : List Value} {hdct : Bool} {sn : List Str} {sub : List Value} {ab : Bool} {col : Option Bool} {dd : Option Addr} {k0 k1 k2 k3 k5 : Option Value} {B newId initId : String}
end
end Sm
set_option Elab.async false
set_option linter.all false
set_option maxRecDepth 100000
set_option maxHeartbeats 1000000
namespace Sm
open PySem PySem.Spec PySem.Calls PyProof.Rows L2
section
variable {L : Lay} {P : Pa} {X : Cx} {E : L2.St → XK} {pos p p' : Pos} {e : Expr} {es : List Expr} {me : M D} {ms : M (List D)} {x y : Str} {f : Str}
variable {c n k : Nat} {ns : List Str} {ini : List D → Option (List D)} {fI : Addr} {fd : FuncData} {ps : List Str}
variable {ks : List Str} {ix : List Nat} {kws : List Keyword} {mk : M (List D)}
end
end Sm
set_option Elab.async false
set_option linter.all false
set_option maxRecDepth 100000
set_option maxHeartbeats 1000000
namespace Sm
open PySem PySem.Spec PySem.Calls PyProof.Rows L2
section
variable {L : Lay} {Pr : Program} {w : World} {mg : Str → Option Value} {base : Heap} {x qual : Str} {st : Stmt} {f : Addr} {fd : FuncData} {N ps : List Str} {k c : Nat} {e1 e2 o1 o2 : Expr} {f1 f2 : Str} {q1 q2 q3 q4 : Pos}
end
end Sm
namespace Sm
open PySem PySem.W
end Sm
set_option Elab.async false
set_option linter.all false
set_option maxRecDepth 100000
set_option maxHeartbeats 1000000
namespace Sm
open PySem PySem.Spec PySem.Calls PyProof.Rows L2
section
variable {L : Lay} {P : Pa} {X : Cx} {E : L2.St → XK} {pos p p' : Pos} {e : Expr} {es : List Expr} {m : M D}
def jS (acc : Str) : D → Option Str
  | .str y => if (acc ++ y).length ≤ 16000000 then some (acc ++ y) else none
  | _ => none
def mJs : List (M D) → Str → M D
  | [], acc => fun τ => .ok (.str acc) τ
  | m :: ms, acc => fun τ => (m τ).bind fun d => fun τ => match jS acc d with
    | some a => mJs ms a τ
    | none => .fail
structure SJ (L : Lay) (P : Pa) (E : L2.St → XK) (X : Cx) (es : List Expr) (ms : List (M D)) : Prop where
  ex : ∃ ts, PJ X es ts ∧ ∀ (acc : Str) (σ : L2.St) (H : Hp) (Q : VK), (∃ τ, StR L P H σ τ ∧ Post L P (RV L) H σ τ (mJs ms acc τ) Q (E σ)) → tJs ts acc σ H fun out H1 => Q (.str out) H1
def dStr : List D → Option D
  | [.int i] => if i.natAbs.log2 < 1920 then some (.str (toString i)) else none
  | _ => none
theorem bt_str : bootBuiltins "str" = some (.type "str") := by decide +kernel
theorem fs_str : FnS L (fun xs H Q => ∃ i, xs = [V.int i] ∧ i.natAbs.log2 < 1920 ∧ Q (.str (toString i)) H) dStr := by
  intro ds d xs H A Q e r hA q
  unfold dStr at e
  split at e
  · split at e
    · rename_i hz
      cases e
      obtain ⟨v, rfl, rv⟩ := r.one
      rw [rv.int]
      exact ⟨_, rfl, hz, q _ H (.refl _) .mk_str⟩
    · cases e
  · cases e
end
end Sm
set_option Elab.async false
set_option linter.all false
set_option maxRecDepth 100000
set_option maxHeartbeats 1000000
namespace Sm
open PySem PySem.Spec PySem.Calls PyProof.Rows L2
section
variable {L : Lay} {P : Pa} {X : Cx} {E : L2.St → XK} {pos p : Pos} {x : Str} {k : Nat} {f : Addr} {fd : FuncData} {ps ks : List Str} {io : List Bool} {fn : List D → RF} {ix : List Nat} {kws : List Keyword} {mk : M (List D)}
end
end Sm
set_option Elab.async false
set_option linter.all false
set_option maxRecDepth 100000
set_option maxHeartbeats 2000000
namespace Sm
open PySem PySem.Spec
section
variable {prog : Program} {w : World} {A : Around} {E : Value → Shared → Prop} {s : Shared} {R : Result → Shared → Prop} {z TI TO i1 i2 l1 l2 S : Addr} {xs ys : Array Value}
def ZlSt (z TI TO i1 i2 l1 l2 S : Addr) (xs ys : Array Value) (i : Nat) (h : Heap) : Prop := IsPair h TI (.ref i1) (.ref i2) ∧ h.IsListIter i1 l1 i ∧ h.IsListIter i2 l2 i ∧ h.IsList l1 xs ∧ h.IsList l2 ys ∧
  ((IsZip h z TI TO .none ∧ ∃ a b, IsPair h TO a b) ∨ ∃ T f oT, IsZipHeld h z TI TO T f ∧ h.get? T = some oT ∧ T ≠ z ∧ T ≠ i1 ∧ T ≠ i2 ∧ T ≠ S)
theorem ZlSt.keep {i : Nat} {h h' : Heap} (q : S ∉ [z, TI, TO, i1, i2, l1, l2]) (x : ZlSt z TI TO i1 i2 l1 l2 S xs ys i h) (k : ∀ b o, b ≠ S → h.get? b = some o → h'.get? b = some o) : ZlSt z TI TO i1 i2 l1 l2 S xs ys i h' := by
  simp only [List.mem_cons, List.not_mem_nil, or_false, not_or] at q
  obtain ⟨q1, q2, q3, q4, q5, q6, q7⟩ := q
  obtain ⟨a1, a2, a3, a4, a5, a6⟩ := x
  refine ⟨k _ _ (Ne.symm q2) a1, a2.at fun o e => k _ o (Ne.symm q4) e, a3.at fun o e => k _ o (Ne.symm q5) e, a4.at fun o e => k _ o (Ne.symm q6) e, a5.at fun o e => k _ o (Ne.symm q7) e, ?_⟩
  rcases a6 with ⟨b1, a, b, b2⟩ | ⟨T, f, oT, b1, b2, r1, r2, r3, r4⟩
  · exact .inl ⟨k _ _ (Ne.symm q1) b1, a, b, k _ _ (Ne.symm q3) b2⟩
  · exact .inr ⟨T, f, oT, k _ _ (Ne.symm q1) b1, k _ _ r4 b2, r1, r2, r3, r4⟩
structure ZlG (xs ys : Array Value) (lo : Addr) (h : Heap) (as : List Addr) : Prop where
  rise : as.Pairwise (· < ·)
  above : ∀ a ∈ as, lo < a
  pairs : ∀ (j : Nat) (a : Addr), as[j]? = some a → ∃ x y, xs[j]? = some x ∧ ys[j]? = some y ∧ IsPair h a x y
theorem ZlG.there {lo : Addr} {h : Heap} {as : List Addr} (g : ZlG xs ys lo h as) {a : Addr} (ha : a ∈ as) : a < h.objs.size := by
  obtain ⟨j, hj⟩ := List.mem_iff_getElem?.mp ha
  obtain ⟨_, _, _, _, e⟩ := g.pairs j a hj
  exact Heap.lt_size e
end
end Sm
set_option Elab.async false
set_option linter.all false
set_option maxRecDepth 100000
set_option maxHeartbeats 2000000
namespace Sm
open PySem PySem.Spec
section
variable {prog : Program} {w : World} {A : Around} {E : Value → Shared → Prop} {s : Shared} {z TI TO i1 i2 l1 l2 S : Addr} {xs ys : Array Value}
end
end Sm
set_option Elab.async false
set_option linter.all false
set_option maxRecDepth 100000
set_option maxHeartbeats 1000000
namespace Sm
open PySem PySem.Spec PySem.Calls PyProof.Rows L2
section
variable {X : Cx} {e e2 : Expr} {ta : TA} {p p2 q pos : Pos}
end
section
variable {L : Lay} {P : Pa} {X : Cx} {E : L2.St → XK} {e e2 : Expr} {ms : M (List D)} {p p2 q pos : Pos}
end
end Sm
set_option Elab.async false
set_option linter.all false
set_option maxRecDepth 100000
set_option maxHeartbeats 1000000
namespace Sm
open PySem PySem.Spec PySem.Calls PyProof.Rows L2
section
variable {L : Lay} {P : Pa} {X : Cx} {E : L2.St → XK} {e : Expr} {me : M D} {k : Nat} {p1 p2 p3 pos : Pos}
end
end Sm
set_option Elab.async false
set_option linter.all false
set_option maxRecDepth 100000
set_option maxHeartbeats 1000000
namespace Sm
open PySem PySem.Spec PyProof.Rows HT
section
variable {prog : Program} {w : World} {A : Around} {E : Value → Shared → Prop} {s : Shared}
theorem filterMap_same {α β : Type} {f g : α → Option β} : ∀ {l : List α}, (∀ x ∈ l, f x = g x) → l.filterMap f = l.filterMap g
  | [], _ => rfl
  | x :: l, h => by
    rw [List.filterMap_cons, List.filterMap_cons, h x List.mem_cons_self, filterMap_same fun y hy => h y (List.mem_cons_of_mem _ hy)]
theorem rev_pick (xs : Array Value) : ((List.range xs.size).filterMap fun (k : Nat) => xs[(((xs.size : Nat) : Int) - 1 + (k : Int) * (-1)).toNat]?).toArray = xs.toList.reverse.toArray := by
  congr 1
  apply List.ext_getElem?
  intro i
  have e : (List.range xs.size).filterMap (fun (k : Nat) => xs[(((xs.size : Nat) : Int) - 1 + (k : Int) * (-1)).toNat]?) = (List.range xs.size).map fun k => xs.getD (xs.size - 1 - k) Value.none := by
    rw [← List.filterMap_eq_map]
    refine filterMap_same fun k hk => ?_
    have hk := List.mem_range.mp hk
    have e : (((xs.size : Nat) : Int) - 1 + (k : Int) * (-1)).toNat = xs.size - 1 - k := by omega
    have hlt : xs.size - 1 - k < xs.size := by omega
    rw [e, Array.getElem?_eq_getElem hlt]
    show _ = some (xs.getD (xs.size - 1 - k) Value.none)
    rw [Array.getD_eq_getD_getElem?, Array.getElem?_eq_getElem hlt]; rfl
  rw [e, List.getElem?_map]
  by_cases h : i < xs.size
  · rw [List.getElem?_range h, List.getElem?_reverse (by simpa using h)]
    show some (xs.getD (xs.size - 1 - i) Value.none) = _
    have hlt : xs.size - 1 - i < xs.size := by omega
    rw [Array.getD_eq_getD_getElem?, Array.getElem?_eq_getElem hlt, Array.length_toList, Array.getElem?_toList, Array.getElem?_eq_getElem hlt]; rfl
  · rw [List.getElem?_eq_none (by simpa using h), List.getElem?_eq_none (by simpa using h)]; rfl
theorem sliced_rev {sl : Addr} {vl vu vs : Value} {n : Nat} {Q : Int × Int × Nat → Shared → Prop} (hs : s.heap.IsSliceOf sl vl vu vs) (pl : IsPart vl none) (pu : IsPart vu none) (ps : IsPart vs (some (-1)))
    (h : Q (((n : Nat) : Int) - 1, -1, n) s) : wpAny (model prog w) A (Builtin.Slice.sliceApplied (.ref sl) (pure (n : Int))) Q E s := by
  obtain ⟨os, hos, hcs, hds⟩ := id hs
  unfold Builtin.Slice.sliceApplied Builtin.Slice.sliceFields
  refine wpAny_bind (wpAny_bind (wpAny_field hos hds (x := vl) rfl (wpAny_bind (wpAny_field hos hds (x := vu) rfl (wpAny_bind (wpAny_field hos hds (x := vs) rfl (wpAny_pure ?_)))))))
  refine wpAny_bind (slicePart_ ps ?_)
  show wpAny _ _ (if ((-1 : Int) == 0) = true then _ else _) _ _ s
  rw [if_neg (by decide)]
  refine wpAny_bind (slicePart_ pl (wpAny_bind (slicePart_ pu (wpAny_bind (wpAny_pure ?_)))))
  have e : Builtin.Slice.sliceAdjust none none (-1) (n : Int) = ((n : Int) - 1, -1) := by
    unfold Builtin.Slice.sliceAdjust
    simp
  show wpAny _ _ (match Builtin.Slice.sliceAdjust none none (-1) (n : Int) with | (lo, hi) => pure (lo, (-1 : Int), Builtin.Slice.slicePlaces lo hi (-1))) _ _ s
  rw [e]
  have e2 : Builtin.Slice.slicePlaces ((n : Int) - 1) (-1) (-1) = n := by
    unfold Builtin.Slice.slicePlaces
    simp
    try omega
  show wpAny _ _ (pure ((n : Int) - 1, (-1 : Int), Builtin.Slice.slicePlaces ((n : Int) - 1) (-1) (-1))) _ _ s
  rw [e2]
  exact wpAny_pure h
end
end Sm
set_option Elab.async false
set_option linter.all false
set_option maxRecDepth 100000
set_option maxHeartbeats 1000000
namespace Sm
open PySem PySem.Spec PySem.Calls PyProof.Rows L2
section
variable {L : Lay} {P : Pa} {X : Cx} {W : WX} {pos pos' p p' : Pos} {e : Expr} {es : List Expr} {ms : M (List D)} {x : Str}
variable {c n k : Nat} {ns : List Str} {ini : List D → Option (List D)} {fI : Addr} {fd : FuncData} {ps : List Str}
end
section
variable {X : Cx} {pins : List (Addr × Obj)} {σ : L2.St} {H : Hp} {s : Shared} {a C dx : Addr}
variable {x n : Str} {c : Value} {i : Nat} {body suite : List Stmt} {b₀ : Stmt} {np pos pos' : Pos} {tb : WX → TS} {ts : Addr → TS} {Wout : WX}
end
end Sm
set_option Elab.async false
set_option linter.all false
set_option maxRecDepth 100000
set_option maxHeartbeats 1000000
namespace Sm
open PySem PySem.Spec PySem.Calls PyProof.Rows L2
section
variable {L : Lay} {P : Pa} {X : Cx} {W : WX}
theorem StR.unset {H : Hp} {σ : L2.St} {τ : List Sl} {i : Nat} (x : Option V) (R : StR L P H σ τ) :
    Tr H (Own σ τ) H (Own (σ.set i x) (τ.set i .un)) ∧ StR L P H (σ.set i x) (τ.set i .un) := by
  have sub : ∀ j a, OwnAt (σ.set i x) (τ.set i .un) j a → OwnAt σ τ j a := fun j a ⟨e, t, et, ow⟩ => by
    by_cases hj : i = j
    · subst hj
      have hi : i < τ.length := by have := (List.getElem?_eq_some_iff.mp et).1; rwa [List.length_set] at this
      rw [List.getElem?_set_self hi] at et
      cases et
      cases ow
    · rw [List.getElem?_set_ne hj] at et e
      exact ⟨e, t, et, ow⟩
  have tr : Tr H (Own σ τ) H (Own (σ.set i x) (τ.set i .un)) := ⟨fun _ _ q _ => q, fun a ⟨j, q⟩ => .inl ⟨j, sub j a q⟩, fun _ o h => ⟨o, h⟩⟩
  refine ⟨tr, by rw [List.length_set, List.length_set]; exact R.len, fun j k b x y => R.inj j k b (sub j b x) (sub k b y), fun b ⟨j, q⟩ => R.dis b ⟨j, sub j b q⟩, R.bth0, fun j t ht => ?_⟩
  by_cases hj : i = j
  · subst hj
    have hi : i < τ.length := by have := (List.getElem?_eq_some_iff.mp ht).1; rwa [List.length_set] at this
    rw [List.getElem?_set_self hi] at ht
    cases ht
    trivial
  · rw [List.getElem?_set_ne hj] at ht
    rw [List.getElem?_set_ne hj]
    have q := R.sl j t ht
    cases t with
    | un => trivial
    | fz d' => obtain ⟨v, e2, r2⟩ := q; exact ⟨v, e2, r2.same (R.fz tr)⟩
    | ow d' => obtain ⟨b, e2, r2⟩ := q; exact ⟨b, e2, r2.step (R.fz tr) rfl⟩
    | le d' => obtain ⟨b, e2, r2⟩ := q; exact ⟨b, e2, r2.step (R.fz tr) rfl⟩
    | io k d' => obtain ⟨b, e2, e3, r2⟩ := q; exact ⟨b, e2, e3, r2.step (R.fz tr) rfl⟩
    | oo d' => obtain ⟨b, e2, r2⟩ := q; exact ⟨b, e2, r2.step (R.fz tr) rfl⟩
def unset (i : Nat) (r : SR) : SR :=
  match r with
  | .nx τ => .nx (τ.set i .un)
  | .bk τ => .bk (τ.set i .un)
  | .ct τ => .ct (τ.set i .un)
  | .rt d τ => .rt d (τ.set i .un)
  | _ => .fail
variable {x n : Str} {c : Value} {i : Nat} {body suite : List Stmt} {b₀ : Stmt} {np pos pos' : Pos} {m ms : MS}
end
end Sm
set_option Elab.async false
set_option linter.all false
set_option maxRecDepth 100000
set_option maxHeartbeats 1000000
namespace Sm
open PySem PySem.Spec PySem.Calls PyProof.Rows L2
section
variable {L : Lay} {P : Pa} {X : Cx} {E : L2.St → XK} {p p' pos : Pos} {a b : Expr} {ma mb : M D}
theorem PostF.sp {H : Hp} {σ : L2.St} {τ : List Sl} {r : Res D} {f : D → M D} {Q : VK} {e : XK} (h : PostF L P H σ τ (r.bind f) Q e) :
    Post L P (RV L) H σ τ r (fun v H1 => ∃ a τ1, Tr H (Own σ τ) H1 (Own σ τ1) ∧ StR L P H1 σ τ1 ∧ Rp L (hid H1 (Hd P σ τ1)) a v ∧ PostF L P H1 σ τ1 (f a τ1) Q e) e := by
  cases r with
  | ok d τ' =>
    intro v H' x y z
    refine ⟨d, τ', x, y, z, ?_⟩
    have h : PostF L P H σ τ (f d τ') Q e := h
    revert h
    cases f d τ' with
    | ok d2 τ2 => exact fun h a H2 t => h a H2 (x.trans t)
    | exc c xs τ2 => exact fun h cls od H2 t => h cls od H2 (x.trans t)
    | fail => exact fun h => h
  | exc c xs τ' => exact h
  | fail => exact h
end
end Sm
set_option Elab.async false
set_option linter.all false
set_option maxRecDepth 100000
set_option maxHeartbeats 1000000
namespace Sm
open PySem PySem.Spec PySem.Calls PyProof.Rows L2 SlX
section
variable {L : Lay} {P : Pa} {X : Cx} {E : L2.St → XK} {pos apos : Pos} {e o a b : Expr} {es : List Expr} {m mo ma mb : M D} {mr : M (List Ar)} {mk : M (List D)}
variable {k n c : Nat} {f : Addr} {fd : FuncData} {ps ks : List Str} {io : List Bool} {fn : List D → RF} {ix : List Nat} {dds : List D} {x : Str} {kws : List Keyword} {nm : Str} {pl : Sem Bool}
end
end Sm
set_option Elab.async false
set_option linter.all false
set_option maxRecDepth 100000
set_option maxHeartbeats 1000000
namespace Sm
open PySem PySem.Spec PySem.Calls PyProof.Rows L2
section
variable {L : Lay} {P : Pa} {X : Cx} {E : L2.St → XK} {pos apos : Pos} {e o tg : Expr} {m mo me : M D}
variable {k n : Nat} {es : List Expr} {mr : M (List Ar)} {x : Str} {p : Pos}
structure FunT (L : Lay) (X : Cx) (k n : Nat) (c : Nat) (fn : List D → RF) : Prop where
  kp : PySem.W.keepIn L.K (.ref (L.cls c)) = true
  ok : ∃ fd ps, FnOk X.prog X.w X.K X.mg X.base (L2.CX X.prog X.w) k (L.cls c) fd ps (spF L (List.replicate n false) fn) ∧ Bd L fd ps n [] (List.range n) []
end
end Sm
set_option Elab.async false
set_option linter.all false
set_option maxRecDepth 100000
set_option maxHeartbeats 1000000
namespace Sm
open PySem PySem.Spec PySem.Calls PyProof.Rows L2
section
variable {L : Lay}
end
end Sm
set_option Elab.async false
set_option linter.all false
set_option maxRecDepth 100000
set_option maxHeartbeats 1000000
namespace Sm
open PySem PySem.Spec PySem.Calls PyProof.Rows L2
section
variable {L : Lay} {P : Pa} {X : Cx} {W : WX} {pos : Pos} {H H1 H2 : Hp} {σ σ' : L2.St} {τ τ1 τ2 τ' : List Sl} {a : Addr} {d1 d2 : D}
variable {i j : Nat} {x y : Str} {e1 e2 : Expr} {m1 m2 : M D} {px py pt : Pos} {kt k2 pt2}
end
end Sm
set_option Elab.async false
set_option linter.all false
set_option maxRecDepth 100000
set_option maxHeartbeats 1000000
namespace Sm
open PySem PySem.Spec PySem.Calls PyProof.Rows L2
structure StatM (K : PySem.W.Frag) (C : Addr) (nm : Str) (f : Addr) : Prop where
  ga : PySem.W.specialIn K (.ref C) "__getattribute__" = some (some (.builtin "type.__getattribute__"))
  rd : PySem.W.readsIn K C (.type "type") = true
  fc : ∃ p rest, PySem.W.findCls K (.ref C) (.type "type") nm = some (.get (.builtin "staticmethod.__get__") (.ref p) .none (.ref C)) ∧ PySem.W.recIn K p "staticmethod" = some (.ref f :: rest)
  kp : PySem.W.keepIn K (.ref f) = true
section
variable {L : Lay} {P : Pa} {X : Cx} {E : L2.St → XK} {pos apos p0 : Pos} {e : Expr} {es : List Expr} {mr : M (List Ar)} {mk : M (List D)}
variable {k n c : Nat} {f : Addr} {fd : FuncData} {ps ks : List Str} {io : List Bool} {fn : List D → RF} {ix : List Nat} {dds : List D} {x : Str} {kws : List Keyword} {nm : Str} {pl : Sem Bool}
end
end Sm
set_option Elab.async false
set_option linter.all false
set_option maxRecDepth 100000
set_option maxHeartbeats 1000000
namespace Sm
open PySem PySem.Spec PySem.Calls PyProof.Rows L2
section
variable {L : Lay} {X : Cx}
end
end Sm
set_option Elab.async false
set_option linter.all false
set_option maxRecDepth 100000
set_option maxHeartbeats 1000000
namespace Sm
open PySem PySem.Spec PySem.Calls PyProof.Rows L2
section
variable {prog : Program} {w : World} {A : Around} {E : Value → Shared → Prop} {s : Shared}
theorem getItem_tuple_rev {t sl : Addr} {items : Array Value} {vl vu vs : Value} {Q : Value → Shared → Prop} (ht : IsTup s.heap t items) (hs : s.heap.IsSliceOf sl vl vu vs) (pl : IsPart vl none) (pu : IsPart vu none) (ps : IsPart vs (some (-1)))
    (h : Q (.ref s.heap.objs.size) { s with heap := s.heap.push { cls := .type "tuple", data := .seq items.toList.reverse.toArray } })
    (hsz : items.size ≤ sizeLine) : wpAny (model prog w) A (getItem (.ref t) (.ref sl)) Q E s := by
  have htake : sizeOk (.seq items.toList.reverse.toArray) := by
    show items.toList.reverse.toArray.size ≤ sizeLine
    rw [List.size_toArray, List.length_reverse, Array.length_toList]
    omega
  obtain ⟨os, hos, hcs, hds⟩ := id hs
  have hTs : s.TypeIs (.ref sl) "slice" := ⟨os, hos, hcs⟩
  unfold getItem
  try with_reducible refine wpAny_holding ?_
  first | refine wpAny_bind (wpAny_pure ?_) | skip
  refine wpAny_bind (wpAny_sequenceKey ht.typeIs (by decide) ?_)
  refine wpAny_bind (wpAny_callSpecial?_slot (name := Str.ofString "__getitem__") ht.typeIs PyProof.Rows.slot_tuple_getitem
    (wpAny_call_entry PyProof.Rows.slot_tuple_getitem ht.typeIs entry_tuple_getitem ?_ (args_tuple_getitem _ _)))
  show wpAny _ _ (Builtin.Tuple.tupleItemsOf (.ref t) >>= _) _ _ s
  refine wpAny_bind (tupleItemsOf_ ht ?_)
  refine wpAny_bind (wpAny_typeOf hTs ?_)
  rw [if_pos (by decide)]
  refine wpAny_bind (sliced_rev hs pl pu ps ?_)
  have hno : ¬ (((((items.size : Nat) : Int) - 1) == 0 && (-1 : Int) == 1 && items.size == items.size) = true) := by
    intro q
    rw [Bool.and_eq_true, Bool.and_eq_true] at q
    exact absurd q.1.2 (by decide)
  show wpAny _ _ (if ((((items.size : Nat) : Int) - 1) == 0 && (-1 : Int) == 1 && items.size == items.size) = true then _ else _) _ _ s
  rw [if_neg hno, rev_pick]
  first
    | exact wpAny_bind (m := Builtin.Tuple.tupleExact _) (wpAny_newObj_type (wpAny_pure ⟨_, rfl, wpAny_pure h⟩) htake)
    | exact wpAny_bind (m := Builtin.Tuple.tupleExact _) (wpAny_newObj_type (wpAny_bind (wpAny_pure (wpAny_pure ⟨_, rfl, wpAny_pure h⟩))) htake)
    | exact wpAny_bind (wpAny_bind (m := Builtin.Tuple.tupleExact _) (wpAny_newObj_type (wpAny_pure (wpAny_pure ⟨_, rfl, wpAny_pure h⟩)) htake))
    | exact wpAny_bind (wpAny_bind (m := Builtin.Tuple.tupleExact _) (wpAny_newObj_type (wpAny_pure ⟨_, rfl, wpAny_pure h⟩) htake))
end
section
variable {X : Cx} {e : Expr} {te : TE}
def tRev2 (K : PySem.W.Frag) (te : TE) : TE := fun σ H Q => te σ H fun x H1 => ∃ a xs, x = .ref a ∧ ((SqL K H1 a xs ∧ ∀ p, H1 p = none → Q (.ref p) (upd H1 p (.lst xs.reverse))) ∨ (SqT K H1 a xs ∧ ∀ p, H1 p = none → Q (.ref p) (upd H1 p (.tup xs.reverse))))
theorem pe_rev2 {k : Nat} {p1 p2 p3 pos : Pos} (he : PE X e te) : PE X (.Subscript e (.Slice none none (some (.UnaryOp .USub (.Constant (.int 1) k p1) p2)) p3) pos) (tRev2 X.K te) := by
  refine ⟨fun pins s σ H Q I h => ?_⟩
  refine Subscript_ (thn (he.run pins s σ H _ I h) fun v s1 ⟨x, H1, I1, r1, q1⟩ => ?_)
  obtain ⟨a, xs, ex, q⟩ := q1
  subst ex
  cases r1
  have hst : PO X (some (.UnaryOp .USub (.Constant (.int 1) k p1) p2)) (tPart (tUn (rU fun i => .int (-i)) (L2.tC (.int 1)))) := po_some (pe_un un_neg pe_int)
  refine wpAny_Slice (thn (po_none.run pins s1 σ H1 (fun o H2 => o = none ∧ H2 = H1) I1 ⟨rfl, rfl⟩) fun vl s2 ⟨l, H2, I2, pl, el, e2⟩ => ?_)
  subst el e2
  refine thn (po_none.run pins s2 σ H2 (fun o H3 => o = none ∧ H3 = H2) I2 ⟨rfl, rfl⟩) fun vu s3 ⟨u, H3, I3, pu, eu, e3⟩ => ?_
  subst eu e3
  refine thn (hst.run pins s3 σ H3 (fun o H4 => o = some (-1) ∧ H4 = H3) I3 ⟨1, rfl, -1, rfl, rfl, rfl⟩) fun vs s4 ⟨o, H4, I4, ps, eo, e4⟩ => ?_
  subst eo e4
  have I5 : Inv X pins σ H4 { s4 with heap := s4.heap.push { cls := .type "slice", data := .fields #[vl, vu, vs] } } := I4.kept (t' := s4.toks) fun b ob q => Heap.get?_push_of_some _ q
  rcases q with ⟨hx, q⟩ | ⟨hx, q⟩
  · obtain ⟨its, r, ht, hz⟩ := I5.list hx
    have hlen := r.length
    show wpAny (model X.prog X.w) X.A (subscriptTail e (.Slice none none (some (.UnaryOp .USub (.Constant (.int 1) k p1) p2)) p3) (.ref a) (.ref s4.heap.objs.size)) (EP X pins σ Q) X.xe { s4 with heap := s4.heap.push { cls := .type "slice", data := .fields #[vl, vu, vs] } }
    refine tail_any (ops := [.ref a, .ref s4.heap.objs.size]) ht.isList.typeIs (PySem.slot_list_getitem.lookup) ?_ (by with_unfolding_all rfl)
    refine wpAny_getItem_list_slice ht.isList (Heap.IsSliceOf.new _ vl vu vs) pl pu ps (by decide) ?_ (by rw [List.size_toArray]; omega)
    rw [PySem.W.krv_pick]
    refine ⟨.ref _, _, I5.laid (t' := s4.toks) (o := .lst xs.reverse) (fun b ob q => Heap.get?_push_of_some _ q) (Nat.le_refl _) ?_, rfl, q _ (I5.hok.fresh (Nat.le_refl _))⟩
    exact ⟨by rw [List.length_reverse]; exact hz, _, 0, r.reverse, Heap.get?_push_size _ rfl⟩
  · obtain ⟨its, r, ht, hz⟩ := I5.tuple hx
    have hlen : its.toArray.size = xs.length := by rw [List.size_toArray]; exact r.length.symm
    show wpAny (model X.prog X.w) X.A (subscriptTail e (.Slice none none (some (.UnaryOp .USub (.Constant (.int 1) k p1) p2)) p3) (.ref a) (.ref s4.heap.objs.size)) (EP X pins σ Q) X.xe { s4 with heap := s4.heap.push { cls := .type "slice", data := .fields #[vl, vu, vs] } }
    refine tail_any (ops := [.ref a, .ref s4.heap.objs.size]) ht.typeIs (PyProof.Rows.slot_tuple_getitem.lookup) ?_ (by with_unfolding_all rfl)
    refine getItem_tuple_rev ht (Heap.IsSliceOf.new _ vl vu vs) pl pu ps ?_ (by rw [hlen]; exact hz)
    refine ⟨.ref _, _, I5.laid (t' := s4.toks) (o := .tup xs.reverse) (fun b ob q => Heap.get?_push_of_some _ q) (Nat.le_refl _) ?_, rfl, q _ (I5.hok.fresh (Nat.le_refl _))⟩
    exact ⟨by rw [List.length_reverse]; exact hz, _, r.reverse, IsTup.new _ _⟩
end
section
variable {L : Lay} {P : Pa} {X : Cx} {E : L2.St → XK} {e : Expr} {me : M D} {k : Nat} {p1 p2 p3 pos : Pos}
def dRev2 : D → Option D
  | .lst xs => some (.lst xs.reverse)
  | .tup xs => some (.tup xs.reverse)
  | _ => none
theorem sE_rev2 (hL : LX L X) (he : SE L P E X e me) : SE L P E X (.Subscript e (.Slice none none (some (.UnaryOp .USub (.Constant (.int 1) k p1) p2)) p3) pos) (mUn dRev2 me) :=
  PE.weak (pe_rev2 he) fun σ H Q ⟨τ, R, h⟩ => by
    refine ⟨τ, R, (Post.split (R := RV L) h).imp fun v H1 ⟨d1, τ1, t1, R1, r1, h1⟩ => ?_⟩
    obtain ⟨d, e1, q⟩ := h1.done R1
    cases d1 with
    | lst xs =>
      cases e1
      obtain ⟨a, vs, rfl, ha, rr⟩ := Rp.lst_iff.mp r1
      rw [hL.K]
      exact ⟨a, vs, rfl, .inl ⟨.inl (.inl (hid_le _ _ ha)), fun p hp => q _ _ (.of (same_upd hp)) (new_lst R1.ths hp rr.rev)⟩⟩
    | tup xs =>
      cases e1
      obtain ⟨a, vs, rfl, s1, rr⟩ := r1
      rw [hL.K]
      exact ⟨a, vs, rfl, .inr ⟨SqT.same hid_le s1, fun p hp => q _ _ (.of (same_upd hp)) (new_tup R1.ths hp rr.rev)⟩⟩
    | _ => cases e1
end
section
variable {L : Lay} {P : Pa} {W : WX} {X : Cx} {E : L2.St → XK} {pos : Pos} {e : Expr} {m : M D}
end
section
variable {L : Lay} {P : Pa} {X : Cx} {E : L2.St → XK} {tg : Expr} {pos : Pos} {ms : M (List D)}
end
end Sm
set_option Elab.async false
set_option linter.all false
set_option maxRecDepth 100000
set_option maxHeartbeats 1000000
namespace Sm
open PySem PySem.Spec PySem.Calls PyProof.Rows L2
section
variable {L : Lay} {P : Pa} {X : Cx} {W : WX} {H H1 H2 : Hp} {σ : L2.St} {τ τ1 : List Sl} {i : Nat} {l a : Addr}
end
end Sm
set_option Elab.async false
set_option linter.all false
set_option maxRecDepth 100000
set_option maxHeartbeats 400000
namespace Sm
open PySem PySem.Spec PyProof.Rows L2
section
variable {P : Program} {w : World} {A : Around} {E : Value → Shared → Prop} {s : Shared}
set_option maxHeartbeats 3200000 in
end
end Sm
set_option Elab.async false
set_option linter.all false
set_option maxRecDepth 100000
set_option maxHeartbeats 1000000
namespace Sm
open PySem PySem.Spec PySem.Calls PyProof.Rows L2
section
variable {L : Lay} {P : Pa} {X : Cx} {W : WX} {E : L2.St → XK} {pos pos' : Pos} {e a b : Expr} {m ma mb : M D}
end
end Sm
set_option Elab.async false
set_option linter.all false
set_option maxRecDepth 100000
set_option maxHeartbeats 1000000
namespace Sm
open PySem PySem.Spec PySem.Calls PyProof.Rows L2
section
variable {L : Lay} {P : Pa} {X : Cx} {E : L2.St → XK} {pos : Pos} {σ : L2.St} {vs vs1 : List Nat}
theorem PI.exB {X : Cx} {tg e : Expr} {m : M (List D)} {A : List V} (h : ∀ P : Pa, PI X tg e (tI L P E m)) : PI X tg e (fun σ H R => ∃ B, tI L ⟨A, B⟩ E m σ H R) := ⟨fun pins s σ H R I ⟨B, q⟩ => (h ⟨A, B⟩).run pins s σ H R I q⟩
end
end Sm
set_option Elab.async false
set_option linter.all false
set_option maxRecDepth 100000
set_option maxHeartbeats 1000000
namespace Sm
open PySem PySem.Spec PySem.Calls PyProof.Rows L2
mutual
def hshK : NestedKey → Option Int
  | .num i => some (hashInt i)
  | .tup ks => (hshKs ks).map fun hs => reduceHash (Builtin.Tuple.tupleHashOf hs)
  | .none => none
  | .text _ => none
def hshKs : List NestedKey → Option (List Int)
  | [] => some []
  | k :: ks => (hshK k).bind fun h => (hshKs ks).map fun hs => h :: hs
end
mutual
theorem hshK_ok (w : World) : ∀ {k : NestedKey} {h : Int}, hshK k = some h → k.hash w = h
  | .num i, h, e => by unfold hshK at e; cases e; unfold NestedKey.hash; rfl
  | .tup ks, h, e => by
    unfold hshK at e
    obtain ⟨hs, e1, rfl⟩ := Option.map_eq_some_iff.mp e
    unfold NestedKey.hash
    rw [hshKs_ok w e1]
  | .none, _, e => by unfold hshK at e; cases e
  | .text _, _, e => by unfold hshK at e; cases e
theorem hshKs_ok (w : World) : ∀ {ks : List NestedKey} {hs : List Int}, hshKs ks = some hs → NestedKey.hashes w ks = hs
  | [], _, e => by unfold hshKs at e; cases e; unfold NestedKey.hashes; rfl
  | k :: ks, _, e => by
    unfold hshKs at e
    obtain ⟨h, e1, e2⟩ := Option.bind_eq_some_iff.mp e
    obtain ⟨hs, e3, rfl⟩ := Option.map_eq_some_iff.mp e2
    unfold NestedKey.hashes
    rw [hshK_ok w e1, hshKs_ok w e3]
end
section
variable {prog : Program} {w : World} {A : Around} {E : Value → Shared → Prop} {s : Shared} {K : Type} [DecidableEq K]
end
section
variable {L : Lay} {X : Cx}
variable {P : Pa} {E : L2.St → XK} {pos : Pos} {e : Expr} {es : List Expr} {ms : M (List D)}
end
end Sm
set_option Elab.async false
set_option linter.all false
set_option maxRecDepth 100000
set_option maxHeartbeats 1000000
namespace Sm
open PySem PySem.Spec PySem.Calls PyProof.Rows L2
abbrev Mat := List (List Int)
abbrev iv (r : List Int) : List V := r.map V.int
structure Mt (H : Hp) (a : Addr) (bs : List Addr) (M : Mat) : Prop where
  top : H a = some (.lst (bs.map V.ref))
  len : bs.length = M.length
  row : ∀ (i : Nat) b r, bs[i]? = some b → M[i]? = some r → H b = some (.lst (iv r))
theorem Mt.get {H : Hp} {a : Addr} {bs : List Addr} {M : Mat} (h : Mt H a bs M) {i : Nat} {r : List Int} (e : M[i]? = some r) : ∃ b, bs[i]? = some b ∧ H b = some (.lst (iv r)) ∧ b ∈ bs := by
  have hi : i < bs.length := by rw [h.len]; exact (List.getElem?_eq_some_iff.mp e).1
  exact ⟨bs[i], List.getElem?_eq_getElem hi, h.row i _ r (List.getElem?_eq_getElem hi) e, List.getElem_mem hi⟩
theorem Kin.keep {H H' : Hp} (k : Kin H H') (x : Addr) (o : HO) (e : H x = some o) (m : ¬ MkH o := by first | assumption | exact NoMk.no) : H' x = some o := k.tr.keep x o e (fun z => z) m
theorem Kin.hid {H H' : Hp} (k : Kin H H') {A : Addr → Prop} : Same (hid H A) H' := fun b o e => by
  obtain ⟨g1, _, g3⟩ := hid_some.mp e
  exact k.keep b o g1
theorem Kin.upd {H H' : Hp} (k : Kin H H') {b : Addr} (hb : H b = none) (o : HO) : Kin H (upd H' b o) :=
  ⟨⟨fun x u e n => by rw [upd_ne (ne_of_none e hb)]; exact k.tr.keep0 x u e n, fun _ z => z.elim, fun x u e => by rw [upd_ne (ne_of_none e hb)]; exact k.tr.there x u e⟩⟩
theorem Mt.same {H H' : Hp} {a : Addr} {bs : List Addr} {M : Mat} (h : Mt H a bs M) (e : Kin H H') : Mt H' a bs M := ⟨e.keep _ _ h.top, h.len, fun i b r h1 h2 => e.keep _ _ (h.row i b r h1 h2)⟩
theorem Mt.other {H : Hp} {a : Addr} {bs : List Addr} {M : Mat} (h : Mt H a bs M) {x : Addr} {o : HO} (n : x ∉ a :: bs) : Mt (upd H x o) a bs M :=
  ⟨by rw [upd_ne (fun z => n (by rw [← z]; exact List.mem_cons_self))]; exact h.top, h.len, fun i b r h1 h2 => by
    rw [upd_ne (fun z => n (by rw [← z]; exact List.mem_cons_of_mem _ (List.mem_of_getElem? h1)))]; exact h.row i b r h1 h2⟩
theorem Mt.set {H : Hp} {a : Addr} {bs : List Addr} {M : Mat} (h : Mt H a bs M) (nd : (a :: bs).Nodup) {i : Nat} {b : Addr} {r : List Int} (e : bs[i]? = some b) : Mt (upd H b (.lst (iv r))) a bs (M.set i r) := by
  have n := List.nodup_cons.mp nd
  have ba : a ≠ b := fun z => n.1 (by rw [z]; exact List.mem_of_getElem? e)
  have il : i < M.length := by rw [← h.len]; exact (List.getElem?_eq_some_iff.mp e).1
  refine ⟨by rw [upd_ne ba]; exact h.top, by rw [List.length_set]; exact h.len, fun j c q h1 h2 => ?_⟩
  by_cases hj : i = j
  · subst hj
    rw [List.getElem?_set_self il] at h2
    rw [e] at h1
    cases h1
    cases h2
    exact upd_same
  · rw [List.getElem?_set_ne hj] at h2
    have : c ≠ b := fun z => hj ((List.getElem?_inj (List.getElem?_eq_some_iff.mp e).1 n.2).mp (by rw [e, h1, z]))
    rw [upd_ne this]
    exact h.row j c q h1 h2
section
variable {X : Cx}
def gapN : List Str := ["rows", "ticks", "top", "counts", "first", "last", "number", "found", "low", "run", "high", "turn"]
def gapL : List Str := ["rows", "ticks", "counts", "first", "last", "number", "found", "low", "run", "high"]
structure GapX (X : Cx) : Prop where
  calm : X.calm = true
  n : X.N = gapN
  loc : ∀ x ∈ gapL, X.env.scope.names.lookup x = some .local
  top : Loc X.env.scope "top"
  topf : X.fn "top" = true ∨ X.env.scope.names.lookup ("top" : Str) = some .local
  rg : Gl X "range"
  rm : X.mg "range" = none
  pass : PassesOwn (model X.prog X.w) X.A X.env X.xe
variable (G : GapX X)
include G
theorem GapX.nd : X.N.Nodup := by rw [G.n]; decide
theorem GapX.at {i : Nat} {x : Str} (h : gapN[i]? = some x) : X.N[i]? = some x := by rw [G.n]; exact h
end
end Sm
set_option Elab.async false
set_option linter.all false
set_option maxRecDepth 100000
set_option maxHeartbeats 1000000
namespace Sm
open PySem PySem.Spec PySem.Calls PyProof.Rows L2
structure Zs (top : Nat) (a1 a2 : Addr) (σ : L2.St) : Prop where
  len : σ.length = 12
  s2 : σ[2]? = some (some (.int top))
  s3 : σ[3]? = some (some (.ref a1))
  s7 : σ[7]? = some (some (.ref a2))
theorem Zs.set {top : Nat} {a1 a2 : Addr} {σ : L2.St} (z : Zs top a1 a2 σ) {i : Nat} {v : Option V} (hi : i ∈ [8, 9, 10]) : Zs top a1 a2 (σ.set i v) := by
  have h2 : i ≠ 2 := fun e => by subst e; revert hi; decide
  have h3 : i ≠ 3 := fun e => by subst e; revert hi; decide
  have h7 : i ≠ 7 := fun e => by subst e; revert hi; decide
  exact ⟨by rw [List.length_set]; exact z.len, by rw [List.getElem?_set_ne h2]; exact z.s2, by rw [List.getElem?_set_ne h3]; exact z.s3, by rw [List.getElem?_set_ne h7]; exact z.s7⟩
structure Two (H0 H : Hp) (a1 : Addr) (bs1 : List Addr) (C : Mat) (a2 : Addr) (bs2 : List Addr) (M : Mat) : Prop where
  m1 : Mt H a1 bs1 C
  m2 : Mt H a2 bs2 M
  same : Kin H0 H
section
variable {X : Cx} (G : GapX X)
include G
end
end Sm
set_option Elab.async false
set_option linter.all false
set_option maxRecDepth 100000
set_option maxHeartbeats 1000000
namespace Sm
open PySem PySem.Spec PySem.Calls PyProof.Rows L2
section
variable {X : Cx} (G : GapX X)
include G
end
section
variable {L : Lay}
variable {P : Pa} {W : WX} {X : Cx} {e1 e2 : Expr} {m1 m2 : M D}
end
end Sm
set_option Elab.async false
set_option linter.all false
set_option maxRecDepth 100000
set_option maxHeartbeats 1000000
namespace Sm
open PySem PySem.Spec PySem.Calls PyProof.Rows L2
section
variable {L : Lay} {P : Pa} {W : WX} {X : Cx} {e0 e1 e2 : Expr} {m0 m1 m2 : M D}
end
end Sm
set_option Elab.async false
set_option linter.all false
set_option maxRecDepth 100000
set_option maxHeartbeats 400000
namespace Sm
open PySem PySem.Spec PyProof.Rows L2
section
variable {P : Program} {w : World} {A : Around} {E : Value → Shared → Prop} {s : Shared}
set_option maxHeartbeats 3200000 in
end
end Sm
set_option Elab.async false
set_option linter.all false
set_option maxRecDepth 100000
set_option maxHeartbeats 1000000
namespace Sm
open PySem PySem.Spec PySem.Calls PyProof.Rows L2
section
variable {L : Lay} {P : Pa} {X : Cx} {E : L2.St → XK} {pos p : Pos} {e : Expr} {me : M D} {x : Str}
end
end Sm
set_option Elab.async false
set_option linter.all false
set_option maxRecDepth 100000
set_option maxHeartbeats 400000
namespace Sm
open PySem PySem.Spec PyProof.Rows L2
def tHash (k : List Int) : Int := reduceHash (Builtin.Tuple.tupleHashOf (k.map hashInt))
abbrev ChS : Type := Nat × Array Nat × List (Int × List Int)
section
variable {P : Program} {w : World} {A : Around} {E : Value → Shared → Prop} {s : Shared}
structure ChR (P : Program) (w : World) (h : Heap) (a : Addr) (L : List (Addr × List Int)) (es : Array (Int × Value)) (ep : Nat) (t : SetTable) (st : ChS) : Prop where
  ob : ∃ o, h.get? a = some o ∧ o.ExactSet ∧ o.data = .set es ep t
  rows : es.toList = rowsOf P w L
  keys : st.2.2 = L.map fun p => (tHash p.2, p.2)
  mask : t.mask = st.1
  place : t.place = st.2.1
  dm : t.dummies = #[]
  sz : t.place.size = L.length
  fit : L.length ≤ t.mask
  odd : t.mask % 2 = 1
  plain : t.plain = true
  led : w.params.followText "set-order" = true ∨ t.led = true
  mlt : t.mask < 4096
  nd : (L.map (·.2)).Nodup
variable {a : Addr} {L : List (Addr × List Int)} {es : Array (Int × Value)} {ep : Nat} {t : SetTable} {st : ChS}
theorem ChR.size {h : Heap} (R : ChR P w h a L es ep t st) : es.size = L.length := by
  have e := congrArg List.length R.rows
  unfold rowsOf at e
  rwa [Array.length_toList, List.length_map] at e
theorem ChR.keep {h h' : Heap} (R : ChR P w h a L es ep t st) (k : ∀ o, h.get? a = some o → h'.get? a = some o) : ChR P w h' a L es ep t st :=
  let ⟨o, ho, r⟩ := R.ob
  ⟨⟨o, k o ho, r⟩, R.rows, R.keys, R.mask, R.place, R.dm, R.sz, R.fit, R.odd, R.plain, R.led, R.mlt, R.nd⟩
end
end Sm
set_option Elab.async false
set_option linter.all false
set_option maxRecDepth 100000
set_option maxHeartbeats 400000
namespace Sm
open PySem PySem.Spec PyProof.Rows L2
section
variable {P : Program} {w : World} {A : Around} {E : Value → Shared → Prop} {s : Shared}
set_option maxHeartbeats 3200000 in
end
end Sm
set_option Elab.async false
set_option linter.all false
set_option maxRecDepth 100000
set_option maxHeartbeats 400000
namespace Sm
open PySem PySem.Spec PySem.Calls PyProof.Rows L2
section
variable {X : Cx}
variable {L : Lay} {P : Pa} {E : L2.St → XK} {e : Expr} {es : List Expr} {ms : M (List D)} {pos pos2 : Pos}
end
end Sm
set_option Elab.async false
set_option linter.all false
set_option maxRecDepth 100000
set_option maxHeartbeats 400000
namespace Sm
open PySem PySem.Spec PyProof.Rows L2
abbrev QS : Type := Nat × Nat × List (Nat × Int × List Int)
structure RelQ (q : QS) (st : ChS) : Prop where
  mask : st.1 = q.1
  place : st.2.1.toList = q.2.2.map (·.1)
  rows : st.2.2 = q.2.2.map (·.2)
  hash : ∀ r ∈ q.2.2, r.2.1 = tHash r.2.2
  ris : Ris (q.2.2.map (·.1))
  occ : ∀ j, q.2.1.testBit j = true ↔ j ∈ q.2.2.map (·.1)
end Sm
set_option Elab.async false
set_option linter.all false
set_option maxRecDepth 100000
set_option maxHeartbeats 1000000
namespace Sm
open PySem PySem.Spec PyProof.Rows L2
structure FnOkG (P : Program) (w : World) (K : PySem.W.Frag) (mg : Str → Option Value) (base : Heap) (cx : CXT) (k : Nat) (f : Addr) (fd : FuncData) (ps : List Str) (sp : Sp) : Prop where
  long : ∀ vs H Q E, sp vs H Q E → vs.length = ps.length
  go : ∀ A : Around, A.guards = some [] → ∀ (outer : List Env) (s : Shared) (H : Hp) (args : Args) (us : List Value) (vs : List V) (Q : VK) (E : XK), Room k A → Env0 P w K mg base A outer s H → BindsTo s fd args (ps.zip us) → Vals vs us → sp vs H Q E → codeAny (model P w) A (.call (.ref f) args) (CR cx outer P w H s Q E) s
theorem FnOkG.mono {P : Program} {w : World} {K : PySem.W.Frag} {mg : Str → Option Value} {base : Heap} {cx : CXT} {j k : Nat} {f : Addr} {fd : FuncData} {ps : List Str} {sp : Sp} (F : FnOkG P w K mg base cx j f fd ps sp) (h : j ≤ k) : FnOkG P w K mg base cx k f fd ps sp :=
  ⟨F.long, fun A hg outer s H args us vs Q E hr => F.go A hg outer s H args us vs Q E (hr.mono h)⟩
theorem FnOkG.imp {P : Program} {w : World} {K : PySem.W.Frag} {mg : Str → Option Value} {base : Heap} {cx : CXT} {k : Nat} {f : Addr} {fd : FuncData} {ps : List Str} {sp sp' : Sp} (F : FnOkG P w K mg base cx k f fd ps sp) (h : ∀ vs H Q E, sp' vs H Q E → sp vs H Q E) : FnOkG P w K mg base cx k f fd ps sp' :=
  ⟨fun vs H Q E q => F.long vs H Q E (h _ _ _ _ q), fun A hg outer s H args us vs Q E hr he hb hv hs => F.go A hg outer s H args us vs Q E hr he hb hv (h _ _ _ _ hs)⟩
theorem okG {cx : CXT} {Pr : Program} {w : World} {K : PySem.W.Frag} {mg : Str → Option Value} {base : Heap} {x qual : Str} {st : Stmt} {f : Addr} {fd : FuncData} {N ps : List Str} {k : Nat} {sp : Sp} (F : Fun K x qual st f fd) (S : FnScope N ps (defScope st)) (long : ∀ vs H Q E, sp vs H Q E → vs.length = ps.length)
    (hbody : ∀ (cdv : Value) (A : Around) (outer : List Env) (s : Shared) (H : Hp) (vs : List V) (Q : VK) (E : XK), A.guards = some [] → Room k (A.deeper (envOfC qual (defScope st) s.heap.objs.size f cdv)) → sp vs H Q E →
      ∃ t, PSs (cxOf cx Pr w K mg base N qual (defScope st) f cdv A outer s H E) (defBody st) t ∧ t { nx := fun _ H' => Q .non H', rt := Q } (L2.start N vs) H) : FnOkG Pr w K mg base cx (k + 1) f fd ps sp := by
  obtain ⟨oc, od, kV, doc, pm, an, cdv, ct, osl, rfl, lk, hcd⟩ := F.ex
  refine ⟨long, fun A hg outer s H args us vs Q E hr env bound vals pre => ?_⟩
  have inK : K.In s.heap := env.mod.kin.keeps fun b o e => (env.bs b o e).1
  have nol : s.heap.NoLimit := env.mod.nolimit.keeps fun b o e => (env.bs b o e).1
  refine codeAny_call_function hr.depth (inK _ _ lk) rfl S.co S.gen rfl (PySem.W.codeRec_of inK hcd) (bound _ _ _ _ ?_)
  refine wpAny_newFunctionEnv_cells S.kind (fun y hy => ?_) fun e1 he1 s1 inn => ?_
  · obtain ⟨n, v⟩ := y
    cases S.par n (List.of_mem_zip hy).1 with
    | inl q => exact .inl q
    | inr q => exact .inr ⟨q, PySem.W.cellsFrom_some _ _ _ (.inl q)⟩
  · cases he1
    refine ⟨nol.keeps inn.toInCall.keep, codeAny_func ?_⟩
    obtain ⟨t, ht, hq⟩ := hbody cdv A outer s H vs Q E hg (hr.deeper _) pre
    refine wpAny_mono (ht.run [] s1 (L2.start N vs) H _ (inv_start S hr.hd env (long _ _ _ _ pre) vals inn) hq) (fun r s2 out => ?_) fun _ _ z => z
    cases r with
    | ret u => obtain ⟨v, σ2, H2, J, rv, q⟩ := out; exact ⟨v, H2, J.os, J.bare, J.base, J.hok, rv, q⟩
    | next => obtain ⟨σ2, H2, J, q⟩ := out; exact ⟨.non, H2, J.os, J.bare, J.base, J.hok, (rfl : RelV V.non Value.none), q⟩
    | brk => obtain ⟨_, _, _, no⟩ := out; exact no.elim
    | cont => obtain ⟨_, _, _, no⟩ := out; exact no.elim
section
variable {L : Lay} {P : Pa} {W : WX} {X : Cx} {E : L2.St → XK} {pos : Pos}
theorem fn_okG {Pr : Program} {w : World} {mg : Str → Option Value} {base : Heap} {x qual : Str} {st : Stmt} {f : Addr} {fd : FuncData} {N ps : List Str} {k : Nat} {io : List Bool} {b : MS} (F : Fun L.K x qual st f fd) (S : FnScope N ps (defScope st))
    (hio : io.length = ps.length) (hN : io.length ≤ N.length)
    (body : ∀ (cdv : Value) (A : Around) (outer : List Env) (s : Shared) (H : Hp) (E : XK) (P : Pa), A.guards = some [] → Room k (A.deeper (envOfC qual (defScope st) s.heap.objs.size f cdv)) →
      SSs L P (Wof E) (cxB Pr w L.K mg base N qual (defScope st) f cdv A outer s H E) (defBody st) b) : FnOkG Pr w L.K mg base (L2.CX Pr w) (k + 1) f fd ps (spF L io (mkF N.length io b)) := by
  refine okG F S (fun vs H Q E ⟨ds, B, hd, R, _⟩ => ?_) (fun cdv A outer s H vs Q E hgd hr ⟨ds, B, hd, R, h⟩ => ⟨_, body cdv A outer s H E ⟨vs, B⟩ hgd hr, ?_⟩)
  · have hl := R.len
    rw [List.length_map, argS_length 0 io ds hd] at hl
    rw [hl, hio]
  · have hl : vs.length = io.length := by
      have hl := R.len
      rw [List.length_map, argS_length 0 io ds hd] at hl
      exact hl
    obtain ⟨R0, oo⟩ := start_ok (N := N) hd hN R
    refine ⟨_, R0, ?_⟩
    unfold mkF at h
    rw [if_pos hd] at h
    have tr : ∀ {H' : Hp} {A' : Addr → Prop}, Tr H (Own (L2.start N vs) (argS 0 io ds ++ List.replicate (N.length - io.length) Sl.un)) H' A' → Tr H (Own (vs.map some) (argS 0 io ds)) H' A' := fun {H' A'} t =>
      ⟨fun a o e n => t.keep0 a o e fun z => n (z.mono fun b q => (oo b).mp q), fun a q => (t.new a q).elim (fun z => .inl ((oo a).mp z)) .inr, t.there⟩
    revert h
    cases b (argS 0 io ds ++ List.replicate (N.length - io.length) Sl.un) with
    | nx τ' =>
      intro h σ' H' t R'
      obtain ⟨t2, R2, mono⟩ := out_ok hl (tr t) R'
      exact h .non H' t2 R2 (Rp.non_iff.mpr rfl)
    | rt d τ' =>
      intro h v σ' H' t R' r
      obtain ⟨t2, R2, mono⟩ := out_ok hl (tr t) R'
      exact h v H' t2 R2 (r.same mono)
    | ro d τ' =>
      intro h a σ' H' t R' r
      by_cases hany : io.any id = true
      · replace h : FPost L ⟨vs, B⟩ H (argS 0 io ds) (if io.any id = true then RF.fail else .own d) Q E := h
        rw [if_pos hany] at h
        exact h.elim
      · replace h : FPost L ⟨vs, B⟩ H (argS 0 io ds) (if io.any id = true then RF.fail else .own d) Q E := h
        rw [if_neg hany] at h
        have no : ∀ b, ¬ Own (vs.map some) (argS 0 io ds) b := fun b ⟨j, _, t, et, ow⟩ => by
          rw [argS_own 0 io ds (by simpa using hany) t (List.mem_of_getElem? et)] at ow
          cases ow
        have fr : H a = none := t.src.resolve_left fun z => no a ((oo a).mp z)
        exact h a H' ⟨fun b o e n => t.keep0 b o e fun z => n (z.mono fun b q => (oo b).mp q), fun _ z => z.elim, fun b o e => by
          by_cases hb : b = a
          · rw [hb, fr] at e; cases e
          · exact t.there b o hb e⟩ (r.step (hid_mono (.refl _) fun b z => .inr z) rfl)
    | exc c xs τ' =>
      intro h cls od σ' H' t R' ex
      have h : FPost L ⟨vs, B⟩ H (argS 0 io ds) (if io.any id = true then RF.exo c xs (outD 0 io τ') else .exc c xs) Q E := h
      by_cases hany : io.any id = true
      · rw [if_pos hany] at h
        obtain ⟨t2, R2, mono⟩ := out_ok hl (tr t) R'
        exact h cls od H' t2 R2 (ex.same mono)
      · rw [if_neg hany] at h
        exact h cls od H' ⟨(tr t).keep0, fun _ z => z.elim, (tr t).there⟩ (ex.same (hid_mono (.refl _) fun b z => .inr z))
    | bk τ' => exact fun h => h.elim
    | ct τ' => exact fun h => h.elim
    | fail => exact fun h => h.elim
variable {e : Expr} {es : List Expr} {k n : Nat} {f : Addr} {fd : FuncData} {ps ks : List Str} {io : List Bool} {fn : List D → RF} {ix : List Nat} {dds : List D} {x : Str} {p : Pos} {ma : M (List Ar)}
theorem run_callG {pins : List (Addr × Obj)} {σ : L2.St} {τ : List Sl} {H : Hp} {s : Shared} {Q : VK} {us ws : List Value} {vs zs : List V} {as : List Ar} {ds : List D} (hK : X.K = L.K) (F : FnOkG X.prog X.w X.K X.mg X.base (L2.CX X.prog X.w) k f fd ps (spF L io fn)) (hgd : X.A.guards = some []) (hr : Room k X.A)
    (hb : Bd L fd ps n ks ix dds) (hx : PassesAt (L2.CX X.prog X.w) X σ (E σ)) (I : Inv X pins σ H s) (R : StR L P H σ τ) (r1 : Vals vs us) (r2 : Vals zs ws) (q1 : Ars L σ (hid H (Hd P σ τ)) as vs) (q2 : Rps L (hid H (Hd P σ τ)) ds zs)
    (h : Post L P (RV L) H σ τ (if as.length = n ∧ ds.length = ks.length then callR io fn (pick ix (as ++ ds.map Ar.v ++ dds.map Ar.v)) τ else .fail) Q (E σ)) :
    wpAny (model X.prog X.w) X.A (call (.ref f) us (ks.zip ws)) (EP X pins σ Q) X.xe s := by
  split at h
  · rename_i hl
    obtain ⟨dvs, dws, dv, dd, to⟩ := hb.ex
    have ra : Ars L σ (hid H (Hd P σ τ)) (as ++ ds.map Ar.v ++ dds.map Ar.v) (vs ++ zs ++ dvs) := (q1.app q2.ars).app (dd _).ars
    have rv : Vals (vs ++ zs ++ dvs) (us ++ ws ++ dws) := (r1.append r2).append dv
    have sp : spF L io fn (ix.map fun i => (vs ++ zs ++ dvs).getD i .non) H Q (E σ) := call_ok R (ars_pick ra ix) h
    refine wpAny_call (codeAny_mono (F.go X.A hgd X.stack s H ⟨us, ks.zip ws⟩ _ _ Q (E σ) hr I.env0 (to s us ws (by rw [← hK]; exact I.kIn) (by rw [← r1.length, q1.length]; exact hl.1) (by rw [← r2.length, q2.length]; exact hl.2)) (vals_pick rv ix) sp) fun r s' hq => ?_)
    cases r with
    | error e => exact hx pins H s e s' I hq
    | ok fl =>
      cases fl with
      | ret u => exact I.after hq
      | next => exact False.elim hq
      | brk => exact False.elim hq
      | cont => exact False.elim hq
  · exact h.elim
theorem sE_callG (hgd : X.A.guards = some []) (hK : X.K = L.K) (F : FnOkG X.prog X.w X.K X.mg X.base (L2.CX X.prog X.w) k f fd ps (spF L io fn)) (hr : Room k X.A) (hg : Gl X x) (hm : X.mg x = some (.ref f)) (hk : PySem.W.keepIn X.K (.ref f) = true) (hb : Bd L fd ps n [] ix dds)
    (hx : ∀ σ, PassesAt (L2.CX X.prog X.w) X σ (E σ)) (ha : SAr L P E X (e :: es) ma) (hdb : (x == ("__debug__" : Str)) = false := by decide) (he : starEach (e :: es) X.env = (false, eval e X.env) :: starEach es X.env := by rfl) (hpl : (backTo pos (starEach es X.env)).any (·.1) = false := by rfl) :
    SE L P E X (.Call (.Name x p) (e :: es) [] pos) (mCall io fn n 0 ix dds ma mNil) := by
  refine ⟨fun pins s σ H Q I ⟨τ, R, h⟩ => ?_⟩
  refine wpAny_Call_Name_kw (ld_glob I hg hm ?_ hdb)
  refine PySem.W.callWith_K (h₀ := X.base) I.ok.mod.kin hk (thn (ha.run pos pins s σ H _ I ⟨τ, R, Post.split (R := fun F a v => Ars L σ F a v) h⟩) fun us s1 ⟨vs, H1, I1, r, as, τ1, t1, R1, q1, h1⟩ => ⟨I1.kIn, ?_⟩) he hpl
  exact run_callG (ks := []) (ws := []) hK F hgd hr hb (hx σ) I1 R1 r .nil q1 .nil h1
end
end Sm
set_option Elab.async false
set_option linter.all false
set_option maxRecDepth 100000
set_option maxHeartbeats 1000000
namespace Sm
open PySem PySem.Spec PySem.Calls PyProof.Rows L2
section
variable {L : Lay} {P : Pa} {X : Cx} {E : L2.St → XK} {pos : Pos}
def rReprD (K : PySem.W.Frag) : List V → Hp → VK → Prop := fun xs H Q => ∃ v d, xs = [v] ∧ Dp K H v d ∧ d.showable = true ∧ d.hasDict = false ∧ d.depth < 40 ∧ d.shown.length ≤ sizeLine ∧ Q (.str d.shown) H
theorem cr_repr (hg : X.A.guards = some []) (hu : X.A.units + 64 < cLine) : CallR X (.builtin "repr") (rReprD X.K) := by
  intro pins s σ H xs us Q I r h
  obtain ⟨v, d, rfl, dp, hs, hd, hdep, hz, q⟩ := h
  cases r with
  | cons ru t =>
    cases t
    rename_i u
    obtain ⟨as, rd⟩ := Dp.reads I d v u dp ru
    have noD : d.hasDict = true → sysModules ∉ as := fun z => by rw [hd] at z; cases z
    have fin : ∀ (h' : Heap) (tk tk' : Tok), (∀ b o, s.heap.get? b = some o → h'.get? b = some o) → EP X pins σ Q (.str d.shown tk) { s with heap := h', toks := tk' } := fun h' tk tk' k => ⟨.str d.shown, H, I.kept k, ⟨tk, rfl⟩, q⟩
    cases u with
    | ref a => exact repr_of_reads' rd hs noD hg (by omega) (fun _ _ e => e) (fun h' u tk k => fin h' u tk k) hz
    | none =>
      cases rd
      exact PySem.P.repr_of_none (fin s.heap _ _ fun _ _ e => e)
    | bool b =>
      cases rd
      exact PySem.P.repr_of_bool (fin s.heap _ _ fun _ _ e => e)
    | int i t =>
      cases rd
      have hs : decide (i.natAbs.log2 < 1920) = true := hs
      exact PySem.P.repr_of_int (of_decide_eq_true hs) (fin s.heap _ _ fun _ _ e => e)
    | str x t =>
      cases rd
      exact PySem.P.repr_of_str (fin s.heap _ _ fun _ _ e => e) hz
    | _ => cases rd
def dRepr : List D → Option D
  | [d] => d.py.bind fun p => if p.showable = true ∧ p.hasDict = false ∧ p.depth < 40 ∧ p.shown.length ≤ 16777216 then some (.str p.shown) else none
  | _ => none
theorem fs_repr : FnS L (rReprD L.K) dRepr := by
  intro ds d xs H A Q e r hA q
  unfold dRepr at e
  split at e
  · obtain ⟨p, e1, e2⟩ := Option.bind_eq_some_iff.mp e
    split at e2
    · rename_i hz
      cases e2
      obtain ⟨v, rfl, rv⟩ := r.one
      exact ⟨v, p, rfl, dp_bp hid_le rv e1, hz.1, hz.2.1, hz.2.2.1, by rw [sizeLine_eq]; exact hz.2.2.2, q _ _ (.refl _) (Rp.str_iff.mpr rfl)⟩
    · cases e2
  · cases e
theorem bt_repr : bootBuiltins "repr" = some (.builtin "repr") := by decide +kernel
variable {o : Expr} {mo : M D} {apos : Pos}
def dUpper : D → Option D
  | .str a => if a.length ≤ 5592405 then some (.str (Txt.upper a)) else none
  | _ => none
theorem sE_upper (ho : SE L P E X o mo) (hbase : attributeBase o "upper" X.env (eval o X.env) = eval o X.env := by rfl) (hline : (apos.endLine == pos.line) = true := by rfl) :
    SE L P E X (.Call (.Attribute o "upper" apos) [] [] pos) (mUn dUpper mo) :=
  PE.weak (pe_upper ho hbase hline) fun σ H Q ⟨τ, R, h⟩ => by
    refine ⟨τ, R, (Post.split (R := RV L) h).imp fun x H1 ⟨d1, τ1, t1, R1, r1, h1⟩ => ?_⟩
    obtain ⟨d, e, q⟩ := h1.done R1
    cases d1 with
    | str a =>
      have e : (if a.length ≤ 5592405 then some (D.str (Txt.upper a)) else none) = some d := e
      split at e
      · rename_i hz
        cases e
        have hx := Rp.str_iff.mp r1
        exact ⟨⟨a, hx⟩, a, hx, rfl, hz, q _ _ (.refl _) (Rp.str_iff.mpr rfl)⟩
      · cases e
    | _ => cases e
end
end Sm
set_option Elab.async false
set_option linter.all false
set_option maxRecDepth 100000
set_option maxHeartbeats 1000000
namespace Sm
open PySem PySem.Spec PySem.Calls PyProof.Rows L2
section
variable {P : Program} {w : World} {K : PySem.W.Frag} {mg mb : Str → Option Value} {cx : CXT} {k : Nat} {fa a : Addr} {fd : FuncData} {x : Str} {sp : Sp} {s1 : Shared} {vs : List Value} {ns : List Int}
def scH (a : Addr) (u : Option HO) : Hp := fun b => if b = a then u else none
theorem scH_at {u : Option HO} {b : Addr} {o : HO} (h : scH a u b = some o) : b = a ∧ u = some o := by
  unfold scH at h
  split at h
  · exact ⟨‹_›, h⟩
  · cases h
theorem scH_off {u : Option HO} {b : Addr} (h : b ≠ a) : scH a u b = none := if_neg h
theorem runG {u : Option HO} (hu : u = none ∨ ∃ o xs, u = some (.frz o (.lst xs))) (KX : K.In s1.heap) (hns : s1.heap.Ns mainGlobals mg) (hb : s1.heap.Ns builtinsNs mb) (hbb : ∀ y : Str, y ≠ "__name__" → mb y = bootBuiltins y) (hlim : s1.heap.NoLimit) (hg : s1.gens = #[])
    (ha : s1.heap.get? a = some { cls := .type "list", data := .seq vs.toArray }) (hr : Room k callerA) (hsq : SqL K (scH a u) a (ns.map V.int)) (hok : HOk P w (scH a u) s1.heap) (hK : u ≠ none → K.lookup a = none)
    (F : ∀ base : Heap, K.In base → base.Ns mainGlobals mg → FnOkG P w K mg base cx k fa fd [x] sp) (hbind : ∀ (s : Shared) (v : Value), BindsTo s fd ⟨[v], []⟩ [(x, v)])
    (hsp : Only (scH a u) → sp [.ref a] (scH a u) (fun v _ => v = .bl true) fun _ _ _ => False) (hCX : ∀ e s', cx [] (scH a u) s1 (fun _ _ _ => False) e s' → False) :
    codeAny (model P w) callerA (.call (.ref fa) ⟨[.ref a], []⟩) (fun r s' => r = .ok (.ret (.bool true)) ∧ OldK s1.heap s'.heap ∧ s'.os = s1.os ∧ AllBare s'.gens) s1 := by
  have only : Only (scH a u) := fun b => by
    by_cases e : b = a
    · subst e
      rcases hu with z | ⟨o, xs, z⟩
      · exact .inl (by rw [scH, if_pos rfl]; exact z)
      · exact .inr ⟨o, xs, by rw [scH, if_pos rfl]; exact z⟩
    · exact .inl (scH_off e)
  have seen : ∀ {b : Addr} {o : Obj}, s1.heap.get? b = some o → scH a u b = none → (hidT s1.heap (scH a u)).get? b = some o := fun e n => hidT_get e n
  have unsaid : ∀ {b : Addr}, b ≠ a ∨ u = none → scH a u b = none := fun {b} h => by
    by_cases e : b = a
    · rcases h with h | h
      · exact absurd e h
      · rw [scH, if_pos e]; exact h
    · exact scH_off e
  have space : ∀ {b : Addr} {m : Str → Option Value}, s1.heap.Ns b m → (hidT s1.heap (scH a u)).Ns b m := fun {b m} ⟨o, es, ep, e, d, r⟩ => by
    refine ⟨o, es, ep, seen e (unsaid (.inl fun z => ?_)), d, r⟩
    rw [z, ha] at e
    cases e
    have d2 : Data.seq vs.toArray _ = Data.dict es ep := d
    cases d2
  have inB : K.In (hidT s1.heap (scH a u)) := fun b o e => seen (KX b o e) (unsaid (by
    by_cases z : b = a
    · cases hq : u with
      | none => exact .inr rfl
      | some q => rw [z, hK (by rw [hq]; exact Option.some_ne_none q)] at e; cases e
    · exact .inl z))
  have md : Mod K mg (hidT s1.heap (scH a u)) := by
    obtain ⟨mc, l1, l2⟩ := hlim
    exact ⟨inB, space hns, ⟨mb, space hb, hbb⟩, mc, space l1, l2⟩
  have env : Env0 P w K mg (hidT s1.heap (scH a u)) callerA [] s1 (scH a u) := ⟨rfl, md, fun b o e => of_hidT e, Nat.le_of_eq (hidT_size _ _), trivial, fun b z => (by cases z), hok, .of_eq hg⟩
  refine codeAny_mono ((F _ inB (space hns)).go callerA rfl [] s1 (scH a u) ⟨[.ref a], []⟩ [.ref a] [.ref a] _ _ hr env (hbind s1 (.ref a)) (.cons rfl .nil) (hsp only)) fun r s' out => ?_
  cases r with
  | error e => exact (hCX e s' out).elim
  | ok fl =>
    cases fl with
    | next => exact False.elim out
    | brk => exact False.elim out
    | cont => exact False.elim out
    | ret z =>
      obtain ⟨v, H2, os, bare, un, ok2, rel, yes⟩ := out
      have yes : v = .bl true := yes
      subst yes
      cases (show z = Value.bool true from rel)
      refine ⟨rfl, OldK.of_keep fun b o e => ?_, os, bare⟩
      cases told : scH a u b with
      | none => exact un.keep b o e told (fun z => by cases z) (by simp)
      | some q =>
        rcases only b with z | ⟨ob, xs, z⟩
        · rw [told] at z; cases z
        · have e1 := (hok b _ z).1
          have e2 := (ok2 b _ (un.frzs b ob _ z)).1
          rw [e] at e1
          cases e1
          exact e2
theorem law_callG (KX : K.In s1.heap) (hns : s1.heap.Ns mainGlobals mg) (hb : s1.heap.Ns builtinsNs mb) (hbb : ∀ y : Str, y ≠ "__name__" → mb y = bootBuiltins y) (hlim : s1.heap.NoLimit) (hg : s1.gens = #[])
    (ha : s1.heap.get? a = some { cls := .type "list", data := .seq vs.toArray }) (hi : IntsAre vs ns) (hl : ns.length ≤ sizeLine) (hr : Room k callerA)
    (F : ∀ base : Heap, K.In base → base.Ns mainGlobals mg → FnOkG P w K mg base cx k fa fd [x] sp) (hbind : ∀ (s : Shared) (v : Value), BindsTo s fd ⟨[v], []⟩ [(x, v)])
    (hsp : ∀ H : Hp, Only H → SqL K H a (ns.map V.int) → sp [.ref a] H (fun v _ => v = .bl true) fun _ _ _ => False) (hCX : ∀ H e s', cx [] H s1 (fun _ _ _ => False) e s' → False) :
    codeAny (model P w) callerA (.call (.ref fa) ⟨[.ref a], []⟩) (fun r s' => r = .ok (.ret (.bool true)) ∧ OldK s1.heap s'.heap ∧ s'.os = s1.os ∧ AllBare s'.gens) s1 := by
  have rv := vals_ints hi
  cases own : K.lookup a with
  | some o =>
    have e := KX a o own
    rw [ha] at e
    cases e
    have sq : SqL K (scH a none) a (ns.map V.int) := .inr ⟨_, vs.toArray, _, own, rfl, rfl, rfl, by rw [List.size_toArray, hi.length]; exact hl, by simpa using rv⟩
    exact runG (.inl rfl) KX hns hb hbb hlim hg ha hr sq (fun b u z => (by have z := (scH_at z).2; cases z)) (fun z => absurd rfl z) F hbind (fun h => hsp _ h sq) fun e s' => hCX _ e s'
  | none =>
    have at_ : scH a (some (.frz { cls := .type "list", data := .seq vs.toArray } (.lst (ns.map V.int)))) a = some (.frz { cls := .type "list", data := .seq vs.toArray } (.lst (ns.map V.int))) := if_pos rfl
    have sq : SqL K (scH a (some (.frz { cls := .type "list", data := .seq vs.toArray } (.lst (ns.map V.int))))) a (ns.map V.int) := .inl (.inr ⟨{ cls := .type "list", data := .seq vs.toArray }, at_⟩)
    refine runG (.inr ⟨_, _, rfl⟩) KX hns hb hbb hlim hg ha hr sq (fun b u z => ?_) (fun _ => own) F hbind (fun h => hsp _ h sq) fun e s' => hCX _ e s'
    have e1 := (scH_at z).1
    have e2 := Option.some.inj (scH_at z).2
    subst e1 e2
    exact ⟨ha, by rw [List.length_map]; exact hl, vs, _, rv, ha⟩
end
open Att in
theorem walk_ofG {l : PySem.W.OpenLaw} {n k : Nat} {q : Program} {loose : List Str} {XP : (Str → Option Value) → Heap → Prop} {YP : World → Heap → Prop} {d : DefRec} {K : Params → PySem.W.Frag} {cx : World → CXT} {sp : World → Sp} {x : Str}
    (hn : l.most = some n) (hn2 : n ≤ sizeLine) (hdf : d.params.defaults = []) (hr : Room k callerA) (hY : ∀ (w : World) (h : Heap), YP w h → (K w.params).In h)
    (F : ∀ (w : World) (mg : Str → Option Value) (fa : Addr) (h : Heap), (K w.params).In h → h.Ns mainGlobals mg → mg d.name = some (.ref fa) →
      ∃ fd : FuncData, (∀ (s : Shared) (u : Value), BindsTo s fd ⟨[u], []⟩ [(x, u)]) ∧ ∀ base : Heap, (K w.params).In base → base.Ns mainGlobals mg → FnOkG l.prog w (K w.params) mg base (cx w) k fa fd [x] (sp w))
    (hsp : ∀ (w : World) (H : Hp) (a : Addr) (ns : List Int), ns.length ≤ n → Only H → SqL (K w.params) H a (ns.map V.int) → sp w [.ref a] H (fun v _ => v = .bl true) fun _ _ _ => False)
    (hCX : ∀ (w : World) (H : Hp) (s : Shared) (e : Value) (s' : Shared), cx w [] H s (fun _ _ _ => False) e s' → False) :
    PySem.W.WalkO q loose XP YP l.row.toRowW d [] (fun f vs => PySem.call f vs) := by
  refine Att.attach_callB hn hdf fun w s0 s1 mg mb fa o pm cd doc a vs ns G Y ho hd hcd hmg hobj hints hlen _ hg => ?_
  have KX := hY w _ Y
  obtain ⟨fd, hb, hF⟩ := F w mg fa _ KX G.T.g hmg
  exact law_callG KX G.T.g G.T.b G.T.builtins G.T.nolimit hg hobj hints (Nat.le_trans hlen hn2) hr hF hb (fun H hO hS => hsp w H a ns hlen hO hS) fun H e s' => hCX w H s1 e s'
end Sm
set_option Elab.async false
set_option linter.all false
set_option maxRecDepth 100000
set_option maxHeartbeats 400000
namespace Sm
open PySem PySem.Spec PyProof.Rows L2
section
variable {P : Program} {w : World} {A : Around} {E : Value → Shared → Prop} {s : Shared}
set_option maxHeartbeats 3200000 in
theorem set_of_intsT {l : Addr} {items : Array Value} (ns : List Int) {Q : Value → Shared → Prop} (hh : A.handled = none) (hl : s.heap.IsTuple l items) (hit : IntsAre items.toList ns) (hb : ns.length + 1 < scanBound)
    (h : ∀ (h' : Heap) (tk c : Nat), SetR w h' s.heap.objs.size (fun j => decide (j ∈ ns)) c → (∀ b o, s.heap.get? b = some o → h'.get? b = some o) → Q (.ref s.heap.objs.size) { s with heap := h', toks := tk }) :
    wpAny (model P w) A (call (.type "set") [.ref l]) Q E s := by
  have size : items.size = ns.length := by rw [← Array.length_toList]; exact IntsAre.length hit
  obtain ⟨c, tl, hmro⟩ := F.called_set.mro
  have hmade := F.called_set.made
  have hsub := F.called_set.sub
  have h1 := F.called_set.notType
  have h2 := F.called_set.canCreate
  have hct := F.typeCall_set_1 (.ref l)
  refine wpAny_call (codeAny_of_tree ?_)
  show wpAny _ _ (callAny (.type "set") _) _ _ _
  refine wpAny_pure ⟨Code.quiet_builtin _ (by decide +kernel), codeAny_builtin F.entry_type_call ?_⟩
  rw [Around.under_plain (weight_type_call_type "set" [.ref l] []) rfl]
  repeat (any_goals (first | assumption | wp_step))

  refine codeAny_mono (code_set_led1 (.ref l) (E := E) (Q₁ := fun v s₁ => v = .ref s.heap.objs.size ∧ s₁ = { s with heap := s.heap.push { cls := .type "set", dict := none, data := .set #[] 0 (.fresh 0 0 (!w.params.followText "set-order")) } }) ⟨rfl, rfl⟩) fun r s₁ hr => ?_
  match r, hr with
  | .error e, hr => exact hr
  | .ok (.ret obj), hr =>
    obtain ⟨rfl, rfl⟩ := hr
    have hS : (s.heap.push { cls := .type "set", dict := none, data := .set #[] 0 (.fresh 0 0 (!w.params.followText "set-order")) }).get? s.heap.objs.size = some { cls := .type "set", dict := none, data := .set #[] 0 (.fresh 0 0 (!w.params.followText "set-order")) } := Heap.get?_push_size _ rfl
    have hT : Shared.TypeIs { s with heap := s.heap.push { cls := .type "set", dict := none, data := .set #[] 0 (.fresh 0 0 (!w.params.followText "set-order")) } } (.ref s.heap.objs.size) "set" := ⟨_, hS, rfl⟩
    have hli := F.called_set.init.lookup
    have hbi := F.called_set.init.bind (.ref s.heap.objs.size)
    repeat (any_goals (first | assumption | wp_step))

    refine codeAny_mono (codeAny_call_builtin (R := wants (fun r s₂ => r = .none ∧ ∃ h' tk c, s₂ = { s with heap := h', toks := tk } ∧ SetR w h' s.heap.objs.size (fun j => decide (j ∈ ns)) c ∧
        (∀ b o, s.heap.get? b = some o → h'.get? b = some o)) E) F.called_set.init.plain F.entry_set_init (check_set_init_1 hT ?_)) fun r₂ s₂ hr₂ => ?_
    · have old : ∀ b o, s.heap.get? b = some o → (s.heap.push { cls := .type "set", dict := none, data := .set #[] 0 (.fresh 0 0 (!w.params.followText "set-order")) }).get? b = some o := fun b o e => Heap.get?_push_of_some _ e
      obtain ⟨ol, hol, hcl, nl, hdl⟩ := hl
      have hlS : l < s.heap.objs.size := Heap.lt_size hol
      obtain ⟨ocls, odict, odata, oslots⟩ := ol
      simp only at hcl hdl
      subst hcl; subst hdl
      have hol' := old _ _ hol
      have hsls := F.sub_tuple_set
      have hslf := F.sub_tuple_frozenset
      have hne : (Value.type "tuple" == Value.type "dict") = false := by decide
      have hl1 : (s.heap.push { cls := .type "set", dict := none, data := .set #[] 0 (.fresh 0 0 (!w.params.followText "set-order")) }).IsTuple l items := ⟨_, hol', rfl, nl, rfl⟩
      unfold Builtin.«set.__init__» noKeywords Builtin.Frozenset.updateFrom
      generalize hPI : pyIter = PI
      wp_walk
      subst hPI

      refine wpAny_pyIter_tuple hl1 ?_
      refine wpAny_bind (wpAny_runValue ?_)
      have hh3 : A.in1.in1.in1.handled = none := by simp [hh]
      have hneI : l ≠ (s.heap.push { cls := .type "set", dict := none, data := .set #[] 0 (.fresh 0 0 (!w.params.followText "set-order")) }).objs.size := by
        rw [Heap.size_push]; exact Nat.ne_of_lt (Nat.lt_succ_of_lt hlS)
      have hSf : s.heap.objs.size ∉ [(s.heap.push { cls := .type "set", dict := none, data := .set #[] 0 (.fresh 0 0 (!w.params.followText "set-order")) }).objs.size, l] := by
        rw [Heap.size_push]
        simp only [List.mem_cons, List.mem_singleton, List.not_mem_nil, or_false, not_or]
        exact ⟨Nat.ne_of_lt (Nat.lt_succ_self _), Nat.ne_of_gt hlS⟩
      have hval : ∀ (i : Nat) (v : Value), items[i]? = some v → ∃ k t, ns[i]? = some k ∧ v = .int k t := fun i v hv => by
        have hi : i < ns.length := by rw [← size]; exact (Array.getElem?_eq_some_iff.mp hv).1
        obtain ⟨t, e⟩ := PyProof.Rows.IntsAre.int_at hit i v (by rw [Array.getElem?_toList]; exact hv)
        refine ⟨ns[i], t, List.getElem?_eq_getElem hi, ?_⟩
        rw [e, List.getD_eq_getElem?_getD, List.getElem?_eq_getElem hi] <;> rfl
      have fresh : ((s.heap.push { cls := .type "set", dict := none, data := .set #[] 0 (.fresh 0 0 (!w.params.followText "set-order")) }).push { cls := .type "tuple_iterator", data := .fields #[.ref l, .int 0 0] }).get? s.heap.objs.size
          = some { cls := .type "set", dict := none, data := .set #[] 0 (.fresh 0 0 (!w.params.followText "set-order")) } := Heap.get?_push_of_some _ hS
      refine set_update_ints ((Walks.tuple hh3 _ l hneI items).toS) s.heap.objs.size hSf ns size hb hval (items.size - 0) 0 _ (by omega) (Nat.zero_le _)
        ⟨⟨_, Heap.get?_push_size _ rfl, rfl, rfl⟩, (hl1.push _)⟩ ⟨0, Nat.le_refl 0, setR_new_at fresh⟩ fun s' c' hm hc' hS' => ?_
      obtain ⟨h', g2, d', tk', os'⟩ := s'
      have eg : g2 = s.gens := hm.gens
      have ed : d' = s.drawn := hm.drawn
      have eo : os' = s.os := hm.os
      subst eg; subst ed; subst eo
      show wpAny _ _ _ _ _ _
      refine wpAny_pure ?_
      show wpAny _ _ (ret Value.none) _ _ _
      refine wpAny_pure ⟨rfl, h', tk', c', rfl, hS', fun b o e => ?_⟩
      have hb0 : b < s.heap.objs.size := Heap.lt_size e
      refine hm.heap b o ?_ (Heap.get?_push_of_some _ (old b o e))
      rw [Heap.size_push]
      simp only [List.mem_cons, List.mem_singleton, List.not_mem_nil, or_false, not_or]
      exact ⟨Nat.ne_of_lt hb0, Nat.ne_of_lt (Nat.lt_succ_of_lt hb0)⟩
    · match r₂, hr₂ with
      | .error e, hr₂ => exact hr₂
      | .ok (.ret r), hr₂ =>
        obtain ⟨rfl, h', tk, c', rfl, hS', hk'⟩ := hr₂
        repeat (any_goals (first | assumption | wp_step))
        exact h _ _ _ hS' hk'
end
section
variable {L : Lay} {X : Cx}
def rSetOfIT (K : PySem.W.Frag) (w : World) : List V → Hp → VK → Prop := fun xs H Q => ∃ (l : Addr) (ns : List Int), xs = [V.ref l] ∧ SqT K H l (ns.map V.int) ∧ ns.length < 2000 ∧
  ∀ a, H a = none → Q (.ref a) (upd H a (SetO w a (fun k => decide (k ∈ sortU ns)) (sortU ns).length))
theorem cr_setOfIT (hc : X.calm = true) : CallR X (.type "set") (rSetOfIT X.K X.w) := by
  intro pins s σ H xs us Q I r h
  obtain ⟨l, ns, rfl, hl, hf, q⟩ := h
  rw [Vals.ref1 r]
  obtain ⟨its, rv, pl, hz⟩ := I.tuple hl
  have hn : H s.heap.objs.size = none := I.hok.fresh (Nat.le_refl _)
  refine set_of_intsT (P := X.prog) (w := X.w) ns (I.ok.hd hc) pl (by simpa using intsAre_of rv) (by unfold scanBound; omega) fun h' tk c R k => ?_
  have hnum := setR_num R
  subst hnum
  have ef : (fun j => decide (j ∈ ns)) = fun j => decide (j ∈ sortU ns) := by
    funext j
    exact decide_eq_decide.mpr sortU_mem.symm
  rw [ef] at R
  exact ⟨.ref s.heap.objs.size, upd H s.heap.objs.size (SetO X.w s.heap.objs.size (fun k => decide (k ∈ sortU ns)) (sortU ns).length), I.laid (t' := tk) k (Nat.le_refl _) (setO_new R), rfl, q _ hn⟩
def rSet7 (K : PySem.W.Frag) (P : Program) (w : World) : List V → Hp → VK → Prop := fun xs H Q => rSet2 K P w xs H Q ∨ rSetOfIT K w xs H Q
theorem cr_set7 (hc : X.calm = true) (hu : X.A.units + 64 < cLine) : CallR X (.type "set") (rSet7 X.K X.prog X.w) := by
  intro pins s σ H xs us Q I r h
  rcases h with h | h
  · exact cr_set2 hc hu pins s σ H xs us Q I r h
  · exact cr_setOfIT hc pins s σ H xs us Q I r h
def dSet7 : List D → Option D
  | [.tup xs] => (intsD xs).bind fun ns => if ns.length < 2000 then some (.set ((sortU ns).map .int)) else none
  | ds => dSet2 ds
theorem fs_set7 : FnS L (rSet7 L.K L.pr L.w) dSet7 := by
  intro ds d xs H A Q e r hA q
  unfold dSet7 at e
  split at e
  · obtain ⟨ns, e1, e2⟩ := Option.bind_eq_some_iff.mp e
    split at e2
    · rename_i hz
      cases e2
      obtain ⟨v, rfl, rv⟩ := r.one
      obtain ⟨a, vs, rfl, h, rr⟩ := rv.tup
      have ev := intsD_vals e1 rr
      subst ev
      exact .inr ⟨a, ns, rfl, SqT.same hid_le h, hz, fun p hp => q _ _ (.of (same_upd hp)) (Rp.set_iff.mpr (.inl ⟨p, sortU ns, rfl, rfl, sortU_pw ns, new_hid hA hp⟩))⟩
    · cases e2
  · exact .inl (fs_set2 _ d xs H A Q e r hA q)
end
end Sm
set_option Elab.async false
set_option linter.all false
set_option maxRecDepth 100000
set_option maxHeartbeats 1000000
namespace Sm
open PySem PySem.Spec PyProof.Rows L2
variable {L : Lay} {X : Cx}
def rNeS (K : PySem.W.Frag) : R2 := fun x y H Q => rNe x y H Q ∨ rNeD K x y H Q
theorem op_neS (hu : X.A.units + 64 < cLine) : OpR X (compareOp .NotEq) (rNeS X.K) := by
  intro pins s σ H x y v u Q I rx ry h
  rcases h with h | h
  · exact op_ne pins s σ H x y v u Q I rx ry h
  · exact op_neD hu pins s σ H x y v u Q I rx ry h
def dNeS (a b : D) : Option D := match a, b with
  | .str x, .str y => some (.bl (!decide (x = y)))
  | a, b => dNe a b
theorem os_neS : OpS L (rNeS L.K) dNeS := by
  intro a b d x y H A Q e ra rb hA q
  unfold dNeS at e
  split at e
  · rename_i z w
    cases e
    have hx := Bp.str ra
    have hy := Bp.str rb
    subst hx hy
    refine .inl ⟨rfl, ?_⟩
    have e : decide (V.str z = V.str w) = decide (z = w) := decide_eq_decide.mpr ⟨fun h => V.str.inj h, fun h => by rw [h]⟩
    rw [e]
    exact q _ H (.refl _) .mk_bl
  · exact .inr (os_ne a b d x y H A Q e ra rb hA q)
end Sm
set_option Elab.async false
set_option linter.all false
set_option maxRecDepth 100000
set_option maxHeartbeats 400000
namespace Sm
open PySem PySem.Spec PyProof.Rows L2
section
variable {X : Cx} {L : Lay}
theorem op_notB : OpR X (compareOp .IsNot) (fun x y H Q => ∃ c d, x = .bl c ∧ y = .bl d ∧ Q (.bl (!(c == d))) H) := by
  intro pins s σ H x y v u Q I rx ry h
  obtain ⟨c, d, rfl, rfl, q⟩ := h
  cases rx
  cases ry
  exact isnot_bool (fin_bl I q rfl)
def dNotB : D → D → Option D
  | .bl c, .bl d => some (.bl (!(c == d)))
  | _, _ => none
theorem os_notB : OpS L (fun x y H Q => ∃ c d, x = .bl c ∧ y = .bl d ∧ Q (.bl (!(c == d))) H) dNotB := by
  intro a b d x y H A Q e ra rb hA q
  unfold dNotB at e
  split at e
  · cases e
    exact ⟨_, _, ra.bl, rb.bl, q _ H (.refl _) .mk_bl⟩
  · cases e
end
end Sm
set_option Elab.async false
set_option linter.all false
set_option maxRecDepth 100000
set_option maxHeartbeats 1000000
namespace Sm
open PySem PySem.Spec PyProof.Rows L2
section
variable {L : Lay} {P : Pa} {W : WX} {X : Cx} {e1 e2 : Expr} {m1 m2 : M D} {i j : Nat} {x y : Str} {px py pt pos : Pos} {kt k2 : Nat} {pt2 : Pos}
end
end Sm
set_option Elab.async false
set_option linter.all false
set_option maxRecDepth 100000
set_option maxHeartbeats 400000
namespace Sm
open PySem PySem.Spec PyProof.Rows L2
section
variable {τ τ1 τ2 τ3 : List Sl} {ma mb m : M D} {ms : M (List D)} {a b d x y z : D} {o : List (Option D)} {fn : List D → RF} {k : Nat} {xs : List D}
theorem op_of {f : D → D → Option D} (h1 : ma τ = .ok x τ1) (h2 : mb τ1 = .ok y τ2) (h3 : f x y = some z) : mOp f ma mb τ = .ok z τ2 := by
  unfold mOp
  rw [h1]
  show (mb τ1).bind _ = _
  rw [h2]
  show Res.lift (f x y) τ2 = _
  rw [h3]; rfl
theorem pk_of {f : D → D → Option D} {i : Nat} (h0 : peek i τ = some a) (h2 : mb τ = .ok y τ1) (h1 : peek i τ1 = some x) (h3 : f x y = some z) : mPk i f mb τ = .ok z τ1 := by
  unfold mPk
  rw [h0]
  show (mb τ).bind _ = _
  rw [h2]
  show Res.lift ((peek i τ1).bind fun x => f x y) τ1 = _
  rw [h1]
  show Res.lift (f x y) τ1 = _
  rw [h3]; rfl
theorem un_of {g : D → Option D} (h1 : ma τ = .ok x τ1) (h3 : g x = some z) : mUn g ma τ = .ok z τ1 := by
  unfold mUn
  rw [h1]
  show Res.lift (g x) τ1 = _
  rw [h3]; rfl
theorem nil_of : mNil τ = .ok [] τ := rfl
theorem cons_of (h1 : ma τ = .ok x τ1) (h2 : ms τ1 = .ok xs τ2) : mCons ma ms τ = .ok (x :: xs) τ2 := by
  unfold mCons
  rw [h1]
  show (ms τ1).bind _ = _
  rw [h2]; rfl
theorem fn_of' {F : List D → Option D} (h1 : ms τ = .ok xs τ1) (h2 : F xs = some z) : mFn F ms τ = .ok z τ1 := by
  show (ms τ).bind _ = _
  rw [h1]
  show Res.lift (F xs) τ1 = _
  rw [h2]; rfl
theorem fn1_of {F : List D → Option D} (h1 : ma τ = .ok x τ1) (h2 : F [x] = some z) : mFn F (mCons ma mNil) τ = .ok z τ1 := fn_of' (cons_of h1 nil_of) h2
theorem fnF1_of {F : List D → Option (List D)} {zs : List D} (h1 : ma τ = .ok x τ1) (h2 : F [x] = some zs) : mFnF F (mCons ma mNil) τ = .ok (.lst zs) τ1 := by
  show (mCons ma mNil τ).bind _ = _
  rw [cons_of h1 nil_of]
  show Res.lift ((F [x]).map D.lst) τ1 = _
  rw [h2]; rfl
theorem lst_of (h1 : ms τ = .ok xs τ1) (hz : xs.length ≤ 16000000) : mLst ms τ = .ok (.lst xs) τ1 := by
  show (ms τ).bind _ = _
  rw [h1]
  show Res.lift ((small xs).map D.lst) τ1 = _
  rw [small_of hz]; rfl
theorem tup_of (h1 : ms τ = .ok xs τ1) (hz : xs.length ≤ 16000000) : mTup ms τ = .ok (.tup xs) τ1 := by
  show (ms τ).bind _ = _
  rw [h1]
  show Res.lift ((small xs).map D.tup) τ1 = _
  rw [small_of hz]; rfl
theorem call1_of (h1 : ma τ = .ok a τ1) (h : fn [a] = .ok d o) : mCall [false] fn 1 0 [0] [] (aV ma aNil) mNil τ = .ok d τ1 := by
  show ((aV ma aNil τ).bind _) = _
  unfold aV
  rw [h1]
  show callB none (fn [a]) τ1 = _
  rw [h]; rfl
theorem call2_of (h1 : ma τ = .ok a τ1) (h2 : mb τ1 = .ok b τ2) (h : fn [a, b] = .ok d o) : mCall [false, false] fn 2 0 [0, 1] [] (aV ma (aV mb aNil)) mNil τ = .ok d τ2 := by
  show ((aV ma (aV mb aNil) τ).bind _) = _
  unfold aV
  rw [h1]
  show ((((mb τ1).bind fun x => fun τ => (aNil τ).bind fun xs => fun τ => Res.ok (Ar.v x :: xs) τ).bind _).bind _) = _
  rw [h2]
  show callB none (fn [a, b]) τ2 = _
  rw [h]; rfl
theorem ret_of (h1 : m τ = .ok d τ1) : mRet m τ = .rt d τ1 := by
  show (m τ).st _ = _
  rw [h1]; rfl
theorem set_of' {i : Nat} {s : Sl} (h1 : m τ = .ok d τ1) (h2 : τ1[i]? = some s) (h3 : s.free = true) : mSet i m τ = .nx (τ1.set i (.fz d)) := by
  show (m τ).st _ = _
  rw [h1]
  show SR.opt (setFz i d τ1) = _
  unfold setFz
  rw [h2]
  show SR.opt (if s.free = true then some (τ1.set i (.fz d)) else none) = _
  rw [if_pos h3]; rfl
theorem ifS_of {t : M Bool} {sa sb : MS} {c : Bool} (h : t τ = .ok c τ1) : mIfS t sa sb τ = if c = true then sa τ1 else sb τ1 := by
  show (t τ).st _ = _
  rw [h]; rfl
theorem ifT_of {t : M Bool} {sa sb : MS} (h : t τ = .ok true τ1) : mIfS t sa sb τ = sa τ1 := by rw [ifS_of h]; rfl
theorem ifF_of {t : M Bool} {sa sb : MS} (h : t τ = .ok false τ1) : mIfS t sa sb τ = sb τ1 := by rw [ifS_of h]; rfl
theorem bool_of {c : Bool} (h : m τ = .ok (.bl c) τ1) : mB m τ = .ok c τ1 := by
  show (m τ).bind _ = _
  rw [h]; rfl
theorem not_of {t : M Bool} {c : Bool} (h : t τ = .ok c τ1) : mNot t τ = .ok (!c) τ1 := by
  show (t τ).bind _ = _
  rw [h]; rfl
theorem andT_of {s t : M Bool} {c : Bool} (h : s τ = .ok true τ1) (h2 : t τ1 = .ok c τ2) : mAnd s t τ = .ok c τ2 := by
  show (s τ).bind _ = _
  rw [h]
  exact h2
theorem andF_of {s t : M Bool} (h : s τ = .ok false τ1) : mAnd s t τ = .ok false τ1 := by
  show (s τ).bind _ = _
  rw [h]; rfl
theorem orF_of {s t : M Bool} {c : Bool} (h : s τ = .ok false τ1) (h2 : t τ1 = .ok c τ2) : mOr s t τ = .ok c τ2 := by
  show (s τ).bind _ = _
  rw [h]
  exact h2
theorem orT_of {s t : M Bool} (h : s τ = .ok true τ1) : mOr s t τ = .ok true τ1 := by
  show (s τ).bind _ = _
  rw [h]; rfl
theorem andVT_of (h : ma τ = .ok x τ1) (ht : truD x = some true) (h2 : mb τ1 = .ok y τ2) : mAndV ma mb τ = .ok y τ2 := by
  show (ma τ).bind _ = _
  rw [h]
  show (Res.lift (truD x) τ1).bind _ = _
  rw [ht]
  exact h2
theorem andVF_of (h : ma τ = .ok x τ1) (ht : truD x = some false) : mAndV ma mb τ = .ok x τ1 := by
  show (ma τ).bind _ = _
  rw [h]
  show (Res.lift (truD x) τ1).bind _ = _
  rw [ht]; rfl
theorem seq_of {sa sb : MS} (h : sa τ = .nx τ1) : mSeq sa sb τ = sb τ1 := by
  show (sa τ).then sb = _
  rw [h]; rfl
theorem seqR_of {sa sb : MS} (h : sa τ = .rt d τ1) : mSeq sa sb τ = .rt d τ1 := by
  show (sa τ).then sb = _
  rw [h]; rfl
theorem on_of {α β : Type} {f : α → Option β} {mm : M α} {u : α} {v : β} (h : mm τ = .ok u τ1) (h2 : f u = some v) : mOn f mm τ = .ok v τ1 := by
  show (mm τ).bind _ = _
  rw [h]
  show Res.lift (f u) τ1 = _
  rw [h2]; rfl
theorem ons_of {f : List D → Option (List D)} {ys : List D} (h : ms τ = .ok xs τ1) (h2 : f xs = some ys) : mOns f ms τ = .ok ys τ1 := by
  show (ms τ).bind _ = _
  rw [h]
  show Res.lift (f xs) τ1 = _
  rw [h2]; rfl
theorem asg_of {q : MG} (h : m τ = .ok d τ1) (h2 : q d τ1 = some τ2) : mAsg q m τ = .nx τ2 := by
  show (m τ).st _ = _
  rw [h]
  show SR.opt (q d τ1) = _
  rw [h2]; rfl
theorem for_of {mi : M (List D)} {q : MG} {sa : MS} (h : mi τ = .ok xs τ1) : mFor mi q sa τ = mLoop q sa xs τ1 := by
  show (mi τ).st _ = _
  rw [h]; rfl
theorem frz_of {i : Nat} (h : τ[i]? = some (.fz d)) : mVar i τ = .ok d τ := by unfold mVar; rw [h]
end
end Sm
set_option Elab.async false
set_option linter.all false
set_option maxRecDepth 100000
set_option maxHeartbeats 400000
namespace Sm
open PySem PySem.Spec PyProof.Rows L2
abbrev PI := Int × Int
abbrev Bit := PI × Int
def ltP (p q : PI) : Prop := p.1 < q.1 ∨ (p.1 = q.1 ∧ p.2 < q.2)
theorem ltP_irrefl (p : PI) : ¬ ltP p p := fun h => by unfold ltP at h; omega
theorem ltP_trans {p q r : PI} (h1 : ltP p q) (h2 : ltP q r) : ltP p r := by unfold ltP at *; omega
theorem leP_iff {p q : PI} : leP p q = true ↔ ltP p q ∨ p = q := by
  obtain ⟨a, b⟩ := p
  obtain ⟨c, d⟩ := q
  unfold leP ltP
  rw [decide_eq_true_iff, Prod.mk.injEq]
  show (a < c ∨ a = c ∧ b ≤ d) ↔ _
  show _ ↔ (a < c ∨ a = c ∧ b < d) ∨ a = c ∧ b = d
  omega
theorem leP_tr (a b c : PI) (h1 : leP a b = true) (h2 : leP b c = true) : leP a c = true := by
  unfold leP at *
  rw [decide_eq_true_iff] at *
  omega
theorem leP_tt (a b : PI) : (leP a b || leP b a) = true := by
  unfold leP
  rw [Bool.or_eq_true, decide_eq_true_iff, decide_eq_true_iff]
  omega
def cnt (bs : List Bit) (k : PI) : Int := ((bs.filter fun b => decide (b.1 = k)).map (·.2)).sum
theorem cnt_nil (k : PI) : cnt [] k = 0 := rfl
theorem cnt_cons (b : Bit) (bs : List Bit) (k : PI) : cnt (b :: bs) k = (if b.1 = k then b.2 else 0) + cnt bs k := by
  unfold cnt
  by_cases h : b.1 = k
  · rw [List.filter_cons_of_pos (by simpa using h), if_pos h]; rfl
  · rw [List.filter_cons_of_neg (by simpa using h), if_neg h, Int.zero_add]
theorem cnt_none {bs : List Bit} {k : PI} (h : ∀ b ∈ bs, b.1 ≠ k) : cnt bs k = 0 := by
  induction bs with
  | nil => rfl
  | cons b bs ih =>
    rw [cnt_cons, if_neg (h b List.mem_cons_self), ih fun x hx => h x (List.mem_cons_of_mem _ hx), Int.add_zero]
theorem cnt_pos {bs : List Bit} {k : PI} (h : 0 < cnt bs k) : ∃ b ∈ bs, b.1 = k := by
  by_cases hh : ∃ b ∈ bs, b.1 = k
  · exact hh
  · rw [cnt_none fun b hb e => hh ⟨b, hb, e⟩] at h; omega
theorem cnt_nn {bs : List Bit} (h : ∀ b ∈ bs, 0 ≤ b.2) (k : PI) : 0 ≤ cnt bs k := by
  induction bs with
  | nil => exact Int.le_refl _
  | cons b bs ih =>
    have h1 := h b List.mem_cons_self
    have h2 := ih fun x hx => h x (List.mem_cons_of_mem _ hx)
    rw [cnt_cons]
    split <;> omega
def getA (rs : List Bit) (k : PI) : Option Int := (rs.find? fun b => decide (b.1 = k)).map (·.2)
def putA : List Bit → PI → Int → List Bit
  | [], k, v => [(k, v)]
  | b :: bs, k, v => if b.1 = k then (k, v) :: bs else b :: putA bs k v
theorem getA_cons (b : Bit) (bs : List Bit) (k : PI) : getA (b :: bs) k = if b.1 = k then some b.2 else getA bs k := by
  unfold getA
  rw [List.find?_cons]
  by_cases h : b.1 = k
  · rw [if_pos h, decide_eq_true h]; rfl
  · rw [if_neg h, decide_eq_false h]
theorem getA_put (rs : List Bit) (k j : PI) (v : Int) : getA (putA rs k v) j = if k = j then some v else getA rs j := by
  induction rs with
  | nil =>
    show getA [(k, v)] j = _
    rw [getA_cons]
  | cons b bs ih =>
    unfold putA
    by_cases h : b.1 = k
    · rw [if_pos h, getA_cons, getA_cons]
      by_cases h2 : k = j
      · rw [if_pos h2, if_pos h2]
      · rw [if_neg h2, if_neg h2, if_neg (by rw [h]; exact h2)]
    · rw [if_neg h, getA_cons, getA_cons, ih]
      by_cases h2 : k = j
      · subst h2; simp [h]
      · simp [h2]
theorem putA_keys (rs : List Bit) (k : PI) (v : Int) : ∀ j, j ∈ (putA rs k v).map (·.1) ↔ j = k ∨ j ∈ rs.map (·.1) := by
  induction rs with
  | nil => intro j; simp [putA]
  | cons b bs ih =>
    intro j
    unfold putA
    by_cases h : b.1 = k
    · rw [if_pos h]; simp [h]
    · rw [if_neg h, List.map_cons, List.mem_cons, ih, List.map_cons, List.mem_cons]
      constructor
      · rintro (h | h | h) <;> simp [h]
      · rintro (h | h | h) <;> simp [h]
theorem putA_nodup (rs : List Bit) (k : PI) (v : Int) (h : (rs.map (·.1)).Nodup) : ((putA rs k v).map (·.1)).Nodup := by
  induction rs with
  | nil => simp [putA]
  | cons b bs ih =>
    rw [List.map_cons, List.nodup_cons] at h
    unfold putA
    by_cases e : b.1 = k
    · rw [if_pos e, List.map_cons, List.nodup_cons]
      exact ⟨by rw [← e]; exact h.1, h.2⟩
    · rw [if_neg e, List.map_cons, List.nodup_cons]
      refine ⟨fun z => ?_, ih h.2⟩
      rcases (putA_keys bs k v b.1).mp z with z | z
      · exact e z
      · exact h.1 z
theorem putA_len (rs : List Bit) (k : PI) (v : Int) : (putA rs k v).length ≤ rs.length + 1 := by
  induction rs with
  | nil => exact Nat.le_refl _
  | cons b bs ih =>
    unfold putA
    split
    · exact Nat.le_succ _
    · exact Nat.succ_le_succ ih
def tStep (acc : List Bit) (b : Bit) : List Bit := putA acc b.1 ((getA acc b.1).getD 0 + b.2)
def tally (bs : List Bit) : List Bit := bs.foldl tStep []
theorem tally_go (bs : List Bit) : ∀ acc : List Bit, (acc.map (·.1)).Nodup → ((bs.foldl tStep acc).map (·.1)).Nodup ∧ (∀ k, (getA (bs.foldl tStep acc) k).getD 0 = (getA acc k).getD 0 + cnt bs k) ∧ (∀ k, k ∈ (bs.foldl tStep acc).map (·.1) ↔ k ∈ acc.map (·.1) ∨ k ∈ bs.map (·.1)) ∧ (bs.foldl tStep acc).length ≤ acc.length + bs.length := by
  induction bs with
  | nil => intro acc h; exact ⟨h, fun k => by rw [cnt_nil, Int.add_zero]; rfl, fun k => by simp, Nat.le_refl _⟩
  | cons b bs ih =>
    intro acc h
    obtain ⟨h1, h2, h3, h4⟩ := ih (tStep acc b) (putA_nodup _ _ _ h)
    have hl := putA_len acc b.1 ((getA acc b.1).getD 0 + b.2)
    refine ⟨h1, fun k => ?_, fun k => ?_, by rw [List.foldl_cons, List.length_cons]; unfold tStep at h4 ⊢; omega⟩
    · rw [List.foldl_cons, h2, cnt_cons]
      unfold tStep
      rw [getA_put]
      by_cases e : b.1 = k
      · rw [if_pos e, if_pos e, e]
        show (getA acc k).getD 0 + b.2 + cnt bs k = _
        omega
      · rw [if_neg e, if_neg e]; omega
    · rw [List.foldl_cons, h3]
      unfold tStep
      rw [putA_keys, List.map_cons, List.mem_cons]
      constructor
      · rintro ((h | h) | h) <;> simp [h]
      · rintro (h | h | h) <;> simp [h]
theorem tally_nodup (bs : List Bit) : ((tally bs).map (·.1)).Nodup := (tally_go bs [] List.nodup_nil).1
theorem tally_keys (bs : List Bit) (k : PI) : k ∈ (tally bs).map (·.1) ↔ k ∈ bs.map (·.1) := by
  have := (tally_go bs [] List.nodup_nil).2.2.1 k
  show k ∈ (bs.foldl tStep []).map (·.1) ↔ _
  rw [this]; simp
theorem tally_len (bs : List Bit) : (tally bs).length ≤ bs.length := by
  have := (tally_go bs [] List.nodup_nil).2.2.2
  rw [List.length_nil, Nat.zero_add] at this
  exact this
def Rows (rs : List Bit) : Prop := rs.Pairwise fun a b => ltP a.1 b.1
theorem rows_eq : ∀ {xs ys : List Bit}, Rows xs → Rows ys → (∀ b, b ∈ xs ↔ b ∈ ys) → xs = ys
  | [], [], _, _, _ => rfl
  | [], y :: ys, _, _, h => by have := (h y).mpr List.mem_cons_self; cases this
  | x :: xs, [], _, _, h => by have := (h x).mp List.mem_cons_self; cases this
  | x :: xs, y :: ys, hx, hy, h => by
    obtain ⟨x1, x2⟩ := List.pairwise_cons.mp hx
    obtain ⟨y1, y2⟩ := List.pairwise_cons.mp hy
    have e : x = y := by
      rcases List.mem_cons.mp ((h x).mp List.mem_cons_self) with e | hxy
      · exact e
      · rcases List.mem_cons.mp ((h y).mpr List.mem_cons_self) with e | hyx
        · exact e.symm
        · exact absurd (ltP_trans (x1 y hyx) (y1 x hxy)) (ltP_irrefl _)
    subst e
    rw [rows_eq x2 y2 fun b => ?_]
    constructor
    · intro hb
      rcases List.mem_cons.mp ((h b).mp (List.mem_cons_of_mem _ hb)) with e | hb'
      · subst e; exact absurd (x1 b hb) (ltP_irrefl _)
      · exact hb'
    · intro hb
      rcases List.mem_cons.mp ((h b).mpr (List.mem_cons_of_mem _ hb)) with e | hb'
      · subst e; exact absurd (y1 b hb) (ltP_irrefl _)
      · exact hb'
theorem insB_mem {α : Type} {le : α → α → Bool} {x y : α} : ∀ {xs : List α}, y ∈ insB le x xs ↔ y = x ∨ y ∈ xs
  | [] => by simp [insB]
  | z :: zs => by
    unfold insB
    split
    · rw [List.mem_cons]
    · rw [List.mem_cons, insB_mem, List.mem_cons]
      constructor
      · rintro (h | h | h) <;> simp [h]
      · rintro (h | h | h) <;> simp [h]
theorem isort_mem {α : Type} {le : α → α → Bool} {y : α} : ∀ {xs : List α}, y ∈ isort le xs ↔ y ∈ xs
  | [] => Iff.rfl
  | x :: xs => by
    show y ∈ insB le x (isort le xs) ↔ _
    rw [insB_mem, isort_mem, List.mem_cons]
theorem isort_perm {α : Type} {le : α → α → Bool} (tr : ∀ a b c : α, le a b = true → le b c = true → le a c = true) (tt : ∀ a b : α, (le a b || le b a) = true) (xs : List α) : (isort le xs).Perm xs := by
  rw [← isort_merge tr tt]; exact List.mergeSort_perm _ _
theorem isort_pw {α : Type} {le : α → α → Bool} (tr : ∀ a b c : α, le a b = true → le b c = true → le a c = true) (tt : ∀ a b : α, (le a b || le b a) = true) (xs : List α) : (isort le xs).Pairwise (fun a b => le a b = true) := by
  rw [← isort_merge tr tt]; exact List.pairwise_mergeSort tr tt _
theorem isort_len {α : Type} {le : α → α → Bool} (xs : List α) : (isort le xs).length = xs.length := by
  have ins : ∀ (x : α) (xs : List α), (insB le x xs).length = xs.length + 1 := by
    intro x xs
    induction xs with
    | nil => rfl
    | cons y ys ih => unfold insB; split <;> simp [ih]
  induction xs with
  | nil => rfl
  | cons x xs ih =>
    show (insB le x (isort le xs)).length = _
    rw [ins, ih]; rfl
theorem isort_rise {ks : List PI} (h : ks.Nodup) : (isort leP ks).Pairwise ltP := by
  have p := isort_pw leP_tr leP_tt ks
  have n : (isort leP ks).Nodup := (isort_perm leP_tr leP_tt ks).nodup_iff.mpr h
  refine (p.and n).imp fun {a b} ⟨h1, h2⟩ => ?_
  rcases leP_iff.mp h1 with h | h
  · exact h
  · exact absurd h h2
def tab (bs : List Bit) : List Bit := ((isort leP ((tally bs).map (·.1))).filter fun k => decide (0 < cnt bs k)).map fun k => (k, cnt bs k)
theorem tab_rows (bs : List Bit) : Rows (tab bs) := by
  unfold tab Rows
  rw [List.pairwise_map]
  exact (isort_rise (tally_nodup bs)).filter _
theorem mem_tab {bs : List Bit} {k : PI} {v : Int} : (k, v) ∈ tab bs ↔ v = cnt bs k ∧ 0 < v := by
  unfold tab
  rw [List.mem_map]
  constructor
  · rintro ⟨j, hj, e⟩
    obtain ⟨rfl, rfl⟩ := Prod.mk.injEq .. ▸ e
    exact ⟨rfl, of_decide_eq_true (List.mem_filter.mp hj).2⟩
  · rintro ⟨rfl, h⟩
    refine ⟨k, List.mem_filter.mpr ⟨isort_mem.mpr ?_, decide_eq_true h⟩, rfl⟩
    rw [tally_keys]
    obtain ⟨b, hb, e⟩ := cnt_pos h
    exact List.mem_map.mpr ⟨b, hb, e⟩
theorem tab_len (bs : List Bit) : (tab bs).length ≤ bs.length := by
  unfold tab
  rw [List.length_map]
  refine Nat.le_trans (List.length_filter_le _ _) ?_
  rw [isort_len, List.length_map]
  exact tally_len bs
theorem tab_pos {bs : List Bit} {b : Bit} (h : b ∈ tab bs) : 0 < b.2 := (mem_tab.mp (show (b.1, b.2) ∈ tab bs from h)).2
theorem tab_key {bs : List Bit} {b : Bit} (h : b ∈ tab bs) : ∃ c ∈ bs, c.1 = b.1 := by
  obtain ⟨e, h⟩ := mem_tab.mp (show (b.1, b.2) ∈ tab bs from h)
  rw [e] at h
  exact cnt_pos h
theorem cnt_rows {rs : List Bit} (h : Rows rs) {b : Bit} (hb : b ∈ rs) : cnt rs b.1 = b.2 := by
  induction rs with
  | nil => cases hb
  | cons r rs ih =>
    obtain ⟨h1, h2⟩ := List.pairwise_cons.mp h
    rw [cnt_cons]
    rcases List.mem_cons.mp hb with rfl | hb
    · rw [if_pos rfl, cnt_none fun c hc e => ?_, Int.add_zero]
      have := h1 c hc
      rw [e] at this
      exact ltP_irrefl _ this
    · rw [ih h2 hb, if_neg fun e => ?_, Int.zero_add]
      have := h1 b hb
      rw [e] at this
      exact ltP_irrefl _ this
theorem tab_self {rs : List Bit} (h : Rows rs) (hp : ∀ b ∈ rs, 0 < b.2) : tab rs = rs := by
  refine rows_eq (tab_rows rs) h fun b => ?_
  obtain ⟨k, v⟩ := b
  rw [mem_tab]
  constructor
  · rintro ⟨rfl, h2⟩
    obtain ⟨b, hb, rfl⟩ := cnt_pos h2
    rw [cnt_rows h hb]; exact hb
  · intro hb
    exact ⟨(cnt_rows h hb).symm, hp _ hb⟩
def wsum (p : PI → Bool) (rs : List Bit) : Int := ((rs.filter fun b => p b.1).map (·.2)).sum
end Sm
set_option Elab.async false
set_option linter.all false
set_option maxRecDepth 100000
set_option maxHeartbeats 400000
namespace Sm
open PySem PySem.Spec PyProof.Rows L2
def b_of : MS := (mRet (mPk 1 dIx (mCall [true, false] f_take 2 0 [0, 1] [] (aIo 0 (aV (mFn dLen (mCons (mVar 1) mNil)) aNil)) mNil)))
def f_of : List D → RF := mkF 2 [true, false] b_of
end Sm
set_option Elab.async false
set_option linter.all false
set_option maxRecDepth 100000
set_option maxHeartbeats 400000
namespace Sm
open PySem PySem.Spec PyProof.Rows L2
def okB (b : Bit) : Prop := 0 ≤ b.1.1 ∧ b.1.1 ≤ b.1.2 ∧ 0 ≤ b.2
end Sm
set_option Elab.async false
set_option linter.all false
set_option maxRecDepth 100000
set_option maxHeartbeats 400000
namespace Sm
open PySem PySem.Spec PyProof.Rows L2
structure Enc (k : Nat) {α : Type} (f : α → D) (g : α → PyData) : Prop where
  py : ∀ a, (f a).py = some (g a)
  lay : ∀ a, (g a).canLay0 = true
  dep : ∀ a, (g a).depth ≤ k
  eqv : ∀ a b, (g a).eqv (g b) = true ↔ a = b
section
variable {k : Nat} {α β : Type} {f : α → D} {g : α → PyData} {f' : β → D} {g' : β → PyData}
theorem Enc.int : Enc 0 D.int PyData.int := ⟨fun _ => rfl, fun _ => rfl, fun _ => Nat.le_refl _, fun a b => by
  show (a == b) = true ↔ _
  exact beq_iff_eq⟩
theorem Enc.pys (h : Enc k f g) : ∀ xs : List α, D.pys (xs.map f) = some (xs.map g)
  | [] => rfl
  | x :: xs => by
    show (D.py (f x)).bind _ = _
    rw [h.py, h.pys xs]; rfl
theorem Enc.lays (h : Enc k f g) : ∀ xs : List α, PyData.canLayAll0 (xs.map g) = true
  | [] => rfl
  | x :: xs => by
    show (PyData.canLay0 (g x) && PyData.canLayAll0 (xs.map g)) = true
    rw [h.lay, h.lays xs]; rfl
theorem Enc.deps (h : Enc k f g) : ∀ xs : List α, PyData.depthAll (xs.map g) ≤ k
  | [] => Nat.zero_le _
  | x :: xs => by
    show max (PyData.depth (g x)) (PyData.depthAll (xs.map g)) ≤ k
    exact Nat.max_le.mpr ⟨h.dep x, h.deps xs⟩
theorem Enc.eqvs (h : Enc k f g) : ∀ xs ys : List α, PyData.eqvAll (xs.map g) (ys.map g) = true ↔ xs = ys
  | [], [] => ⟨fun _ => rfl, fun _ => rfl⟩
  | [], y :: ys => ⟨fun z => (by cases z), fun z => (by cases z)⟩
  | x :: xs, [] => ⟨fun z => (by cases z), fun z => (by cases z)⟩
  | x :: xs, y :: ys => by
    show ((g x).eqv (g y) && PyData.eqvAll (xs.map g) (ys.map g)) = true ↔ _
    rw [Bool.and_eq_true_iff, h.eqv, h.eqvs xs ys, List.cons.injEq]
theorem Enc.tup (h : Enc k f g) : Enc (k + 1) (fun xs : List α => .tup (xs.map f)) fun xs => .tuple (xs.map g) :=
  ⟨fun xs => by show (D.pys (xs.map f)).map _ = _; rw [h.pys]; rfl, fun xs => h.lays xs, fun xs => Nat.succ_le_succ (h.deps xs), fun xs ys => h.eqvs xs ys⟩
theorem Enc.lst (h : Enc k f g) : Enc (k + 1) (fun xs : List α => .lst (xs.map f)) fun xs => .list (xs.map g) :=
  ⟨fun xs => by show (D.pys (xs.map f)).map _ = _; rw [h.pys]; rfl, fun xs => h.lays xs, fun xs => Nat.succ_le_succ (h.deps xs), fun xs ys => h.eqvs xs ys⟩
theorem Enc.two (h : Enc k f g) (h' : Enc k f' g') : Enc (k + 1) (fun p : α × β => .tup [f p.1, f' p.2]) fun p => .tuple [g p.1, g' p.2] := by
  refine ⟨fun p => ?_, fun p => ?_, fun p => ?_, fun p q => ?_⟩
  · show (D.pys [f p.1, f' p.2]).map _ = _
    show ((D.py (f p.1)).bind fun a => (D.pys [f' p.2]).map (a :: ·)).map _ = _
    rw [h.py]
    show ((((D.py (f' p.2)).bind fun a => (D.pys []).map (a :: ·))).map (g p.1 :: ·)).map _ = _
    rw [h'.py]; rfl
  · show (PyData.canLay0 (g p.1) && (PyData.canLay0 (g' p.2) && true)) = true
    rw [h.lay, h'.lay]; rfl
  · show max (PyData.depth (g p.1)) (max (PyData.depth (g' p.2)) 0) + 1 ≤ k + 1
    exact Nat.succ_le_succ (Nat.max_le.mpr ⟨h.dep _, Nat.max_le.mpr ⟨h'.dep _, Nat.zero_le _⟩⟩)
  · show ((g p.1).eqv (g q.1) && ((g' p.2).eqv (g' q.2) && true)) = true ↔ _
    rw [Bool.and_true, Bool.and_eq_true_iff, h.eqv, h'.eqv, Prod.ext_iff]
theorem Enc.mono {j : Nat} (h : Enc k f g) (hj : k ≤ j) : Enc j f g := ⟨h.py, h.lay, fun a => Nat.le_trans (h.dep a) hj, h.eqv⟩
theorem Enc.shaped (h : Enc k f g) (hk : k ≤ 40) (a : α) : SeqAt.shaped (g a) = true := Bool.and_eq_true_iff.mpr ⟨h.lay a, decide_eq_true (Nat.le_trans (h.dep a) (Nat.le_trans hk (by decide)))⟩
theorem Enc.eqd (h : Enc k f g) (hk : k ≤ 40) (a b : α) [Decidable (a = b)] : eqD (f a) (f b) = some (decide (a = b)) := by
  unfold eqD
  rw [h.py, h.py]
  show (if SeqAt.shaped (g a) = true ∧ SeqAt.shaped (g b) = true then some (PyData.eqv (g a) (g b)) else none) = _
  rw [if_pos ⟨h.shaped hk a, h.shaped hk b⟩]
  congr 1
  rw [Bool.eq_iff_iff, h.eqv, decide_eq_true_iff]
theorem Enc.eq (h : Enc k f g) (hk : k ≤ 40) (a b : α) [Decidable (a = b)] : dEq (f a) (f b) = some (.bl (decide (a = b))) := by unfold dEq; rw [h.eqd hk]; rfl
theorem Enc.ne (h : Enc k f g) (hk : k ≤ 40) (a b : α) [Decidable (a = b)] : dNe (f a) (f b) = some (.bl (!decide (a = b))) := by unfold dNe; rw [h.eqd hk]; rfl
theorem Enc.any (h : Enc k f g) (a : α) (xs : List α) [Decidable (a ∈ xs)] : ((xs.map g).any fun z => PyData.eqv z (g a)) = decide (a ∈ xs) := by
  rw [Bool.eq_iff_iff, List.any_map, List.any_eq_true, decide_eq_true_iff]
  constructor
  · rintro ⟨x, hx, e⟩
    rw [← (h.eqv x a).mp e]; exact hx
  · intro hx
    exact ⟨a, hx, (h.eqv a a).mpr rfl⟩
end
theorem Enc.pr : Enc 1 ePr pPr := Enc.int.two Enc.int
theorem eqI (p q : Int) : dEq (.int p) (.int q) = some (.bl (decide (p = q))) := Enc.int.eq (by decide) p q
theorem neI (p q : Int) : dNe (.int p) (.int q) = some (.bl (!decide (p = q))) := Enc.int.ne (by decide) p q
end Sm
set_option Elab.async false
set_option linter.all false
set_option maxRecDepth 100000
set_option maxHeartbeats 400000
namespace Sm
open PySem PySem.Spec PyProof.Rows L2
end Sm
set_option Elab.async false
set_option linter.all false
set_option maxRecDepth 100000
set_option maxHeartbeats 400000
namespace Sm
open PySem PySem.Spec PyProof.Rows L2
theorem of_ok {k : Int} {d : D} {gs : List D} (h : Box k d) (hk : 1 ≤ k) (h0 : gs ≠ []) (hz : gs.length ≤ 16000000) {q : D} (hq : q = .lst gs ∨ q = .tup gs) : ∃ (g d' : D), f_of [d, q] = .ok g [some d', none] ∧ g ∈ gs ∧ Box (k - 1) d' := by
  have hl : 0 < gs.length := by cases gs with | nil => exact absurd rfl h0 | cons a b => simp
  have dl : dLen [q] = some (.int gs.length) := by rcases hq with rfl | rfl <;> rfl
  obtain ⟨r, d1, e1, r0, r1, h1⟩ := take_ok (n := (gs.length : Int)) h (by omega) (by omega) (by omega)
  obtain ⟨m, rfl⟩ := Int.eq_ofNat_of_zero_le r0
  have hm : m < gs.length := by omega
  have at_ : dIx q (.int (m : Nat)) = some gs[m] := by
    have : L2.atI gs ((m : Nat) : Int) = some gs[m] := by
      unfold L2.atI L2.ixN
      rw [if_pos (by omega), if_pos (by omega)]
      show gs[((m : Nat) : Int).toNat]? = _
      rw [Int.toNat_natCast, List.getElem?_eq_getElem hm]
    rcases hq with rfl | rfl <;> exact this
  refine ⟨gs[m], d1, ?_, List.getElem_mem hm, h1⟩
  rw [f_of, mkF_fin]
  simp -implicitDefEqProofs [b_of, argS, dl, e1, at_, outD, outE]
end Sm
set_option Elab.async false
set_option linter.all false
set_option maxRecDepth 100000
set_option maxHeartbeats 400000
namespace Sm
open PySem PySem.Spec PyProof.Rows L2
end Sm
set_option Elab.async false
set_option linter.all false
set_option maxRecDepth 100000
set_option maxHeartbeats 400000
namespace Sm
open PySem PySem.Spec PyProof.Rows L2
def hits (p : PI) (r : List Int) : Bool := r.any fun t => decide (p.1 ≤ t) && decide (t ≤ p.2)
def Drawn (top : Int) (bs : List Bit) : Prop := ∀ b ∈ bs, 0 ≤ b.1.1 ∧ b.1.1 ≤ b.1.2 ∧ b.1.2 < top ∧ 0 ≤ b.2
theorem Drawn.ok {top : Int} {bs : List Bit} (h : Drawn top bs) : ∀ b ∈ bs, okB b := fun b hb => ⟨(h b hb).1, (h b hb).2.1, (h b hb).2.2.2⟩
theorem of_draw {k : Int} {d : D} {τ : List Sl} {gs : List D} {mq : M D} {q : D} (h : Box k d) (hk : 1 ≤ k) (h0 : gs ≠ []) (hz : gs.length ≤ 16000000) (hq : q = .lst gs ∨ q = .tup gs) (hm : mq (.io 0 d :: τ) = .ok q (.io 0 d :: τ)) :
    ∃ (g d' : D), g ∈ gs ∧ Box (k - 1) d' ∧ mCall [true, false] f_of 2 0 [0, 1] [] (aIo 0 (aV mq aNil)) mNil (.io 0 d :: τ) = .ok g (.io 0 d' :: τ) := by
  obtain ⟨g, d', e, hg, hb⟩ := of_ok h hk h0 hz hq
  exact ⟨g, d', hg, hb, ioc2 (τ := .io 0 d :: τ) (i := 0) (j := 0) (mn := mq) e (.inl rfl) hm⟩
end Sm
set_option Elab.async false
set_option linter.all false
set_option maxRecDepth 100000
set_option maxHeartbeats 400000
namespace Sm
open PySem PySem.Spec PyProof.Rows L2
theorem set_ints {xs : List Int} (hz : xs.length < 2000) : dSet2 [.lst (xs.map .int)] = some (.set ((sortU xs).map .int)) := by
  show (match intsD (xs.map .int) with
    | some ns => if ns.length < 2000 then some (D.set ((sortU ns).map .int)) else none
    | none => _) = _
  rw [intsD_map]
  exact if_pos hz
theorem insU_len (k : Int) : ∀ xs : List Int, (insU k xs).length ≤ xs.length + 1
  | [] => Nat.le_refl _
  | x :: xs => by
    have := insU_len k xs
    unfold insU
    split
    · simp
    · split
      · simp
      · simp; omega
theorem sortU_len : ∀ xs : List Int, (sortU xs).length ≤ xs.length
  | [] => Nat.le_refl _
  | x :: xs => by
    have h1 := insU_len x (sortU xs)
    have h2 := sortU_len xs
    show (insU x (sortU xs)).length ≤ _
    rw [List.length_cons]; omega
theorem sorted_set_ints {ks : List Int} (hz : ks.length ≤ 2000) : nSorted5 [.set (ks.map .int)] = some (ks.map .int) := by
  cases ks with
  | nil => rfl
  | cons k ks =>
    show ((intsD (ks.map .int)).bind fun _ => if (ks.map D.int).length < 16000000 then some (D.int k :: ks.map .int) else none) = _
    rw [intsD_map]
    show (if (ks.map D.int).length < 16000000 then _ else none) = _
    rw [if_pos (by rw [List.length_map]; rw [List.length_cons] at hz; omega)]; rfl
end Sm
set_option Elab.async false
set_option linter.all false
set_option maxRecDepth 100000
set_option maxHeartbeats 400000
namespace Sm
open PySem PySem.Spec PyProof.Rows L2
theorem at_nat {α : Type} {xs : List α} {f : α → D} {x : α} {i : Nat} (h : xs[i]? = some x) : L2.atI (xs.map f) ((i : Nat) : Int) = some (f x) := by
  have hl : i < xs.length := (List.getElem?_eq_some_iff.mp h).1
  unfold L2.atI L2.ixN
  rw [if_pos (by omega), if_pos (by rw [List.length_map]; omega)]
  show (xs.map f)[((i : Nat) : Int).toNat]? = _
  rw [Int.toNat_natCast, List.getElem?_map, h]; rfl
end Sm
set_option Elab.async false
set_option linter.all false
set_option maxRecDepth 100000
set_option maxHeartbeats 400000
namespace Sm
open PySem PySem.Spec PyProof.Rows L2
end Sm
set_option Elab.async false
set_option linter.all false
set_option maxRecDepth 100000
set_option maxHeartbeats 400000
namespace Sm
open PySem PySem.Spec PyProof.Rows L2
theorem c_of {d : D} {τ : List Sl} : mC d τ = .ok d τ := rfl
end Sm
set_option Elab.async false
set_option linter.all false
set_option maxRecDepth 100000
set_option maxHeartbeats 400000
namespace Sm
open PySem PySem.Spec PyProof.Rows L2
def OnG (s t : Int) (p : PI) : Prop := ∃ a c : Int, 0 ≤ a ∧ a ≤ c ∧ c < 6 ∧ p = (s + a * t, s + (c + 1) * t - 1)
def Grid (s t : Int) (bs : List Bit) : Prop := ∀ b ∈ bs, OnG s t b.1 ∧ 0 < b.2
theorem mul_lt {a b t : Int} (ht : 0 < t) (h : a < b) : a * t < b * t := Int.mul_lt_mul_of_pos_right h ht
theorem mul_le {a b t : Int} (ht : 0 < t) (h : a ≤ b) : a * t ≤ b * t := Int.mul_le_mul_of_nonneg_right h (by omega)
theorem OnG.ok {s t : Int} {p : PI} (hs : 0 ≤ s) (ht : 0 < t) (h : OnG s t p) : 0 ≤ p.1 ∧ p.1 ≤ p.2 := by
  obtain ⟨a, c, a0, ac, _, rfl⟩ := h
  have h1 := mul_le ht a0
  have h2 := mul_lt ht (show a < c + 1 by omega)
  show 0 ≤ s + a * t ∧ s + a * t ≤ s + (c + 1) * t - 1
  omega
theorem Grid.tab {s t : Int} {bs : List Bit} (h : Grid s t bs) : Grid s t (tab bs) := fun b hb => by
  obtain ⟨c, hc, e⟩ := tab_key hb
  exact ⟨by rw [← e]; exact (h c hc).1, tab_pos hb⟩
end Sm
set_option Elab.async false
set_option linter.all false
set_option maxRecDepth 100000
set_option maxHeartbeats 400000
namespace Sm
open PySem PySem.Spec PyProof.Rows L2
end Sm
set_option Elab.async false
set_option linter.all false
set_option maxRecDepth 100000
set_option maxHeartbeats 400000
namespace Sm
open PySem PySem.Spec PyProof.Rows L2
end Sm
set_option Elab.async false
set_option linter.all false
set_option maxRecDepth 100000
set_option maxHeartbeats 400000
namespace Sm
open PySem PySem.Spec PyProof.Rows L2
section
variable {τ τ1 τ2 : List Sl} {ma mb m : M D} {a b d x : D} {i j : Nat}
theorem par_of {s s' : Sl} (h1 : ma τ = .ok a τ1) (h2 : mb τ1 = .ok b τ2) (hi : τ2[i]? = some s) (hf : s.free = true) (hj : (τ2.set i (.fz a))[j]? = some s') (hf' : s'.free = true) : mPar i j ma mb τ = .nx ((τ2.set i (.fz a)).set j (.fz b)) := by
  show (ma τ).st _ = _
  rw [h1]
  show (mb τ1).st _ = _
  rw [h2]
  show SR.opt ((setFz i a τ2).bind (setFz j b)) = _
  have e1 : setFz i a τ2 = some (τ2.set i (.fz a)) := by
    unfold setFz
    rw [hi]
    exact if_pos hf
  rw [e1]
  show SR.opt (setFz j b (τ2.set i (.fz a))) = _
  unfold setFz
  rw [hj]
  show SR.opt (if s'.free = true then some ((τ2.set i (.fz a)).set j (.fz b)) else none) = _
  rw [if_pos hf']; rfl
theorem cut_map {α : Type} {f : α → D} (xs : List α) (lo hi : Option Int) : ∃ ys : List α, cutD (xs.map f) lo hi = ys.map f ∧ ys.length ≤ xs.length ∧ ∀ y ∈ ys, y ∈ xs := by
  refine ⟨(xs.drop (HT.sIx xs.length 0 lo)).take (HT.sIx xs.length xs.length hi - HT.sIx xs.length 0 lo), ?_, ?_, fun y hy => List.mem_of_mem_drop (List.mem_of_mem_take hy)⟩
  · unfold cutD
    rw [List.length_map, List.map_take, List.map_drop]
  · rw [List.length_take, List.length_drop]; omega
end
end Sm
set_option Elab.async false
set_option linter.all false
set_option maxRecDepth 100000
set_option maxHeartbeats 400000
namespace Sm
open PySem PySem.Spec PyProof.Rows L2
theorem Rows.filt {rs : List Bit} (h : Rows rs) (p : Bit → Bool) : Rows (rs.filter p) := List.Pairwise.filter p h
end Sm
set_option Elab.async false
set_option linter.all false
set_option maxRecDepth 100000
set_option maxHeartbeats 400000
namespace Sm
open PySem PySem.Spec PyProof.Rows L2
end Sm
set_option Elab.async false
set_option linter.all false
set_option maxRecDepth 100000
set_option maxHeartbeats 400000
namespace Sm
open PySem PySem.Spec PyProof.Rows L2
end Sm
namespace Sm
abbrev PRow := (Nat × Nat) × Int
structure Longest (tab : Nat → Nat → Int) (best : Nat → Int) (top : Nat) : Prop where
  zero : best 0 = 0
  ge : ∀ h, 0 < h → h ≤ top → ∀ l, l < h → best l + tab l h ≤ best h
  at_ : ∀ h, 0 < h → h ≤ top → ∃ l, l < h ∧ best h = best l + tab l h
def below (ts : List Int) (x : Int) : Nat := (ts.filter fun t => decide (t < x)).length
abbrev IRow := (Int × Int) × Int
def place (ts : List Int) (r : IRow) : PRow := ((below ts r.1.1, below ts (r.1.2 + 1) + 1), r.2)
structure Turns (ts : List Int) (rs : List IRow) : Prop where
  sorted : ts.Pairwise (· < ·)
  ok : ∀ r ∈ rs, r.1.1 ∈ ts ∧ r.1.2 + 1 ∈ ts ∧ r.1.1 ≤ r.1.2
end Sm
set_option Elab.async false
set_option linter.all false
set_option maxRecDepth 100000
set_option maxHeartbeats 400000
namespace Sm
open PySem PySem.Spec PyProof.Rows L2
end Sm
set_option Elab.async false
set_option linter.all false
set_option maxRecDepth 100000
set_option maxHeartbeats 400000
namespace Sm
open PySem PySem.Spec PyProof.Rows L2
section
variable {τ τ1 τ2 τ3 : List Sl} {ma mb mc m : M D} {ms : M (List D)} {a b c d x y z : D} {o : List (Option D)} {fn : List D → RF} {k : Nat} {xs : List D}
theorem if_of {t : M Bool} {α : Type} {u v : M α} {k : Bool} (h : t τ = .ok k τ1) : mIf t u v τ = if k = true then u τ1 else v τ1 := by
  show (t τ).bind _ = _
  rw [h]; rfl
end
mutual
def D.eqb : D → D → Bool
  | .non, .non => true
  | .bl a, .bl b => a == b
  | .int a, .int b => decide (a = b)
  | .str a, .str b => decide (a = b)
  | .tup a, .tup b => D.eqbs a b
  | .lst a, .lst b => D.eqbs a b
  | _, _ => false
def D.eqbs : List D → List D → Bool
  | [], [] => true
  | a :: as, b :: bs => D.eqb a b && D.eqbs as bs
  | _, _ => false
end
mutual
theorem D.eqb_eq : ∀ {a b : D}, D.eqb a b = true → a = b
  | .non, .non, _ => rfl
  | .bl a, .bl b, h => by unfold D.eqb at h; rw [beq_iff_eq.mp h]
  | .int a, .int b, h => by unfold D.eqb at h; rw [of_decide_eq_true h]
  | .str a, .str b, h => by unfold D.eqb at h; rw [of_decide_eq_true h]
  | .tup a, .tup b, h => by unfold D.eqb at h; rw [D.eqbs_eq h]
  | .lst a, .lst b, h => by unfold D.eqb at h; rw [D.eqbs_eq h]
  | .non, .bl _, h | .non, .int _, h | .non, .str _, h | .non, .tup _, h | .non, .lst _, h | .non, .dct _ _, h | .non, .set _, h | .non, .obj _ _, h | .non, .scr _, h | .non, .dki _ _, h | .non, .ptup _, h | .non, .exc _ _ _, h => by unfold D.eqb at h; cases h
  | .bl _, .non, h | .bl _, .int _, h | .bl _, .str _, h | .bl _, .tup _, h | .bl _, .lst _, h | .bl _, .dct _ _, h | .bl _, .set _, h | .bl _, .obj _ _, h | .bl _, .scr _, h | .bl _, .dki _ _, h | .bl _, .ptup _, h | .bl _, .exc _ _ _, h => by unfold D.eqb at h; cases h
  | .int _, .non, h | .int _, .bl _, h | .int _, .str _, h | .int _, .tup _, h | .int _, .lst _, h | .int _, .dct _ _, h | .int _, .set _, h | .int _, .obj _ _, h | .int _, .scr _, h | .int _, .dki _ _, h | .int _, .ptup _, h | .int _, .exc _ _ _, h => by unfold D.eqb at h; cases h
  | .str _, .non, h | .str _, .bl _, h | .str _, .int _, h | .str _, .tup _, h | .str _, .lst _, h | .str _, .dct _ _, h | .str _, .set _, h | .str _, .obj _ _, h | .str _, .scr _, h | .str _, .dki _ _, h | .str _, .ptup _, h | .str _, .exc _ _ _, h => by unfold D.eqb at h; cases h
  | .tup _, .non, h | .tup _, .bl _, h | .tup _, .int _, h | .tup _, .str _, h | .tup _, .lst _, h | .tup _, .dct _ _, h | .tup _, .set _, h | .tup _, .obj _ _, h | .tup _, .scr _, h | .tup _, .dki _ _, h | .tup _, .ptup _, h | .tup _, .exc _ _ _, h => by unfold D.eqb at h; cases h
  | .lst _, .non, h | .lst _, .bl _, h | .lst _, .int _, h | .lst _, .str _, h | .lst _, .tup _, h | .lst _, .dct _ _, h | .lst _, .set _, h | .lst _, .obj _ _, h | .lst _, .scr _, h | .lst _, .dki _ _, h | .lst _, .ptup _, h | .lst _, .exc _ _ _, h => by unfold D.eqb at h; cases h
  | .dki _ _, _, h | .ptup _, _, h | .dct _ _, _, h | .set _, _, h | .obj _ _, _, h | .scr _, _, h | .exc _ _ _, _, h => by unfold D.eqb at h; cases h
theorem D.eqbs_eq : ∀ {a b : List D}, D.eqbs a b = true → a = b
  | [], [], _ => rfl
  | a :: as, b :: bs, h => by
    unfold D.eqbs at h
    obtain ⟨h1, h2⟩ := Bool.and_eq_true_iff.mp h
    rw [D.eqb_eq h1, D.eqbs_eq h2]
  | [], _ :: _, h | _ :: _, [], h => by unfold D.eqbs at h; cases h
end
end Sm
set_option Elab.async false
set_option linter.all false
set_option maxRecDepth 100000
set_option maxHeartbeats 400000
namespace Sm
open PySem PySem.Spec PyProof.Rows L2
end Sm
set_option Elab.async false
set_option linter.all false
set_option maxRecDepth 100000
set_option maxHeartbeats 400000
namespace Sm
open PySem PySem.Spec PyProof.Rows L2
theorem sl_of {τ τ1 τ2 τ3 : List Sl} {m : M D} {lo hi : M (Option Int)} {x z : D} {l h : Option Int} (h1 : m τ = .ok x τ1) (h2 : lo τ1 = .ok l τ2) (h3 : hi τ2 = .ok h τ3) (h4 : dSl l h x = some z) : mSl m lo hi τ = .ok z τ3 := by
  show (m τ).bind _ = _
  rw [h1]
  show ((lo τ1).bind _) = _
  rw [h2]
  show ((hi τ2).bind _) = _
  rw [h3]
  show Res.lift (dSl l h x) τ3 = _
  rw [h4]; rfl
structure CrOk (rs : List Bit) : Prop where
  rows : Rows rs
  ok : ∀ b ∈ rs, okB b
  len : rs.length ≤ 400
def metZ (rs : List Bit) (T : List Int) : Int := wsum (fun p => hits p T) rs
end Sm
set_option Elab.async false
set_option linter.all false
set_option maxRecDepth 100000
set_option maxHeartbeats 400000
namespace Sm
open PySem PySem.Spec PyProof.Rows L2
end Sm
set_option Elab.async false
set_option linter.all false
set_option maxRecDepth 100000
set_option maxHeartbeats 400000
namespace Sm
open PySem PySem.Spec PyProof.Rows L2
def maxD : List Int → Int
  | [] => 0
  | d :: D => D.foldl max d
end Sm
set_option Elab.async false
set_option linter.all false
set_option maxRecDepth 100000
set_option maxHeartbeats 400000
namespace Sm
open PySem PySem.Spec PyProof.Rows L2
end Sm
set_option Elab.async false
set_option linter.all false
set_option maxRecDepth 100000
set_option maxHeartbeats 400000
namespace Sm
open PySem PySem.Spec PyProof.Rows L2
end Sm
set_option Elab.async false
set_option linter.all false
set_option maxRecDepth 100000
set_option maxHeartbeats 400000
namespace Sm
open PySem PySem.Spec PyProof.Rows L2
theorem Rows.keys {rs : List Bit} (h : Rows rs) : (rs.map (·.1)).Pairwise ltP := List.pairwise_map.mpr h
theorem nodup_lt {ks : List PI} (h : ks.Pairwise ltP) : ks.Nodup := h.imp fun {a b} h e => by rw [e] at h; exact ltP_irrefl _ h
def byKey (f : PI → Int) (ks : List PI) : List Bit := ks.map fun k => (k, f k)
structure OkA (a : List Bit) : Prop where
  rows : Rows a
  pos : ∀ b ∈ a, 0 < b.2
  ok : ∀ b ∈ a, okB b
  len : a.length ≤ 40
theorem OkA.nd {a : List Bit} (h : OkA a) : (a.map (·.1)).Nodup := nodup_lt h.rows.keys
theorem OkA.nn {a : List Bit} (h : OkA a) (k : PI) : 0 ≤ cnt a k := cnt_nn (fun b hb => Int.le_of_lt (h.pos b hb)) k
theorem OkA.self {a : List Bit} (h : OkA a) : tab a = a := tab_self h.rows h.pos
theorem OkA.key {a : List Bit} (h : OkA a) {k : PI} (hk : k ∈ a.map (·.1)) : 0 ≤ k.1 ∧ k.1 ≤ k.2 := by
  obtain ⟨b, hb, rfl⟩ := List.mem_map.mp hk
  exact ⟨(h.ok b hb).1, (h.ok b hb).2.1⟩
theorem OkA.tab {bs : List Bit} (h : ∀ b ∈ bs, okB b) (hl : bs.length ≤ 40) : OkA (tab bs) where
  rows := tab_rows bs
  pos := fun b hb => tab_pos hb
  ok := fun b hb => by
    obtain ⟨c, hc, e⟩ := tab_key hb
    have := h c hc
    have p := tab_pos hb
    exact ⟨by rw [← e]; exact this.1, by rw [← e]; exact this.2.1, Int.le_of_lt p⟩
  len := Nat.le_trans (tab_len bs) hl
theorem OkA.by {ks : List PI} {f : PI → Int} (hk : ∀ k ∈ ks, 0 ≤ k.1 ∧ k.1 ≤ k.2) (hf : ∀ k ∈ ks, 0 ≤ f k) : ∀ b ∈ byKey f ks, okB b := fun b hb => by
  obtain ⟨k, hk', rfl⟩ := List.mem_map.mp hb
  exact ⟨(hk k hk').1, (hk k hk').2, hf k hk'⟩
def mn (i j : Int) : Int := if j < i then j else i
def mx (i j : Int) : Int := if j > i then j else i
end Sm
set_option Elab.async false
set_option linter.all false
set_option maxRecDepth 100000
set_option maxHeartbeats 400000
namespace Sm
open PySem PySem.Spec PyProof.Rows L2
def b_is_number : MS := (mRet (mAndV (mFn (dIsi "int") (mCons (mVar 0) mNil)) (mNotV (mFn (dIsi "bool") (mCons (mVar 0) mNil)))))
def f_is_number : List D → RF := mkF 1 [false] b_is_number
def b_is_rising : MS := (mRet (mFn dAll (mCons (mLc (mOns zip2 (mCons (mVar 0) (mCons (mSlP 0 (oSome (mC (.int 1))) oNone) mNil))) (gT 2 (Sm.gCons (gN 1) (Sm.gCons (gN 2) Sm.gNil))) mYes (mOp dLt (mVar 1) (mVar 2)) [1, 2]) mNil)))
def f_is_rising : List D → RF := mkF 3 [false] b_is_rising
def b_is_tick : MS := (mRet (mAndV (mCall [false] f_is_number 1 0 [0] [] (aV (mVar 0) aNil) mNil) (mOp dGe (mVar 0) (mC (.int 0)))))
def f_is_tick : List D → RF := mkF 1 [false] b_is_tick
def b_is_stay_0 : MS := (mIfS (mOr (mNot (mB (mFn (dIsi "tuple") (mCons (mVar 0) mNil)))) (mOr (mB (mOp dNe (mFn dLen (mCons (mVar 0) mNil)) (mC (.int 2)))) (mNot (mB (mFn dAll (mCons (mLc (mOn asS (mVar 0)) (gN 1) mYes (mCall [false] f_is_tick 1 0 [0] [] (aV (mVar 1) aNil) mNil) [1]) mNil)))))) (mRet (mC (.bl false))) mNx)
def b_is_stay_1 : MS := (mRet (mOp dLe (mPk 0 dIx (mC (.int 0))) (mPk 0 dIx (mC (.int 1)))))
def b_is_stay : MS := (mSeq b_is_stay_0 b_is_stay_1)
def f_is_stay : List D → RF := mkF 2 [false] b_is_stay
def b_is_timetable : MS := (mRet (mAndV (mFn (dIsi "tuple") (mCons (mVar 0) mNil)) (mAndV (mFn dAll (mCons (mLc (mOn asS (mVar 0)) (gN 1) mYes (mCall [false] f_is_tick 1 0 [0] [] (aV (mVar 1) aNil) mNil) [1]) mNil)) (mCall [false] f_is_rising 1 0 [0] [] (aV (mVar 0) aNil) mNil))))
def f_is_timetable : List D → RF := mkF 2 [false] b_is_timetable
def b_lies_in : MS := (mRet (mAndV (mOp dLe (mPk 1 dIx (mC (.int 0))) (mPk 0 dIx (mC (.int 0)))) (mOp dLe (mPk 0 dIx (mC (.int 1))) (mPk 1 dIx (mC (.int 1))))))
def f_lies_in : List D → RF := mkF 2 [false, false] b_lies_in
def b_size_of : MS := (mRet (mOp dAdd (mOp dSub (mPk 0 dIx (mC (.int 1))) (mPk 0 dIx (mC (.int 0)))) (mC (.int 1))))
def f_size_of : List D → RF := mkF 1 [false] b_size_of
def b_is_wider : MS := (mRet (mAndV (mCall [false, false] f_lies_in 2 0 [0, 1] [] (aV (mVar 0) (aV (mVar 1) aNil)) mNil) (mOp dLt (mCall [false] f_size_of 1 0 [0] [] (aV (mVar 0) aNil) mNil) (mCall [false] f_size_of 1 0 [0] [] (aV (mVar 1) aNil) mNil))))
def f_is_wider : List D → RF := mkF 2 [false, false] b_is_wider
def b_is_move_0 : MS := (mIfS (mOr (mNot (mB (mFn (dIsi "tuple") (mCons (mVar 0) mNil)))) (mOr (mNot (mB (mCh dLe dLe (mC (.int 2)) (mFn dLen (mCons (mVar 0) mNil)) (mC (.int 3))))) (mNot (mB (mCall [false] f_is_stay 1 0 [0] [] (aV (mPk 0 dIx (mC (.int 1))) aNil) mNil))))) (mRet (mC (.bl false))) mNx)
def b_is_move_1 : MS := (mIfS (mB (mOp dEq (mFn dLen (mCons (mVar 0) mNil)) (mC (.int 2)))) (mRet (mAndV (mFn (dIsi "str") (mCons (mPk 0 dIx (mC (.int 0))) mNil)) (mOp dEq (mPk 0 dIx (mC (.int 0))) (mC (.str "new"))))) mNx)
def b_is_move_2 : MS := (mAsg (gT 3 (Sm.gCons (gN 1) (Sm.gCons (gN 2) (Sm.gCons (gN 3) Sm.gNil)))) (mVar 0))
def b_is_move_3 : MS := (mIfS (mNot (mB (mFn (dIsi "str") (mCons (mVar 1) mNil)))) (mRet (mC (.bl false))) mNx)
def b_is_move_4 : MS := (mIfS (mB (mOp dEq (mVar 1) (mC (.str "split")))) (mRet (mAndV (mCall [false] f_is_tick 1 0 [0] [] (aV (mVar 3) aNil) mNil) (mCh dLe dLt (mPk 2 dIx (mC (.int 0))) (mVar 3) (mPk 2 dIx (mC (.int 1)))))) mNx)
def b_is_move_5 : MS := (mIfS (mOr (mB (mOp dNotIn2 (mVar 1) (mTup (mCons (mC (.str "longer")) (mCons (mC (.str "cross")) mNil))))) (mNot (mB (mCall [false] f_is_stay 1 0 [0] [] (aV (mVar 3) aNil) mNil)))) (mRet (mC (.bl false))) mNx)
def b_is_move_6 : MS := (mRet (mIf (mB (mOp dEq (mVar 1) (mC (.str "longer")))) (mCall [false, false] f_is_wider 2 0 [0, 1] [] (aV (mVar 2) (aV (mVar 3) aNil)) mNil) (mAndV (mOp dLt (mPk 2 dIx (mC (.int 0))) (mPk 3 dIx (mC (.int 0)))) (mOp dLt (mPk 3 dIx (mC (.int 1))) (mPk 2 dIx (mC (.int 1)))))))
def b_is_move : MS := (mSeq b_is_move_0 (mSeq b_is_move_1 (mSeq b_is_move_2 (mSeq b_is_move_3 (mSeq b_is_move_4 (mSeq b_is_move_5 b_is_move_6))))))
def f_is_move : List D → RF := mkF 4 [false] b_is_move
abbrev b_box : MS := b_boxC 61729
abbrev f_box : List D → RF := f_boxC 61729
def b_deed_0 : MS := (mPar 2 3 (mCall [true, false] f_take 2 0 [0, 1] [] (aIo 0 (aV (mC (.int 4)) aNil)) mNil) (mCall [true, false] f_stay 2 0 [0, 1] [] (aIo 0 (aV (mVar 1) aNil)) mNil))
def b_deed_1 : MS := (mAsg (gT 2 (Sm.gCons (gN 4) (Sm.gCons (gN 5) Sm.gNil))) (mVar 3))
def b_deed_2 : MS := (mIfS (mAnd (mB (mOp dEq (mVar 2) (mC (.int 1)))) (mOr (mB (mOp dGt (mVar 4) (mC (.int 0)))) (mB (mOp dLt (mVar 5) (mOp dSub (mVar 1) (mC (.int 1))))))) (mSeq (mSet 6 (mCall [true, false] f_take 2 0 [0, 1] [] (aIo 0 (aV (mOp dAdd (mVar 4) (mC (.int 1))) aNil)) mNil))
    (mSeq (mSet 7 (mOp dAdd (mVar 5) (mCall [true, false] f_take 2 0 [0, 1] [] (aIo 0 (aV (mOp dSub (mVar 1) (mVar 5)) aNil)) mNil)))
    (mSeq (mSet 7 (mOp dAdd (mVar 7) (mFn dInt (mCons (mAndV (mOp dEq (mTup (mCons (mVar 6) (mCons (mVar 7) mNil))) (mVar 3)) (mOp dLt (mVar 7) (mOp dSub (mVar 1) (mC (.int 1))))) mNil))))
    (mSeq (mSet 6 (mOp dSub (mVar 6) (mFn dInt (mCons (mOp dEq (mTup (mCons (mVar 6) (mCons (mVar 7) mNil))) (mVar 3)) mNil))))
    (mRet (mTup (mCons (mC (.str "longer")) (mCons (mVar 3) (mCons (mTup (mCons (mVar 6) (mCons (mVar 7) mNil))) mNil))))))))) mNx)
def b_deed_3 : MS := (mIfS (mAnd (mB (mOp dEq (mVar 2) (mC (.int 2)))) (mB (mOp dLt (mVar 4) (mVar 5)))) (mRet (mTup (mCons (mC (.str "split")) (mCons (mVar 3) (mCons (mOp dAdd (mVar 4) (mCall [true, false] f_take 2 0 [0, 1] [] (aIo 0 (aV (mOp dSub (mVar 5) (mVar 4)) aNil)) mNil)) mNil))))) mNx)
def b_deed_4 : MS := (mIfS (mAnd (mB (mOp dEq (mVar 2) (mC (.int 3)))) (mB (mOp dGt (mOp dSub (mVar 5) (mVar 4)) (mC (.int 1))))) (mSeq (mSetO 8 (mLc (mOns rng1 (mCons (mC (.int 2)) mNil)) (gN 9) mYes (mOp dAdd (mOp dAdd (mVar 4) (mC (.int 1))) (mCall [true, false] f_take 2 0 [0, 1] [] (aIo 0 (aV (mOp dSub (mOp dSub (mVar 5) (mVar 4)) (mC (.int 1))) aNil)) mNil)) [9]))
    (mRet (mTup (mCons (mC (.str "cross")) (mCons (mVar 3) (mCons (mTup (mCons (mFn dMin1 (mCons (mVar 8) mNil)) (mCons (mFn dMax1 (mCons (mVar 8) mNil)) mNil))) mNil)))))) mNx)
def b_deed_5 : MS := (mRet (mTup (mCons (mC (.str "new")) (mCons (mVar 3) mNil))))
def b_deed : MS := (mSeq b_deed_0 (mSeq b_deed_1 (mSeq b_deed_2 (mSeq b_deed_3 (mSeq b_deed_4 b_deed_5)))))
def f_deed : List D → RF := mkF 10 [true, false] b_deed
def b_is_count : MS := (mRet (mAndV (mFn (dIsi "int") (mCons (mVar 0) mNil)) (mAndV (mNotV (mFn (dIsi "bool") (mCons (mVar 0) mNil))) (mOp dGe (mVar 0) (mC (.int 0))))))
def f_is_count : List D → RF := mkF 1 [false] b_is_count
def b_is_pair_0 : MS := (mIfS (mOr (mNot (mB (mFn (dIsi "tuple") (mCons (mVar 0) mNil)))) (mOr (mB (mOp dNe (mFn dLen (mCons (mVar 0) mNil)) (mC (.int 2)))) (mNot (mB (mFn dAll (mCons (mLc (mOn asS (mVar 0)) (gN 1) mYes (mCall [false] f_is_count 1 0 [0] [] (aV (mVar 1) aNil) mNil) [1]) mNil)))))) (mRet (mC (.bl false))) mNx)
def b_is_pair_1 : MS := (mRet (mOp dLe (mPk 0 dIx (mC (.int 0))) (mPk 0 dIx (mC (.int 1)))))
def b_is_pair : MS := (mSeq b_is_pair_0 b_is_pair_1)
def f_is_pair : List D → RF := mkF 2 [false] b_is_pair
def b_is_row_0 : MS := (mIfS (mOr (mNot (mB (mFn (dIsi "tuple") (mCons (mVar 0) mNil)))) (mNot (mB (mFn dAll (mCons (mLc (mOn asS (mVar 0)) (gN 1) mYes (mCall [false] f_is_count 1 0 [0] [] (aV (mVar 1) aNil) mNil) [1]) mNil))))) (mRet (mC (.bl false))) mNx)
def b_is_row_1 : MS := (mRet (mOp dEq (mFnF nList (mCons (mVar 0) mNil)) (mFnF nSorted5 (mCons (mFn dSet7 (mCons (mVar 0) mNil)) mNil))))
def b_is_row : MS := (mSeq b_is_row_0 b_is_row_1)
def f_is_row : List D → RF := mkF 2 [false] b_is_row
def b_is_deed_0 : MS := (mIfS (mOr (mNot (mB (mFn (dIsi "tuple") (mCons (mVar 0) mNil)))) (mOr (mB (mOp dLt (mFn dLen (mCons (mVar 0) mNil)) (mC (.int 2)))) (mOr (mNot (mB (mFn (dIsi "str") (mCons (mPk 0 dIx (mC (.int 0))) mNil)))) (mNot (mB (mCall [false] f_is_pair 1 0 [0] [] (aV (mPk 0 dIx (mC (.int 1))) aNil) mNil)))))) (mRet (mC (.bl false))) mNx)
def b_is_deed_1 : MS := (mIfS (mB (mOp dEq (mPk 0 dIx (mC (.int 0))) (mC (.str "new")))) (mRet (mOp dEq (mFn dLen (mCons (mVar 0) mNil)) (mC (.int 2)))) mNx)
def b_is_deed_2 : MS := (mIfS (mOr (mB (mOp dNe (mFn dLen (mCons (mVar 0) mNil)) (mC (.int 3)))) (mB (mOp dNotIn2 (mPk 0 dIx (mC (.int 0))) (mTup (mCons (mC (.str "longer")) (mCons (mC (.str "split")) (mCons (mC (.str "cross")) mNil))))))) (mRet (mC (.bl false))) mNx)
def b_is_deed_3 : MS := (mAsg (gT 2 (Sm.gCons (gN 1) (Sm.gCons (gN 2) Sm.gNil))) (mPk 0 dIx (mC (.int 1))))
def b_is_deed_4 : MS := (mIfS (mB (mOp dEq (mPk 0 dIx (mC (.int 0))) (mC (.str "split")))) (mRet (mAndV (mCall [false] f_is_count 1 0 [0] [] (aV (mPk 0 dIx (mC (.int 2))) aNil) mNil) (mCh dLe dLt (mVar 1) (mPk 0 dIx (mC (.int 2))) (mVar 2)))) mNx)
def b_is_deed_5 : MS := (mIfS (mNot (mB (mCall [false] f_is_pair 1 0 [0] [] (aV (mPk 0 dIx (mC (.int 2))) aNil) mNil))) (mRet (mC (.bl false))) mNx)
def b_is_deed_6 : MS := (mIfS (mB (mOp dEq (mPk 0 dIx (mC (.int 0))) (mC (.str "cross")))) (mRet (mAndV (mOp dLt (mVar 1) (mOp dIx (mPk 0 dIx (mC (.int 2))) (mC (.int 0)))) (mOp dLt (mOp dIx (mPk 0 dIx (mC (.int 2))) (mC (.int 1))) (mVar 2)))) mNx)
def b_is_deed_7 : MS := (mRet (mAndV (mOp dNe (mPk 0 dIx (mC (.int 2))) (mPk 0 dIx (mC (.int 1)))) (mAndV (mOp dLe (mOp dIx (mPk 0 dIx (mC (.int 2))) (mC (.int 0))) (mVar 1)) (mOp dLe (mVar 2) (mOp dIx (mPk 0 dIx (mC (.int 2))) (mC (.int 1)))))))
def b_is_deed : MS := (mSeq b_is_deed_0 (mSeq b_is_deed_1 (mSeq b_is_deed_2 (mSeq b_is_deed_3 (mSeq b_is_deed_4 (mSeq b_is_deed_5 (mSeq b_is_deed_6 b_is_deed_7)))))))
def f_is_deed : List D → RF := mkF 3 [false] b_is_deed
def b_told : MS := (mRet (mLst (mCons (mCall [false] f_is_tick 1 0 [0] [] (aV (mVar 0) aNil) mNil) (mCons (mCall [false] f_is_stay 1 0 [0] [] (aV (mVar 0) aNil) mNil) (mCons (mCall [false] f_is_timetable 1 0 [0] [] (aV (mVar 0) aNil) mNil) (mCons (mCall [false] f_is_move 1 0 [0] [] (aV (mVar 0) aNil) mNil) mNil))))))
def f_told : List D → RF := mkF 1 [false] b_told
def b_due : MS := (mRet (mLst (mCons (mCall [false] f_is_count 1 0 [0] [] (aV (mVar 0) aNil) mNil) (mCons (mCall [false] f_is_pair 1 0 [0] [] (aV (mVar 0) aNil) mNil) (mCons (mCall [false] f_is_row 1 0 [0] [] (aV (mVar 0) aNil) mNil) (mCons (mCall [false] f_is_deed 1 0 [0] [] (aV (mVar 0) aNil) mNil) mNil))))))
def f_due : List D → RF := mkF 1 [false] b_due
def b_bent (self_ : List D → RF) : MS := (mSeq (mIfS (mAnd (mB (mFn (dIsi "tuple") (mCons (mVar 1) mNil))) (mAnd (mB (mOp dGt (mFn dLen (mCons (mVar 1) mNil)) (mC (.int 0)))) (mB (mOp dGt (mCall [true, false] f_take 2 0 [0, 1] [] (aIo 0 (aV (mC (.int 3)) aNil)) mNil) (mC (.int 0)))))) (mSeq (mSet 2 (mCall [true, false] f_take 2 0 [0, 1] [] (aIo 0 (aV (mFn dLen (mCons (mVar 1) mNil)) aNil)) mNil))
    (mRet (mOp dAdd (mOp dAdd (mSlP 1 oNone (oSome (mVar 2))) (mTup (mCons (mCall [true, false] self_ 2 0 [0, 1] [] (aIo 0 (aV (mPk 1 dIx (mVar 2)) aNil)) mNil) mNil))) (mSlP 1 (oSome (mOp dAdd (mVar 2) (mC (.int 1)))) oNone)))) mNx)
    (mSeq (mSet 3 (mLst (mCons (mC .non) (mCons (mC (.bl true)) (mCons (mC (.bl false)) (mCons (mC (.int 0)) (mCons (mC (.int 1)) (mCons (mC (.int 4)) (mCons (mUn dNeg (mC (.int 1))) (mCons (mC (.str "")) (mCons (mC (.str "new")) (mCons (mC (.str "cross")) (mCons (mC (.str "split")) (mCons (mTup mNil) (mCons (mTup (mCons (mC (.int 3)) mNil)) (mCons (mTup (mCons (mC (.int 0)) (mCons (mC (.int 1)) mNil))) (mCons (mLst mNil) (mCons (mOp dPow (mC (.int 10)) (mC (.int 50))) mNil))))))))))))))))))
    (mSeq (mIfS (mB (mFn (dIsi "tuple") (mCons (mVar 1) mNil))) (mSet 3 (mOp dAdd (mVar 3) (mLst (mCons (mFnF nList (mCons (mVar 1) mNil)) (mCons (mUn dRev2 (mVar 1)) (mCons (mOp dAdd (mVar 1) (mSlP 1 (oSome (mUn dNeg (mC (.int 1)))) oNone)) (mCons (mSlP 1 oNone (oSome (mUn dNeg (mC (.int 1))))) (mCons (mTup (mCons (mVar 1) mNil)) mNil)))))))) mNx)
    (mSeq (mIfS (mB (mFn (dIsi "str") (mCons (mVar 1) mNil))) (mSet 3 (mOp dAdd (mVar 3) (mLst (mCons (mOp dAdd (mVar 1) (mC (.str "s"))) (mCons (mUn dUpper (mVar 1)) (mCons (mTup (mCons (mVar 1) mNil)) (mCons (mC (.str "longer")) mNil))))))) mNx)
    (mSeq (mIfS (mB (mFn (dIsi "int") (mCons (mVar 1) mNil))) (mSet 3 (mOp dAdd (mVar 3) (mLst (mCons (mFn dStr (mCons (mVar 1) mNil)) (mCons (mOp dAdd (mVar 1) (mC (.int 1))) (mCons (mOp dSub (mVar 1) (mC (.int 1))) (mCons (mTup (mCons (mVar 1) mNil)) mNil))))))) mNx)
    (mRet (mCall [true, false] f_of 2 0 [0, 1] [] (aIo 0 (aV (mVar 3) aNil)) mNil)))))))
def ff_bent : Nat → List D → RF
  | 0 => fun _ => .fail
  | n + 1 => mkF 4 [true, false] (b_bent (ff_bent n))
abbrev f_bent : List D → RF := ff_bent 6
def b_odd_0 : MS := (mSet 0 (mTup (mCons (mC (.int 1)) (mCons (mC (.int 2)) mNil))))
def b_odd_1 : MS := (mFor (mOns rng1 (mCons (mC (.int 10)) mNil)) (gN 1) (mSet 0 (mTup (mCons (mVar 0) mNil))))
def b_odd_2 : MS := (mSet 2 (mLst (mCons (mC (.bl true)) (mCons (mC (.bl false)) (mCons (mUn dNeg (mC (.int 1))) (mCons (mC .non) (mCons (mC (.str "3")) (mCons (mC (.str "")) (mCons (mLst mNil) (mCons (mLst (mCons (mC (.int 3)) mNil)) (mCons (mTup (mCons (mC (.int 5)) (mCons (mC (.int 2)) mNil))) (mCons (mTup (mCons (mC (.bl true)) (mCons (mC (.int 2)) mNil))) (mCons (mTup (mCons (mC (.int 2)) (mCons (mC (.bl false)) mNil))) (mCons (mTup (mCons (mUn dNeg (mC (.int 1))) (mCons (mC (.int 2)) mNil))) (mCons (mTup (mCons (mC (.int 2)) (mCons (mC .non) mNil))) mNil)))))))))))))))
def b_odd_3 : MS := (mSet 2 (mOp dAdd (mVar 2) (mLst (mCons (mLst (mCons (mC (.int 2)) (mCons (mC (.int 5)) mNil))) mNil))))
def b_odd_4 : MS := (mSet 2 (mOp dAdd (mVar 2) (mLst (mCons (mTup (mCons (mC (.str "2")) (mCons (mC (.int 5)) mNil))) (mCons (mTup (mCons (mC (.int 4)) (mCons (mC (.int 1)) mNil))) (mCons (mTup (mCons (mC (.int 1)) (mCons (mC (.int 4)) (mCons (mC (.int 4)) mNil)))) (mCons (mTup (mCons (mC (.int 1)) (mCons (mC (.bl true)) mNil))) (mCons (mTup (mCons (mTup (mCons (mC (.int 1)) mNil)) (mCons (mC (.int 4)) mNil))) (mCons (mTup (mCons (mTup (mCons (mC (.int 2)) (mCons (mC (.int 5)) mNil))) mNil)) (mCons (mTup (mCons (mTup mNil) mNil)) (mCons (mTup (mCons (mC (.int 1)) (mCons (mC .non) mNil))) mNil)))))))))))
def b_odd_5 : MS := (mSet 2 (mOp dAdd (mVar 2) (mLst (mCons (mTup (mCons (mC (.int 3)) (mCons (mUn dNeg (mC (.int 1))) mNil))) (mCons (mTup (mCons (mC (.str "new")) mNil)) mNil)))))
def b_odd_6 : MS := (mSet 2 (mOp dAdd (mVar 2) (mLst (mCons (mTup (mCons (mC (.str "new")) (mCons (mTup (mCons (mC (.int 5)) (mCons (mC (.int 2)) mNil))) mNil))) (mCons (mTup (mCons (mC (.str "new")) (mCons (mLst (mCons (mC (.int 2)) (mCons (mC (.int 5)) mNil))) mNil))) (mCons (mLst (mCons (mC (.str "new")) (mCons (mTup (mCons (mC (.int 2)) (mCons (mC (.int 5)) mNil))) mNil))) (mCons (mTup (mCons (mC (.str "new")) (mCons (mTup (mCons (mC (.int 2)) (mCons (mC (.int 5)) mNil))) (mCons (mTup (mCons (mC (.int 2)) (mCons (mC (.int 6)) mNil))) mNil)))) mNil)))))))
def b_odd_7 : MS := (mSet 2 (mOp dAdd (mVar 2) (mLst (mCons (mTup (mCons (mC (.str "new")) (mCons (mTup (mCons (mC (.int 2)) (mCons (mC (.int 5)) mNil))) (mCons (mC .non) mNil)))) mNil))))
def b_odd_8 : MS := (mSet 2 (mOp dAdd (mVar 2) (mLst (mCons (mTup (mCons (mC (.str "longer")) (mCons (mTup (mCons (mC (.int 2)) (mCons (mC (.int 5)) mNil))) (mCons (mTup (mCons (mC (.int 2)) (mCons (mC (.int 5)) mNil))) mNil)))) (mCons (mTup (mCons (mC (.str "longer")) (mCons (mTup (mCons (mC (.int 2)) (mCons (mC (.int 5)) mNil))) (mCons (mTup (mCons (mC (.int 3)) (mCons (mC (.int 9)) mNil))) mNil)))) (mCons (mTup (mCons (mC (.str "longer")) (mCons (mTup (mCons (mC (.int 2)) (mCons (mC (.int 5)) mNil))) mNil))) mNil))))))
def b_odd_9 : MS := (mSet 2 (mOp dAdd (mVar 2) (mLst (mCons (mTup (mCons (mC (.str "longer")) (mCons (mTup (mCons (mC (.int 2)) (mCons (mC (.int 5)) mNil))) (mCons (mLst (mCons (mC (.int 1)) (mCons (mC (.int 5)) mNil))) mNil)))) mNil))))
def b_odd_10 : MS := (mSet 2 (mOp dAdd (mVar 2) (mLst (mCons (mTup (mCons (mC (.str "longer")) (mCons (mTup (mCons (mC (.int 2)) (mCons (mC (.int 5)) mNil))) (mCons (mTup (mCons (mC (.int 2)) (mCons (mC (.int 4)) mNil))) mNil)))) (mCons (mTup (mCons (mC (.str "longer")) (mCons (mTup (mCons (mC (.int 2)) (mCons (mC (.int 5)) mNil))) (mCons (mC (.int 9)) mNil)))) (mCons (mTup (mCons (mC (.str "longer")) (mCons (mTup (mCons (mC (.int 2)) (mCons (mC (.int 5)) mNil))) (mCons (mTup (mCons (mC (.int 1)) (mCons (mC (.int 5)) mNil))) (mCons (mC (.int 0)) mNil))))) mNil))))))
def b_odd_11 : MS := (mSet 2 (mOp dAdd (mVar 2) (mLst (mCons (mTup (mCons (mC (.str "new")) (mCons (mC (.int 3)) mNil))) mNil))))
def b_odd_12 : MS := (mSet 2 (mOp dAdd (mVar 2) (mLst (mCons (mTup (mCons (mC (.str "split")) (mCons (mTup (mCons (mC (.int 2)) (mCons (mC (.int 5)) mNil))) (mCons (mC (.int 5)) mNil)))) (mCons (mTup (mCons (mC (.str "split")) (mCons (mTup (mCons (mC (.int 2)) (mCons (mC (.int 5)) mNil))) (mCons (mC (.int 1)) mNil)))) (mCons (mTup (mCons (mC (.str "split")) (mCons (mTup (mCons (mC (.int 2)) (mCons (mC (.int 2)) mNil))) (mCons (mC (.int 2)) mNil)))) mNil))))))
def b_odd_13 : MS := (mSet 2 (mOp dAdd (mVar 2) (mLst (mCons (mTup (mCons (mC (.str "split")) (mCons (mTup (mCons (mC (.int 0)) (mCons (mC (.int 5)) mNil))) (mCons (mC (.bl true)) mNil)))) mNil))))
def b_odd_14 : MS := (mSet 2 (mOp dAdd (mVar 2) (mLst (mCons (mTup (mCons (mC (.str "split")) (mCons (mTup (mCons (mC (.int 2)) (mCons (mC (.int 5)) mNil))) (mCons (mTup (mCons (mC (.int 2)) (mCons (mC (.int 3)) mNil))) mNil)))) (mCons (mTup (mCons (mC (.str "split")) (mCons (mTup (mCons (mC (.int 2)) (mCons (mC (.int 5)) mNil))) mNil))) (mCons (mTup (mCons (mC (.str "split")) (mCons (mTup (mCons (mC (.int 2)) (mCons (mC (.int 5)) mNil))) (mCons (mC .non) mNil)))) mNil))))))
def b_odd_15 : MS := (mSet 2 (mOp dAdd (mVar 2) (mLst (mCons (mTup (mCons (mC (.str "cross")) (mCons (mTup (mCons (mC (.int 2)) (mCons (mC (.int 9)) mNil))) (mCons (mTup (mCons (mC (.int 2)) (mCons (mC (.int 6)) mNil))) mNil)))) mNil))))
def b_odd_16 : MS := (mSet 2 (mOp dAdd (mVar 2) (mLst (mCons (mTup (mCons (mC (.str "cross")) (mCons (mTup (mCons (mC (.int 2)) (mCons (mC (.int 9)) mNil))) (mCons (mTup (mCons (mC (.int 4)) (mCons (mC (.int 9)) mNil))) mNil)))) (mCons (mTup (mCons (mC (.str "cross")) (mCons (mTup (mCons (mC (.int 4)) (mCons (mC (.int 6)) mNil))) (mCons (mTup (mCons (mC (.int 2)) (mCons (mC (.int 9)) mNil))) mNil)))) (mCons (mTup (mCons (mC (.str "cross")) (mCons (mTup (mCons (mC (.int 2)) (mCons (mC (.int 9)) mNil))) (mCons (mC (.int 4)) mNil)))) mNil))))))
def b_odd_17 : MS := (mSet 2 (mOp dAdd (mVar 2) (mLst (mCons (mTup (mCons (mC (.str "cross")) (mCons (mTup (mCons (mC (.int 2)) (mCons (mC (.int 9)) mNil))) mNil))) mNil))))
def b_odd_18 : MS := (mSet 2 (mOp dAdd (mVar 2) (mLst (mCons (mTup (mCons (mC (.str "cross")) (mCons (mTup (mCons (mC (.int 2)) (mCons (mC (.int 9)) mNil))) (mCons (mTup (mCons (mC (.int 2)) (mCons (mC (.int 9)) mNil))) mNil)))) (mCons (mTup (mCons (mC (.str "cross")) (mCons (mTup (mCons (mC (.int 2)) (mCons (mC (.int 5)) mNil))) (mCons (mTup (mCons (mC (.int 7)) (mCons (mC (.int 9)) mNil))) mNil)))) (mCons (mTup (mCons (mC (.str "New")) (mCons (mTup (mCons (mC (.int 2)) (mCons (mC (.int 5)) mNil))) mNil))) mNil))))))
def b_odd_19 : MS := (mSet 2 (mOp dAdd (mVar 2) (mLst (mCons (mTup (mCons (mC (.str "merge")) (mCons (mTup (mCons (mC (.int 2)) (mCons (mC (.int 5)) mNil))) (mCons (mTup (mCons (mC (.int 1)) (mCons (mC (.int 6)) mNil))) mNil)))) mNil))))
def b_odd_20 : MS := (mSet 2 (mOp dAdd (mVar 2) (mLst (mCons (mTup (mCons (mC .non) (mCons (mTup (mCons (mC (.int 2)) (mCons (mC (.int 5)) mNil))) mNil))) (mCons (mTup (mCons (mTup (mCons (mC (.str "new")) mNil)) (mCons (mTup (mCons (mC (.int 2)) (mCons (mC (.int 5)) mNil))) mNil))) (mCons (mC (.str "new")) (mCons (mTup (mCons (mC (.str "cross")) (mCons (mTup (mCons (mC (.int 2)) (mCons (mC (.int 9)) mNil))) (mCons (mLst (mCons (mC (.int 4)) (mCons (mC (.int 6)) mNil))) mNil)))) mNil)))))))
def b_odd_21 : MS := (mSet 2 (mOp dAdd (mVar 2) (mLst (mCons (mTup (mCons (mC (.str "new")) (mCons (mTup (mCons (mC (.int 2)) (mCons (mC (.int 5)) mNil))) (mCons (mC (.int 1)) mNil)))) (mCons (mTup (mCons (mC (.str "cross")) (mCons (mTup (mCons (mC (.int 2)) (mCons (mC (.int 9)) mNil))) (mCons (mTup (mCons (mC (.int 6)) (mCons (mC (.int 4)) mNil))) mNil)))) (mCons (mTup (mCons (mC (.str "longer")) (mCons (mTup (mCons (mC (.int 5)) (mCons (mC (.int 2)) mNil))) (mCons (mTup (mCons (mC (.int 1)) (mCons (mC (.int 9)) mNil))) mNil)))) mNil))))))
def b_odd_22 : MS := (mSet 2 (mOp dAdd (mVar 2) (mLst (mCons (mTup (mCons (mC (.str "cross")) (mCons (mTup (mCons (mC (.int 9)) (mCons (mC (.int 2)) mNil))) (mCons (mTup (mCons (mC (.int 4)) (mCons (mC (.int 6)) mNil))) mNil)))) (mCons (mTup (mCons (mC (.str "split")) (mCons (mTup (mCons (mC (.int 5)) (mCons (mC (.int 2)) mNil))) (mCons (mC (.int 3)) mNil)))) (mCons (mTup (mCons (mC (.str "longer")) (mCons (mTup (mCons (mC (.int 2)) (mCons (mC (.int 5)) mNil))) (mCons (mTup (mCons (mC (.int 9)) (mCons (mC (.int 1)) mNil))) mNil)))) mNil))))))
def b_odd_23 : MS := (mSet 2 (mOp dAdd (mVar 2) (mLst (mCons (mVar 0) (mCons (mLst (mCons (mVar 0) mNil)) (mCons (mTup (mCons (mC (.str "new")) (mCons (mVar 0) mNil))) (mCons (mTup (mCons (mC (.str "longer")) (mCons (mTup (mCons (mC (.int 2)) (mCons (mC (.int 5)) mNil))) (mCons (mVar 0) mNil)))) (mCons (mTup (mCons (mC (.str "split")) (mCons (mVar 0) (mCons (mC (.int 2)) mNil)))) mNil))))))))
def b_odd_24 : MS := (mRet (mVar 2))
def b_odd : MS := (mSeq b_odd_0 (mSeq b_odd_1 (mSeq b_odd_2 (mSeq b_odd_3 (mSeq b_odd_4 (mSeq b_odd_5 (mSeq b_odd_6 (mSeq b_odd_7 (mSeq b_odd_8 (mSeq b_odd_9 (mSeq b_odd_10 (mSeq b_odd_11 (mSeq b_odd_12 (mSeq b_odd_13 (mSeq b_odd_14 (mSeq b_odd_15 (mSeq b_odd_16 (mSeq b_odd_17 (mSeq b_odd_18 (mSeq b_odd_19 (mSeq b_odd_20 (mSeq b_odd_21 (mSeq b_odd_22 (mSeq b_odd_23 b_odd_24))))))))))))))))))))))))
def f_odd : List D → RF := mkF 3 [] b_odd
def b_by_hand_right_0 : MS := (mSet 0 (mLst (mCons (mTup (mCons (mC (.int 0)) (mCons (mC (.int 8)) mNil))) (mCons (mTup (mCons (mC (.int 7)) (mCons (mC (.int 8)) mNil))) (mCons (mTup (mCons (mOp dPow (mC (.int 10)) (mC (.int 50))) (mCons (mC (.int 8)) mNil))) (mCons (mTup (mCons (mTup (mCons (mC (.int 2)) (mCons (mC (.int 2)) mNil))) (mCons (mC (.int 4)) mNil))) (mCons (mTup (mCons (mTup (mCons (mC (.int 2)) (mCons (mC (.int 5)) mNil))) (mCons (mC (.int 6)) mNil))) (mCons (mTup (mCons (mTup (mCons (mC (.int 0)) (mCons (mOp dPow (mC (.int 10)) (mC (.int 50))) mNil))) (mCons (mC (.int 6)) mNil))) (mCons (mTup (mCons (mTup mNil) (mCons (mC (.int 2)) mNil))) mNil)))))))))
def b_by_hand_right_1 : MS := (mSet 0 (mOp dAdd (mVar 0) (mLst (mCons (mTup (mCons (mTup (mCons (mC (.int 2)) mNil)) (mCons (mC (.int 2)) mNil))) mNil))))
def b_by_hand_right_2 : MS := (mSet 0 (mOp dAdd (mVar 0) (mLst (mCons (mTup (mCons (mTup (mCons (mC (.int 1)) (mCons (mC (.int 4)) (mCons (mC (.int 9)) mNil)))) (mCons (mC (.int 2)) mNil))) (mCons (mTup (mCons (mTupRg1 (mC (.int 61))) (mCons (mC (.int 2)) mNil))) (mCons (mTup (mCons (mTup (mCons (mOp dPow (mC (.int 10)) (mC (.int 50))) (mCons (mOp dPow (mC (.int 10)) (mC (.int 50))) mNil))) (mCons (mC (.int 4)) mNil))) mNil))))))
def b_by_hand_right_3 : MS := (mSet 0 (mOp dAdd (mVar 0) (mLst (mCons (mTup (mCons (mTup (mCons (mC (.str "new")) (mCons (mTup (mCons (mC (.int 2)) (mCons (mC (.int 5)) mNil))) mNil))) (mCons (mC (.int 1)) mNil))) mNil))))
def b_by_hand_right_4 : MS := (mSet 0 (mOp dAdd (mVar 0) (mLst (mCons (mTup (mCons (mTup (mCons (mC (.str "new")) (mCons (mTup (mCons (mC (.int 0)) (mCons (mC (.int 0)) mNil))) mNil))) (mCons (mC (.int 1)) mNil))) (mCons (mTup (mCons (mTup (mCons (mC (.str "longer")) (mCons (mTup (mCons (mC (.int 2)) (mCons (mC (.int 5)) mNil))) (mCons (mTup (mCons (mC (.int 1)) (mCons (mC (.int 5)) mNil))) mNil)))) (mCons (mC (.int 1)) mNil))) mNil)))))
def b_by_hand_right_5 : MS := (mSet 0 (mOp dAdd (mVar 0) (mLst (mCons (mTup (mCons (mTup (mCons (mC (.str "longer")) (mCons (mTup (mCons (mC (.int 2)) (mCons (mC (.int 5)) mNil))) (mCons (mTup (mCons (mC (.int 2)) (mCons (mC (.int 6)) mNil))) mNil)))) (mCons (mC (.int 1)) mNil))) mNil))))
def b_by_hand_right_6 : MS := (mSet 0 (mOp dAdd (mVar 0) (mLst (mCons (mTup (mCons (mTup (mCons (mC (.str "longer")) (mCons (mTup (mCons (mC (.int 2)) (mCons (mC (.int 5)) mNil))) (mCons (mTup (mCons (mC (.int 0)) (mCons (mC (.int 9)) mNil))) mNil)))) (mCons (mC (.int 1)) mNil))) (mCons (mTup (mCons (mTup (mCons (mC (.str "split")) (mCons (mTup (mCons (mC (.int 2)) (mCons (mC (.int 5)) mNil))) (mCons (mC (.int 2)) mNil)))) (mCons (mC (.int 1)) mNil))) mNil)))))
def b_by_hand_right_7 : MS := (mSet 0 (mOp dAdd (mVar 0) (mLst (mCons (mTup (mCons (mTup (mCons (mC (.str "split")) (mCons (mTup (mCons (mC (.int 2)) (mCons (mC (.int 5)) mNil))) (mCons (mC (.int 4)) mNil)))) (mCons (mC (.int 1)) mNil))) mNil))))
def b_by_hand_right_8 : MS := (mSet 0 (mOp dAdd (mVar 0) (mLst (mCons (mTup (mCons (mTup (mCons (mC (.str "cross")) (mCons (mTup (mCons (mC (.int 2)) (mCons (mC (.int 9)) mNil))) (mCons (mTup (mCons (mC (.int 4)) (mCons (mC (.int 6)) mNil))) mNil)))) (mCons (mC (.int 1)) mNil))) (mCons (mTup (mCons (mTup (mCons (mC (.str "cross")) (mCons (mTup (mCons (mC (.int 0)) (mCons (mC (.int 2)) mNil))) (mCons (mTup (mCons (mC (.int 1)) (mCons (mC (.int 1)) mNil))) mNil)))) (mCons (mC (.int 1)) mNil))) mNil)))))
def b_by_hand_right_9 : MS := (mSet 0 (mOp dAdd (mVar 0) (mLst (mCons (mTup (mCons (mTup (mCons (mC (.str "cross")) (mCons (mTup (mCons (mC (.int 0)) (mCons (mC (.int 9)) mNil))) (mCons (mTup (mCons (mC (.int 1)) (mCons (mC (.int 8)) mNil))) mNil)))) (mCons (mC (.int 1)) mNil))) mNil))))
def b_by_hand_right_10 : MS := (mFor (mOn asS (mVar 0)) (gT 2 (Sm.gCons (gN 1) (Sm.gCons (gN 2) Sm.gNil))) (mIfS (mNot (mB (mCall [false, false] f_same 2 0 [0, 1] [] (aV (mCall [false] f_told 1 0 [0] [] (aV (mVar 1) aNil) mNil) (aV (mLst (mCons (mOp dEq (mVar 2) (mC (.int 8))) (mCons (mOp dIn2 (mVar 2) (mTup (mCons (mC (.int 4)) (mCons (mC (.int 6)) mNil)))) (mCons (mOp dIn2 (mVar 2) (mTup (mCons (mC (.int 2)) (mCons (mC (.int 6)) mNil)))) (mCons (mOp dEq (mVar 2) (mC (.int 1))) mNil))))) aNil)) mNil))) (mRet (mC (.bl false))) mNx))
def b_by_hand_right_11 : MS := (mSet 3 (mCall [] f_odd 0 0 [] [] aNil mNil))
def b_by_hand_right_12 : MS := (mIfS (mNot (mB (mFn dAll (mCons (mLc (mWipe [1] (mOn asS (mVar 3))) (gN 1) mYes (mCall [false, false] f_same 2 0 [0, 1] [] (aV (mCall [false] f_told 1 0 [0] [] (aV (mVar 1) aNil) mNil) (aV (mOp dMul (mLst (mCons (mC (.bl false)) mNil)) (mC (.int 4))) aNil)) mNil) [1]) mNil)))) (mRet (mC (.bl false))) mNx)
def b_by_hand_right_13 : MS := (mSet 4 (mLst (mCons (mCall [false] f_is_tick 0 1 [0] [] aNil (mCons (mC (.int 3)) mNil)) (mCons (mCall [false] f_is_stay 0 1 [0] [] aNil (mCons (mTup (mCons (mC (.int 3)) (mCons (mC (.int 3)) mNil))) mNil)) (mCons (mCall [false] f_is_timetable 0 1 [0] [] aNil (mCons (mTup (mCons (mC (.int 3)) (mCons (mC (.int 4)) mNil))) mNil)) mNil)))))
def b_by_hand_right_14 : MS := (mSet 4 (mOp dAdd (mVar 4) (mLst (mCons (mCall [false] f_is_move 0 1 [0] [] aNil (mCons (mTup (mCons (mC (.str "split")) (mCons (mTup (mCons (mC (.int 3)) (mCons (mC (.int 4)) mNil))) (mCons (mC (.int 3)) mNil)))) mNil)) mNil))))
def b_by_hand_right_15 : MS := (mRet (mCall [false, false] f_same 2 0 [0, 1] [] (aV (mVar 4) (aV (mOp dMul (mLst (mCons (mC (.bl true)) mNil)) (mC (.int 4))) aNil)) mNil))
def b_by_hand_right : MS := (mSeq b_by_hand_right_0 (mSeq b_by_hand_right_1 (mSeq b_by_hand_right_2 (mSeq b_by_hand_right_3 (mSeq b_by_hand_right_4 (mSeq b_by_hand_right_5 (mSeq b_by_hand_right_6 (mSeq b_by_hand_right_7 (mSeq b_by_hand_right_8 (mSeq b_by_hand_right_9 (mSeq b_by_hand_right_10 (mSeq b_by_hand_right_11 (mSeq b_by_hand_right_12 (mSeq b_by_hand_right_13 (mSeq b_by_hand_right_14 b_by_hand_right_15)))))))))))))))
def f_by_hand_right : List D → RF := mkF 5 [] b_by_hand_right
def b_right_0 : MS := (mPar 1 2 (mCall [true, false] f_take 2 0 [0, 1] [] (aIo 0 (aV (mC (.int 4)) aNil)) mNil) (mCall [true, false] f_take 2 0 [0, 1] [] (aIo 0 (aV (mC (.int 9)) aNil)) mNil))
def b_right_1 : MS := (mIfS (mB (mOp dEq (mVar 1) (mC (.int 1)))) (mSet 2 (mCall [true, false] f_stay 2 0 [0, 1] [] (aIo 0 (aV (mCall [true, false] f_of 2 0 [0, 1] [] (aIo 0 (aV (mLst (mCons (mC (.int 3)) (mCons (mC (.int 9)) (mCons (mOp dPow (mC (.int 10)) (mC (.int 40))) mNil)))) aNil)) mNil) aNil)) mNil)) mNx)
def b_right_2 : MS := (mIfS (mB (mOp dEq (mVar 1) (mC (.int 2)))) (mSet 2 (mFn dTuple (mCons (mFnF nSorted5 (mCons (mFn dSet7 (mCons (mLc (mOns rng1 (mCons (mCall [true, false] f_take 2 0 [0, 1] [] (aIo 0 (aV (mC (.int 6)) aNil)) mNil) mNil)) (gN 3) mYes (mCall [true, false] f_take 2 0 [0, 1] [] (aIo 0 (aV (mC (.int 9)) aNil)) mNil) [3]) mNil)) mNil)) mNil))) mNx)
def b_right_3 : MS := (mIfS (mB (mOp dEq (mVar 1) (mC (.int 3)))) (mSet 2 (mCall [true, false] f_deed 2 0 [0, 1] [] (aIo 0 (aV (mOp dAdd (mC (.int 4)) (mCall [true, false] f_take 2 0 [0, 1] [] (aIo 0 (aV (mC (.int 6)) aNil)) mNil)) aNil)) mNil)) mNx)
def b_right_4 : MS := (mIfS (mOr (mNot (mB (mCall [false, false] f_same 2 0 [0, 1] [] (aV (mCall [false] f_told 1 0 [0] [] (aV (mVar 2) aNil) mNil) (aV (mCall [false] f_due 1 0 [0] [] (aV (mVar 2) aNil) mNil) aNil)) mNil))) (mB (mOp dNotB (mOp dIx (mCall [false] f_due 1 0 [0] [] (aV (mVar 2) aNil) mNil) (mVar 1)) (mC (.bl true))))) (mRet (mC (.bl false))) mNx)
def b_right_5 : MS := (mFor (mOns rng1 (mCons (mC (.int 4)) mNil)) (gN 3) (mSeq (mSet 4 (mCall [true, false] f_bent 2 0 [0, 1] [] (aIo 0 (aV (mVar 2) aNil)) mNil))
    (mSeq (mSet 5 (mFn dRepr (mCons (mVar 4) mNil)))
    (mIfS (mOr (mNot (mB (mCall [false, false] f_same 2 0 [0, 1] [] (aV (mCall [false] f_told 1 0 [0] [] (aV (mVar 4) aNil) mNil) (aV (mCall [false] f_due 1 0 [0] [] (aV (mVar 4) aNil) mNil) aNil)) mNil))) (mB (mOp dNeS (mFn dRepr (mCons (mVar 4) mNil)) (mVar 5)))) (mRet (mC (.bl false))) mNx))))
def b_right_6 : MS := (mRet (mC (.bl true)))
def b_right : MS := (mSeq b_right_0 (mSeq b_right_1 (mSeq b_right_2 (mSeq b_right_3 (mSeq b_right_4 (mSeq b_right_5 b_right_6))))))
def f_right : List D → RF := mkF 6 [true] b_right
def b_law : MS := (mSeq (mIfS (mNot (mB (mCall [] f_by_hand_right 0 0 [] [] aNil mNil))) (mRet (mC (.bl false))) mNx)
    (mSeq (mSet 1 (mCall [false, false] f_cells 2 0 [0, 1] [] (aV (mVar 0) (aV (mC (.int 3)) aNil)) mNil))
    (mSeq (mFor (mOns rng1 (mCons (mFn dLen (mCons (mVar 1) mNil)) mNil)) (gN 2) (mSeq (mSetO 3 (mCallF [false, false] f_box 2 [0, 1] [] (aV (mVar 1) (aV (mVar 2) aNil))))
    (mIfS (mNot (mB (mFn dAll (mCons (mLc (mOns rng1 (mCons (mC (.int 8)) mNil)) (gN 4) mYes (mCall [true] f_right 1 0 [0] [] (aIo 3 aNil) mNil) [4]) mNil)))) (mRet (mC (.bl false))) mNx)))
    (mRet (mC (.bl true))))))
def f_law : List D → RF := mkF 5 [false] b_law
theorem law_is : f_law = mkF 5 [false] (lawA f_by_hand_right f_box f_right 8) := rfl
end Sm
set_option Elab.async false
set_option linter.all false
set_option maxRecDepth 100000
set_option maxHeartbeats 400000
namespace Sm
open PySem PySem.Spec PyProof.Rows L2
def topS (i : Nat) : Stmt := PySem.Challenge.pw_staysmet_k29_stays_timetables_and_moves.main.body.getD i (.Pass ⟨0, 0, 0, 0⟩)
abbrev s_is_number : Stmt := topS 1
abbrev s_is_rising : Stmt := topS 2
abbrev s_is_tick : Stmt := topS 6
abbrev s_is_stay : Stmt := topS 7
abbrev s_is_timetable : Stmt := topS 8
abbrev s_lies_in : Stmt := topS 9
abbrev s_size_of : Stmt := topS 10
abbrev s_is_wider : Stmt := topS 11
abbrev s_is_move : Stmt := topS 12
abbrev s_box : Stmt := topS 14
abbrev s_take : Stmt := topS 15
abbrev s_cells : Stmt := topS 16
abbrev s_of : Stmt := topS 17
abbrev s_same : Stmt := topS 18
abbrev s_stay : Stmt := topS 19
abbrev s_deed : Stmt := topS 20
abbrev s_is_count : Stmt := topS 21
abbrev s_is_pair : Stmt := topS 22
abbrev s_is_row : Stmt := topS 23
abbrev s_is_deed : Stmt := topS 24
abbrev s_told : Stmt := topS 25
abbrev s_due : Stmt := topS 26
abbrev s_bent : Stmt := topS 27
abbrev s_odd : Stmt := topS 28
abbrev s_by_hand_right : Stmt := topS 29
abbrev s_right : Stmt := topS 30
abbrev s_law : Stmt := topS 31
structure Top (L : Lay) (mg : Str → Option Value) where
  a_is_number : Addr
  d_is_number : FuncData
  F_is_number : Fun L.K "is_number" "is_number" s_is_number a_is_number d_is_number
  m_is_number : mg "is_number" = some (.ref a_is_number)
  a_is_rising : Addr
  d_is_rising : FuncData
  F_is_rising : Fun L.K "is_rising" "is_rising" s_is_rising a_is_rising d_is_rising
  m_is_rising : mg "is_rising" = some (.ref a_is_rising)
  a_is_tick : Addr
  d_is_tick : FuncData
  F_is_tick : Fun L.K "is_tick" "is_tick" s_is_tick a_is_tick d_is_tick
  m_is_tick : mg "is_tick" = some (.ref a_is_tick)
  a_is_stay : Addr
  d_is_stay : FuncData
  F_is_stay : Fun L.K "is_stay" "is_stay" s_is_stay a_is_stay d_is_stay
  m_is_stay : mg "is_stay" = some (.ref a_is_stay)
  a_is_timetable : Addr
  d_is_timetable : FuncData
  F_is_timetable : Fun L.K "is_timetable" "is_timetable" s_is_timetable a_is_timetable d_is_timetable
  m_is_timetable : mg "is_timetable" = some (.ref a_is_timetable)
  a_lies_in : Addr
  d_lies_in : FuncData
  F_lies_in : Fun L.K "lies_in" "lies_in" s_lies_in a_lies_in d_lies_in
  m_lies_in : mg "lies_in" = some (.ref a_lies_in)
  a_size_of : Addr
  d_size_of : FuncData
  F_size_of : Fun L.K "size_of" "size_of" s_size_of a_size_of d_size_of
  m_size_of : mg "size_of" = some (.ref a_size_of)
  a_is_wider : Addr
  d_is_wider : FuncData
  F_is_wider : Fun L.K "is_wider" "is_wider" s_is_wider a_is_wider d_is_wider
  m_is_wider : mg "is_wider" = some (.ref a_is_wider)
  a_is_move : Addr
  d_is_move : FuncData
  F_is_move : Fun L.K "is_move" "is_move" s_is_move a_is_move d_is_move
  m_is_move : mg "is_move" = some (.ref a_is_move)
  a_box : Addr
  d_box : FuncData
  F_box : Fun L.K "_law_box" "_law_box" s_box a_box d_box
  m_box : mg "_law_box" = some (.ref a_box)
  a_take : Addr
  d_take : FuncData
  F_take : Fun L.K "_law_take" "_law_take" s_take a_take d_take
  m_take : mg "_law_take" = some (.ref a_take)
  a_cells : Addr
  d_cells : FuncData
  F_cells : Fun L.K "_law_cells" "_law_cells" s_cells a_cells d_cells
  m_cells : mg "_law_cells" = some (.ref a_cells)
  a_of : Addr
  d_of : FuncData
  F_of : Fun L.K "_law_of" "_law_of" s_of a_of d_of
  m_of : mg "_law_of" = some (.ref a_of)
  a_same : Addr
  d_same : FuncData
  F_same : Fun L.K "_law_same" "_law_same" s_same a_same d_same
  m_same : mg "_law_same" = some (.ref a_same)
  a_stay : Addr
  d_stay : FuncData
  F_stay : Fun L.K "_law_stay" "_law_stay" s_stay a_stay d_stay
  m_stay : mg "_law_stay" = some (.ref a_stay)
  a_deed : Addr
  d_deed : FuncData
  F_deed : Fun L.K "_law_deed" "_law_deed" s_deed a_deed d_deed
  m_deed : mg "_law_deed" = some (.ref a_deed)
  a_is_count : Addr
  d_is_count : FuncData
  F_is_count : Fun L.K "_law_is_count" "_law_is_count" s_is_count a_is_count d_is_count
  m_is_count : mg "_law_is_count" = some (.ref a_is_count)
  a_is_pair : Addr
  d_is_pair : FuncData
  F_is_pair : Fun L.K "_law_is_pair" "_law_is_pair" s_is_pair a_is_pair d_is_pair
  m_is_pair : mg "_law_is_pair" = some (.ref a_is_pair)
  a_is_row : Addr
  d_is_row : FuncData
  F_is_row : Fun L.K "_law_is_row" "_law_is_row" s_is_row a_is_row d_is_row
  m_is_row : mg "_law_is_row" = some (.ref a_is_row)
  a_is_deed : Addr
  d_is_deed : FuncData
  F_is_deed : Fun L.K "_law_is_deed" "_law_is_deed" s_is_deed a_is_deed d_is_deed
  m_is_deed : mg "_law_is_deed" = some (.ref a_is_deed)
  a_told : Addr
  d_told : FuncData
  F_told : Fun L.K "_law_told" "_law_told" s_told a_told d_told
  m_told : mg "_law_told" = some (.ref a_told)
  a_due : Addr
  d_due : FuncData
  F_due : Fun L.K "_law_due" "_law_due" s_due a_due d_due
  m_due : mg "_law_due" = some (.ref a_due)
  a_bent : Addr
  d_bent : FuncData
  F_bent : Fun L.K "_law_bent" "_law_bent" s_bent a_bent d_bent
  m_bent : mg "_law_bent" = some (.ref a_bent)
  a_odd : Addr
  d_odd : FuncData
  F_odd : Fun L.K "_law_odd" "_law_odd" s_odd a_odd d_odd
  m_odd : mg "_law_odd" = some (.ref a_odd)
  a_by_hand_right : Addr
  d_by_hand_right : FuncData
  F_by_hand_right : Fun L.K "_law_by_hand_right" "_law_by_hand_right" s_by_hand_right a_by_hand_right d_by_hand_right
  m_by_hand_right : mg "_law_by_hand_right" = some (.ref a_by_hand_right)
  a_right : Addr
  d_right : FuncData
  F_right : Fun L.K "_law_right" "_law_right" s_right a_right d_right
  m_right : mg "_law_right" = some (.ref a_right)
  a_law : Addr
  d_law : FuncData
  F_law : Fun L.K "law" "law" s_law a_law d_law
  m_law : mg "law" = some (.ref a_law)
  z_abs : mg "abs" = none
  z_all : mg "all" = none
  z_bool : mg "bool" = none
  z_enumerate : mg "enumerate" = none
  z_int : mg "int" = none
  z_isinstance : mg "isinstance" = none
  z_len : mg "len" = none
  z_list : mg "list" = none
  z_max : mg "max" = none
  z_min : mg "min" = none
  z_range : mg "range" = none
  z_repr : mg "repr" = none
  z_set : mg "set" = none
  z_sorted : mg "sorted" = none
  z_str : mg "str" = none
  z_tuple : mg "tuple" = none
  z_zip : mg "zip" = none
  t_PAIR : Tok
  v_PAIR : mg "PAIR" = some (.int 2 t_PAIR)
  t_TRIPLE : Tok
  v_TRIPLE : mg "TRIPLE" = some (.int 3 t_TRIPLE)
section
variable {L : Lay} {mg : Str → Option Value} {w : World} {base : Heap}
theorem bd_is_number_1 (g : Top L mg) : Bd L g.d_is_number ["value"] 1 [] [0] [] := bd_of g.F_is_number 1 [] [0] fun _ _ _ _ _ _ us ws h1 h2 => match us, ws, h1, h2 with | [_], [], _, _ => rfl
theorem bd_is_tick_1 (g : Top L mg) : Bd L g.d_is_tick ["thing"] 1 [] [0] [] := bd_of g.F_is_tick 1 [] [0] fun _ _ _ _ _ _ us ws h1 h2 => match us, ws, h1, h2 with | [_], [], _, _ => rfl
theorem bd_is_rising_1 (g : Top L mg) : Bd L g.d_is_rising ["row"] 1 [] [0] [] := bd_of g.F_is_rising 1 [] [0] fun _ _ _ _ _ _ us ws h1 h2 => match us, ws, h1, h2 with | [_], [], _, _ => rfl
theorem bd_lies_in_2 (g : Top L mg) : Bd L g.d_lies_in ["stay", "other"] 2 [] [0, 1] [] := bd_of g.F_lies_in 2 [] [0, 1] fun _ _ _ _ _ _ us ws h1 h2 => match us, ws, h1, h2 with | [_, _], [], _, _ => rfl
theorem bd_size_of_1 (g : Top L mg) : Bd L g.d_size_of ["stay"] 1 [] [0] [] := bd_of g.F_size_of 1 [] [0] fun _ _ _ _ _ _ us ws h1 h2 => match us, ws, h1, h2 with | [_], [], _, _ => rfl
theorem bd_is_wider_2 (g : Top L mg) : Bd L g.d_is_wider ["stay", "later"] 2 [] [0, 1] [] := bd_of g.F_is_wider 2 [] [0, 1] fun _ _ _ _ _ _ us ws h1 h2 => match us, ws, h1, h2 with | [_, _], [], _, _ => rfl
theorem bd_is_stay_1 (g : Top L mg) : Bd L g.d_is_stay ["thing"] 1 [] [0] [] := bd_of g.F_is_stay 1 [] [0] fun _ _ _ _ _ _ us ws h1 h2 => match us, ws, h1, h2 with | [_], [], _, _ => rfl
theorem bd_take_2 (g : Top L mg) : Bd L g.d_take ["_law_box_here", "_law_size_so"] 2 [] [0, 1] [] := bd_of g.F_take 2 [] [0, 1] fun _ _ _ _ _ _ us ws h1 h2 => match us, ws, h1, h2 with | [_, _], [], _, _ => rfl
theorem bd_same_2 (g : Top L mg) : Bd L g.d_same ["_law_got", "_law_due_here"] 2 [] [0, 1] [] := bd_of g.F_same 2 [] [0, 1] fun _ _ _ _ _ _ us ws h1 h2 => match us, ws, h1, h2 with | [_, _], [], _, _ => rfl
theorem bd_stay_2 (g : Top L mg) : Bd L g.d_stay ["_law_box_here", "_law_high_so"] 2 [] [0, 1] [] := bd_of g.F_stay 2 [] [0, 1] fun _ _ _ _ _ _ us ws h1 h2 => match us, ws, h1, h2 with | [_, _], [], _, _ => rfl
theorem bd_is_count_1 (g : Top L mg) : Bd L g.d_is_count ["_law_mat"] 1 [] [0] [] := bd_of g.F_is_count 1 [] [0] fun _ _ _ _ _ _ us ws h1 h2 => match us, ws, h1, h2 with | [_], [], _, _ => rfl
theorem bd_is_pair_1 (g : Top L mg) : Bd L g.d_is_pair ["_law_mat"] 1 [] [0] [] := bd_of g.F_is_pair 1 [] [0] fun _ _ _ _ _ _ us ws h1 h2 => match us, ws, h1, h2 with | [_], [], _, _ => rfl
theorem bd_is_move_1 (g : Top L mg) : Bd L g.d_is_move ["thing"] 1 [] [0] [] := bd_of g.F_is_move 1 [] [0] fun _ _ _ _ _ _ us ws h1 h2 => match us, ws, h1, h2 with | [_], [], _, _ => rfl
theorem bd_is_timetable_1 (g : Top L mg) : Bd L g.d_is_timetable ["thing"] 1 [] [0] [] := bd_of g.F_is_timetable 1 [] [0] fun _ _ _ _ _ _ us ws h1 h2 => match us, ws, h1, h2 with | [_], [], _, _ => rfl
theorem bd_is_deed_1 (g : Top L mg) : Bd L g.d_is_deed ["_law_mat"] 1 [] [0] [] := bd_of g.F_is_deed 1 [] [0] fun _ _ _ _ _ _ us ws h1 h2 => match us, ws, h1, h2 with | [_], [], _, _ => rfl
theorem bd_is_row_1 (g : Top L mg) : Bd L g.d_is_row ["_law_mat"] 1 [] [0] [] := bd_of g.F_is_row 1 [] [0] fun _ _ _ _ _ _ us ws h1 h2 => match us, ws, h1, h2 with | [_], [], _, _ => rfl
theorem bd_of_2 (g : Top L mg) : Bd L g.d_of ["_law_box_here", "_law_goods_so"] 2 [] [0, 1] [] := bd_of g.F_of 2 [] [0, 1] fun _ _ _ _ _ _ us ws h1 h2 => match us, ws, h1, h2 with | [_, _], [], _, _ => rfl
theorem bd_bent_2 (g : Top L mg) : Bd L g.d_bent ["_law_box_here", "_law_mat"] 2 [] [0, 1] [] := bd_of g.F_bent 2 [] [0, 1] fun _ _ _ _ _ _ us ws h1 h2 => match us, ws, h1, h2 with | [_, _], [], _, _ => rfl
theorem bd_is_move_0_thing (g : Top L mg) : Bd L g.d_is_move ["thing"] 0 ["thing"] [0] [] := bd_of g.F_is_move 0 ["thing"] [0] fun _ _ _ _ _ _ us ws h1 h2 => match us, ws, h1, h2 with | [], [_], _, _ => rfl
theorem bd_is_timetable_0_thing (g : Top L mg) : Bd L g.d_is_timetable ["thing"] 0 ["thing"] [0] [] := bd_of g.F_is_timetable 0 ["thing"] [0] fun _ _ _ _ _ _ us ws h1 h2 => match us, ws, h1, h2 with | [], [_], _, _ => rfl
theorem bd_is_stay_0_thing (g : Top L mg) : Bd L g.d_is_stay ["thing"] 0 ["thing"] [0] [] := bd_of g.F_is_stay 0 ["thing"] [0] fun _ _ _ _ _ _ us ws h1 h2 => match us, ws, h1, h2 with | [], [_], _, _ => rfl
theorem bd_is_tick_0_thing (g : Top L mg) : Bd L g.d_is_tick ["thing"] 0 ["thing"] [0] [] := bd_of g.F_is_tick 0 ["thing"] [0] fun _ _ _ _ _ _ us ws h1 h2 => match us, ws, h1, h2 with | [], [_], _, _ => rfl
theorem bd_told_1 (g : Top L mg) : Bd L g.d_told ["_law_mat"] 1 [] [0] [] := bd_of g.F_told 1 [] [0] fun _ _ _ _ _ _ us ws h1 h2 => match us, ws, h1, h2 with | [_], [], _, _ => rfl
theorem bd_odd_0 (g : Top L mg) : Bd L g.d_odd [] 0 [] [] [] := bd_of g.F_odd 0 [] [] fun _ _ _ _ _ _ us ws h1 h2 => match us, ws, h1, h2 with | [], [], _, _ => rfl
theorem bd_due_1 (g : Top L mg) : Bd L g.d_due ["_law_mat"] 1 [] [0] [] := bd_of g.F_due 1 [] [0] fun _ _ _ _ _ _ us ws h1 h2 => match us, ws, h1, h2 with | [_], [], _, _ => rfl
theorem bd_deed_2 (g : Top L mg) : Bd L g.d_deed ["_law_box_here", "_law_high_so"] 2 [] [0, 1] [] := bd_of g.F_deed 2 [] [0, 1] fun _ _ _ _ _ _ us ws h1 h2 => match us, ws, h1, h2 with | [_, _], [], _, _ => rfl
theorem bd_right_1 (g : Top L mg) : Bd L g.d_right ["_law_box_here"] 1 [] [0] [] := bd_of g.F_right 1 [] [0] fun _ _ _ _ _ _ us ws h1 h2 => match us, ws, h1, h2 with | [_], [], _, _ => rfl
theorem bd_box_2 (g : Top L mg) : Bd L g.d_box ["_law_script", "_law_k"] 2 [] [0, 1] [] := bd_of g.F_box 2 [] [0, 1] fun _ _ _ _ _ _ us ws h1 h2 => match us, ws, h1, h2 with | [_, _], [], _, _ => rfl
theorem bd_cells_2 (g : Top L mg) : Bd L g.d_cells ["_law_script", "_law_top_so"] 2 [] [0, 1] [] := bd_of g.F_cells 2 [] [0, 1] fun _ _ _ _ _ _ us ws h1 h2 => match us, ws, h1, h2 with | [_, _], [], _, _ => rfl
theorem bd_by_hand_right_0 (g : Top L mg) : Bd L g.d_by_hand_right [] 0 [] [] [] := bd_of g.F_by_hand_right 0 [] [] fun _ _ _ _ _ _ us ws h1 h2 => match us, ws, h1, h2 with | [], [], _, _ => rfl
theorem sc_is_number : FnScope ["value"] ["value"] (defScope s_is_number) := ⟨rfl, rfl, rfl, by decide +kernel, rfl, by decide +kernel, by decide +kernel⟩
theorem ok_is_number (g : Top L mg) : FnOk L.pr L.w L.K mg base (L2.CX L.pr L.w) 1 g.a_is_number g.d_is_number ["value"] (spF L [false] f_is_number) := by
    have scope := sc_is_number
    exact fn_ok (N := ["value"]) (b := b_is_number) g.F_is_number sc_is_number rfl (by decide) fun cdv A outer s H E P hr =>
      (sS_one (sS_ret (sE_andC rfl (sE_isi (t := "int") rfl (by rfl) g.z_isinstance (pe_bltn (by rfl) g.z_int (by decide +kernel) rfl) (sE_var 0)) (sE_one (sE_notV rfl (sE_isi (t := "bool") rfl (by rfl) g.z_isinstance (pe_bltn (by rfl) g.z_bool (by decide +kernel) rfl) (sE_var 0)))))))
theorem sc_is_rising : FnScope ["row", "one", "other"] ["row"] (defScope s_is_rising) := ⟨rfl, rfl, rfl, by decide +kernel, rfl, by decide +kernel, by decide +kernel⟩
theorem ok_is_rising (g : Top L mg) : FnOk L.pr L.w L.K mg base (L2.CX L.pr L.w) 1 g.a_is_rising g.d_is_rising ["row"] (spF L [false] f_is_rising) := by
    have scope := sc_is_rising
    exact fn_ok (N := ["row", "one", "other"]) (b := b_is_rising) g.F_is_rising sc_is_rising rfl (by decide) fun cdv A outer s H E P hr =>
      (sS_one (sS_ret (sE_callB (cr_all rfl) fs_all (by rfl) g.z_all bt_all (sA_cons (SE.of (sF_lc (own := [("one", 1), ("other", 2)]) rfl scope.nd (sI_zip rfl (by rfl) g.z_zip (sA_cons (sE_var 0) (sA_cons (sE_slP 0 rfl (sO_some sE_int) sO_none) sA_nil))) (blkOk_by (by kernel_rfl)) (fun _ _ _ _ _ _ => (sC_tup rfl rfl (sCs_cons (sC_name scope.nd (i := 1) (by rfl) (.inl rfl) (by decide)) (sCs_cons (sC_name scope.nd (i := 2) (by rfl) (.inl rfl) (by decide)) sCs_nil)))) (fun _ _ _ _ _ _ => sTs_nil) (fun _ _ _ _ _ _ => (sE_cmp op_lt os_lt (sE_var 1) (sE_var 2) (nomark _))))) sA_nil))))
theorem sc_is_tick : FnScope ["thing"] ["thing"] (defScope s_is_tick) := ⟨rfl, rfl, rfl, by decide +kernel, rfl, by decide +kernel, by decide +kernel⟩
theorem ok_is_tick (g : Top L mg) : FnOk L.pr L.w L.K mg base (L2.CX L.pr L.w) 2 g.a_is_tick g.d_is_tick ["thing"] (spF L [false] f_is_tick) := by
    have scope := sc_is_tick
    exact fn_ok (N := ["thing"]) (b := b_is_tick) g.F_is_tick sc_is_tick rfl (by decide) fun cdv A outer s H E P hr =>
      (sS_one (sS_ret (sE_andC rfl (sE_call rfl ((ok_is_number g).mono (by decide)) hr (by rfl) g.m_is_number g.F_is_number.kp (bd_is_number_1 g) passB (sAr_v (sE_var 0) sAr_nil)) (sE_one (sE_cmp op_ge os_ge (sE_var 0) sE_int (nomark _))))))
theorem sc_is_stay : FnScope ["thing", "tick"] ["thing"] (defScope s_is_stay) := ⟨rfl, rfl, rfl, by decide +kernel, rfl, by decide +kernel, by decide +kernel⟩
theorem ok_is_stay (g : Top L mg) : FnOk L.pr L.w L.K mg base (L2.CX L.pr L.w) 3 g.a_is_stay g.d_is_stay ["thing"] (spF L [false] f_is_stay) := by
    have scope := sc_is_stay
    exact fn_ok (N := ["thing", "tick"]) (b := b_is_stay) g.F_is_stay sc_is_stay rfl (by decide) fun cdv A outer s H E P hr =>
      (sS_cons (sS_if (sT_w (sW_or (sT_not (sT_val (sE_isi (t := "tuple") rfl (by rfl) g.z_isinstance (pe_bltn (by rfl) g.z_tuple (by decide +kernel) rfl) (sE_var 0)))) (sW_or (sT_cmp (op_neD hr.units) os_ne (sE_callB call_len fs_len (by rfl) g.z_len bt_len (sA_cons (sE_var 0) sA_nil)) (sE_gint rfl g.v_PAIR) (nomark _)) (sW_or1 (sT_not (sT_val (sE_callB (cr_all rfl) fs_all (by rfl) g.z_all bt_all (sA_cons (SE.of (sF_lc (own := [("tick", 1)]) rfl scope.nd (sI_seq rfl (sE_var 0)) (blkOk_by (by kernel_rfl)) (fun _ _ _ _ _ _ => (sC_name scope.nd (i := 1) (by rfl) (.inl rfl) (by decide))) (fun _ _ _ _ _ _ => sTs_nil) (fun _ _ _ _ _ _ => (sE_call rfl ((ok_is_tick g).mono (by decide)) hr (by rfl) g.m_is_tick g.F_is_tick.kp (bd_is_tick_1 g) passNo (sAr_v (sE_var 1) sAr_nil))))) sA_nil)))))))) (sS_one (sS_ret sE_bl)) sS_nil)
      (sS_one (sS_ret (sE_cmp op_le os_le (sE_ixP 0 rfl sE_int) (sE_ixP 0 rfl sE_int) (nomark _)))))
theorem sc_is_timetable : FnScope ["thing", "tick"] ["thing"] (defScope s_is_timetable) := ⟨rfl, rfl, rfl, by decide +kernel, rfl, by decide +kernel, by decide +kernel⟩
theorem ok_is_timetable (g : Top L mg) : FnOk L.pr L.w L.K mg base (L2.CX L.pr L.w) 3 g.a_is_timetable g.d_is_timetable ["thing"] (spF L [false] f_is_timetable) := by
    have scope := sc_is_timetable
    exact fn_ok (N := ["thing", "tick"]) (b := b_is_timetable) g.F_is_timetable sc_is_timetable rfl (by decide) fun cdv A outer s H E P hr =>
      (sS_one (sS_ret (sE_andC rfl (sE_isi (t := "tuple") rfl (by rfl) g.z_isinstance (pe_bltn (by rfl) g.z_tuple (by decide +kernel) rfl) (sE_var 0)) (sE_andC rfl (sE_callB (cr_all rfl) fs_all (by rfl) g.z_all bt_all (sA_cons (SE.of (sF_lc (own := [("tick", 1)]) rfl scope.nd (sI_seq rfl (sE_var 0)) (blkOk_by (by kernel_rfl)) (fun _ _ _ _ _ _ => (sC_name scope.nd (i := 1) (by rfl) (.inl rfl) (by decide))) (fun _ _ _ _ _ _ => sTs_nil) (fun _ _ _ _ _ _ => (sE_call rfl ((ok_is_tick g).mono (by decide)) hr (by rfl) g.m_is_tick g.F_is_tick.kp (bd_is_tick_1 g) passNo (sAr_v (sE_var 1) sAr_nil))))) sA_nil)) (sE_one (sE_call rfl ((ok_is_rising g).mono (by decide)) hr (by rfl) g.m_is_rising g.F_is_rising.kp (bd_is_rising_1 g) passB (sAr_v (sE_var 0) sAr_nil)))))))
theorem sc_lies_in : FnScope ["stay", "other"] ["stay", "other"] (defScope s_lies_in) := ⟨rfl, rfl, rfl, by decide +kernel, rfl, by decide +kernel, by decide +kernel⟩
theorem ok_lies_in (g : Top L mg) : FnOk L.pr L.w L.K mg base (L2.CX L.pr L.w) 1 g.a_lies_in g.d_lies_in ["stay", "other"] (spF L [false, false] f_lies_in) := by
    have scope := sc_lies_in
    exact fn_ok (N := ["stay", "other"]) (b := b_lies_in) g.F_lies_in sc_lies_in rfl (by decide) fun cdv A outer s H E P hr =>
      (sS_one (sS_ret (sE_andC rfl (sE_cmp op_le os_le (sE_ixP 1 rfl sE_int) (sE_ixP 0 rfl sE_int) (nomark _)) (sE_one (sE_cmp op_le os_le (sE_ixP 0 rfl sE_int) (sE_ixP 1 rfl sE_int) (nomark _))))))
theorem sc_size_of : FnScope ["stay"] ["stay"] (defScope s_size_of) := ⟨rfl, rfl, rfl, by decide +kernel, rfl, by decide +kernel, by decide +kernel⟩
theorem ok_size_of (g : Top L mg) : FnOk L.pr L.w L.K mg base (L2.CX L.pr L.w) 1 g.a_size_of g.d_size_of ["stay"] (spF L [false] f_size_of) := by
    have scope := sc_size_of
    exact fn_ok (N := ["stay"]) (b := b_size_of) g.F_size_of sc_size_of rfl (by decide) fun cdv A outer s H E P hr =>
      (sS_one (sS_ret (sE_op or_add os_add (sE_op op_sub os_sub (sE_ixP 0 rfl sE_int) (sE_ixP 0 rfl sE_int)) sE_int)))
theorem sc_is_wider : FnScope ["stay", "later"] ["stay", "later"] (defScope s_is_wider) := ⟨rfl, rfl, rfl, by decide +kernel, rfl, by decide +kernel, by decide +kernel⟩
theorem ok_is_wider (g : Top L mg) : FnOk L.pr L.w L.K mg base (L2.CX L.pr L.w) 2 g.a_is_wider g.d_is_wider ["stay", "later"] (spF L [false, false] f_is_wider) := by
    have scope := sc_is_wider
    exact fn_ok (N := ["stay", "later"]) (b := b_is_wider) g.F_is_wider sc_is_wider rfl (by decide) fun cdv A outer s H E P hr =>
      (sS_one (sS_ret (sE_andC rfl (sE_call rfl ((ok_lies_in g).mono (by decide)) hr (by rfl) g.m_lies_in g.F_lies_in.kp (bd_lies_in_2 g) passB (sAr_v (sE_var 0) (sAr_v (sE_var 1) sAr_nil))) (sE_one (sE_cmp op_lt os_lt (sE_call rfl ((ok_size_of g).mono (by decide)) hr (by rfl) g.m_size_of g.F_size_of.kp (bd_size_of_1 g) passB (sAr_v (sE_var 0) sAr_nil)) (sE_call rfl ((ok_size_of g).mono (by decide)) hr (by rfl) g.m_size_of g.F_size_of.kp (bd_size_of_1 g) passB (sAr_v (sE_var 1) sAr_nil)) (nomark _))))))
theorem sc_is_move : FnScope ["thing", "word", "stay", "more"] ["thing"] (defScope s_is_move) := ⟨rfl, rfl, rfl, by decide +kernel, rfl, by decide +kernel, by decide +kernel⟩
theorem ok_is_move (g : Top L mg) : FnOk L.pr L.w L.K mg base (L2.CX L.pr L.w) 4 g.a_is_move g.d_is_move ["thing"] (spF L [false] f_is_move) := by
    have scope := sc_is_move
    exact fn_ok (N := ["thing", "word", "stay", "more"]) (b := b_is_move) g.F_is_move sc_is_move rfl (by decide) fun cdv A outer s H E P hr =>
      (sS_cons (sS_if (sT_w (sW_or (sT_not (sT_val (sE_isi (t := "tuple") rfl (by rfl) g.z_isinstance (pe_bltn (by rfl) g.z_tuple (by decide +kernel) rfl) (sE_var 0)))) (sW_or (sT_not (sT_chain op_le op_le os_le os_le (sE_gint rfl g.v_PAIR) (sE_callB call_len fs_len (by rfl) g.z_len bt_len (sA_cons (sE_var 0) sA_nil)) (sE_gint rfl g.v_TRIPLE))) (sW_or1 (sT_not (sT_val (sE_call rfl ((ok_is_stay g).mono (by decide)) hr (by rfl) g.m_is_stay g.F_is_stay.kp (bd_is_stay_1 g) passB (sAr_v (sE_ixP 0 rfl sE_int) sAr_nil)))))))) (sS_one (sS_ret sE_bl)) sS_nil)
      (sS_cons (sS_if (sT_cmp (op_eqD hr.units) os_eq (sE_callB call_len fs_len (by rfl) g.z_len bt_len (sA_cons (sE_var 0) sA_nil)) (sE_gint rfl g.v_PAIR) (nomark _)) (sS_one (sS_ret (sE_andC rfl (sE_isi (t := "str") rfl (by rfl) g.z_isinstance (pe_bltn (by rfl) g.z_str (by decide +kernel) rfl) (sE_ixP 0 rfl sE_int)) (sE_one (sE_cmp (op_eqD hr.units) os_eq (sE_ixP 0 rfl sE_int) sE_str (nomark _)))))) sS_nil)
      (sS_cons (sS_asg (sE_var 0) (sG_tup rfl rfl (sGs_cons (sG_name (i := 1) scope.nd (by rfl) (.inl rfl)) (sGs_cons (sG_name (i := 2) scope.nd (by rfl) (.inl rfl)) (sGs_cons (sG_name (i := 3) scope.nd (by rfl) (.inl rfl)) sGs_nil)))))
      (sS_cons (sS_if (sT_not (sT_val (sE_isi (t := "str") rfl (by rfl) g.z_isinstance (pe_bltn (by rfl) g.z_str (by decide +kernel) rfl) (sE_var 1)))) (sS_one (sS_ret sE_bl)) sS_nil)
      (sS_cons (sS_if (sT_cmp (op_eqD hr.units) os_eq (sE_var 1) sE_str (nomark _)) (sS_one (sS_ret (sE_andC rfl (sE_call rfl ((ok_is_tick g).mono (by decide)) hr (by rfl) g.m_is_tick g.F_is_tick.kp (bd_is_tick_1 g) passB (sAr_v (sE_var 3) sAr_nil)) (sE_one (sE_chain op_le op_lt os_le os_lt (sE_ixP 2 rfl sE_int) (sE_var 3) (sE_ixP 2 rfl sE_int)))))) sS_nil)
      (sS_cons (sS_if (sT_w (sW_or (sT_cmp (op_notIn2 (room65 hr)) os_notIn2 (sE_var 1) (sE_tup (sA_cons sE_str (sA_cons sE_str sA_nil))) (by with_unfolding_all rfl)) (sW_or1 (sT_not (sT_val (sE_call rfl ((ok_is_stay g).mono (by decide)) hr (by rfl) g.m_is_stay g.F_is_stay.kp (bd_is_stay_1 g) passB (sAr_v (sE_var 3) sAr_nil))))))) (sS_one (sS_ret sE_bl)) sS_nil)
      (sS_one (sS_ret (sE_if (sT_cmp (op_eqD hr.units) os_eq (sE_var 1) sE_str (nomark _)) (sE_call rfl ((ok_is_wider g).mono (by decide)) hr (by rfl) g.m_is_wider g.F_is_wider.kp (bd_is_wider_2 g) passB (sAr_v (sE_var 2) (sAr_v (sE_var 3) sAr_nil))) (sE_andC rfl (sE_cmp op_lt os_lt (sE_ixP 2 rfl sE_int) (sE_ixP 3 rfl sE_int) (nomark _)) (sE_one (sE_cmp op_lt os_lt (sE_ixP 3 rfl sE_int) (sE_ixP 2 rfl sE_int) (nomark _)))))))))))))
theorem sc_box : FnScope ["_law_script", "_law_k", "_law_cell"] ["_law_script", "_law_k"] (defScope s_box) := ⟨rfl, rfl, rfl, by decide +kernel, rfl, by decide +kernel, by decide +kernel⟩
theorem ok_box (g : Top L mg) : FnOk L.pr L.w L.K mg base (L2.CX L.pr L.w) 1 g.a_box g.d_box ["_law_script", "_law_k"] (spF L [false, false] f_box) := by
    have scope := sc_box
    exact fn_ok (N := ["_law_script", "_law_k", "_law_cell"]) (b := b_box) g.F_box sc_box rfl (by decide) fun cdv A outer s H E P hr =>
      (sS_cons (sS_set (i := 2) scope.nd (by rfl) (.inl rfl) (sE_if (sT_cmp op_lt os_lt (sE_var 1) (sE_callB call_len fs_len (by rfl) g.z_len bt_len (sA_cons (sE_var 0) sA_nil)) (nomark _)) (sE_ixP 0 rfl (sE_var 1)) sE_int))
      (sS_one (sS_retO (tLst_fresh (sA_cons (sE_op or_mul os_mul (sE_callB call_abs fs_abs (by rfl) g.z_abs bt_abs (sA_cons (sE_var 2) sA_nil)) (sE_callTy call_int1 fs_int (by rfl) g.z_int bt_int (sA_cons (sE_cmp op_ge os_ge (sE_callB call_abs fs_abs (by rfl) g.z_abs bt_abs (sA_cons (sE_var 2) sA_nil)) (sE_op op_pow os_pow sE_int sE_int) (nomark _)) sA_nil))) (sA_cons (sE_op or_add os_add (sE_op or_add os_add (sE_op op_mod os_mod (sE_callTy call_int1 fs_int (by rfl) g.z_int bt_int (sA_cons (sE_var 2) sA_nil)) sE_int) (sE_op or_mul os_mul sE_int (sE_var 1))) sE_int) (sA_cons sE_int sA_nil)))))))
theorem sc_take : FnScope ["_law_box_here", "_law_size_so", "_law_some", "_law_once", "_law_far", "_law_again"] ["_law_box_here", "_law_size_so"] (defScope s_take) := ⟨rfl, rfl, rfl, by decide +kernel, rfl, by decide +kernel, by decide +kernel⟩
theorem ok_take (g : Top L mg) : FnOk L.pr L.w L.K mg base (L2.CX L.pr L.w) 1 g.a_take g.d_take ["_law_box_here", "_law_size_so"] (spF L [true, false] f_take) := by
    have scope := sc_take
    exact fn_ok (N := ["_law_box_here", "_law_size_so", "_law_some", "_law_once", "_law_far", "_law_again"]) (b := b_take) g.F_take sc_take rfl (by decide) fun cdv A outer s H E P hr =>
      (sS_cons (sS_if (sT_cmp op_gt os_gt (sE_ixP 0 rfl sE_int) sE_int (nomark _)) (sS_cons (sS_set (i := 2) scope.nd (by rfl) (.inl rfl) (sE_op op_mod os_mod (sE_callTy call_int1 fs_int (by rfl) g.z_int bt_int (sA_cons (sE_ixP 0 rfl sE_int) sA_nil)) (sE_var 1)))
      (sS_cons (sS_asg (sE_op op_fdivW os_fdiv (sE_ixP 0 rfl sE_int) (sE_var 1)) (sG_ix (W := (Wof E)) 0 sE_int))
      (sS_one (sS_ret (sE_var 2))))) sS_nil)
      (sS_cons (sS_asg (sE_op or_add os_add (sE_ixP 0 rfl sE_int) sE_int) (sG_ix (W := (Wof E)) 0 sE_int))
      (sS_cons (sS_set (i := 3) scope.nd (by rfl) (.inl rfl) (sE_op op_mod os_mod (sE_callTy call_int1 fs_int (by rfl) g.z_int bt_int (sA_cons (sE_op or_mul os_mul (sE_op or_add os_add (sE_ixP 0 rfl sE_int) (sE_op or_mul os_mul sE_int (sE_ixP 0 rfl sE_int))) (sE_op or_add os_add sE_int (sE_ixP 0 rfl sE_int))) sA_nil)) sE_int))
      (sS_cons (sS_set (i := 4) scope.nd (by rfl) (.inl rfl) (sE_op or_add os_add (sE_op op_mod os_mod (sE_callTy call_int1 fs_int (by rfl) g.z_int bt_int (sA_cons (sE_var 3) sA_nil)) sE_int) sE_int))
      (sS_cons (sS_set (i := 5) scope.nd (by rfl) (.inl rfl) (sE_op op_mod os_mod (sE_callTy call_int1 fs_int (by rfl) g.z_int bt_int (sA_cons (sE_op or_mul os_mul (sE_op or_add os_add (sE_op or_add os_add (sE_var 3) (sE_ixP 0 rfl sE_int)) (sE_op op_fdivW os_fdiv (sE_ixP 0 rfl sE_int) sE_int)) (sE_var 4)) sA_nil)) sE_int))
      (sS_one (sS_ret (sE_op op_mod os_mod (sE_callTy call_int1 fs_int (by rfl) g.z_int bt_int (sA_cons (sE_op op_fdivW os_fdiv (sE_op op_mod os_mod (sE_callTy call_int1 fs_int (by rfl) g.z_int bt_int (sA_cons (sE_op or_add os_add (sE_op or_mul os_mul (sE_var 5) sE_int) (sE_var 3)) sA_nil)) sE_int) sE_int) sA_nil)) (sE_var 1)))))))))
theorem sc_cells : FnScope ["_law_script", "_law_top_so", "_law_cells_so", "_law_k", "_law_cell", "_law_at_so"] ["_law_script", "_law_top_so"] (defScope s_cells) := ⟨rfl, rfl, rfl, by decide +kernel, rfl, by decide +kernel, by decide +kernel⟩
theorem ok_cells (g : Top L mg) : FnOk L.pr L.w L.K mg base (L2.CX L.pr L.w) 1 g.a_cells g.d_cells ["_law_script", "_law_top_so"] (spF L [false, false] f_cells) := by
    have scope := sc_cells
    exact fn_ok (N := ["_law_script", "_law_top_so", "_law_cells_so", "_law_k", "_law_cell", "_law_at_so"]) (b := b_cells) g.F_cells sc_cells rfl (by decide) fun cdv A outer s H E P hr =>
      (sS_cons (sS_setO (i := 2) scope.nd (by rfl) (.inl rfl) (sF_or rfl (sF_callTy call_list_of ff_list (by rfl) g.z_list bt_list (sA_cons (sE_slP 0 rfl sO_none (sO_some (sE_var 1))) sA_nil)) (tLst_fresh (sA_cons sE_int sA_nil))))
      (sS_cons (sS_for ownB rfl (sI_enum2 rfl (by rfl) g.z_enumerate (sA_cons (sE_slP 0 rfl (sO_some (sE_var 1)) (sO_some sE_int)) sA_nil)) (sG_tup rfl rfl (sGs_cons (sG_name (i := 3) scope.nd (by rfl) (.inl rfl)) (sGs_cons (sG_name (i := 4) scope.nd (by rfl) (.inl rfl)) sGs_nil))) (sS_cons (sS_set (i := 5) scope.nd (by rfl) (.inl rfl) (sE_op op_mod os_mod (sE_callTy call_int1 fs_int (by rfl) g.z_int bt_int (sA_cons (sE_var 3) sA_nil)) (sE_var 1)))
      (sS_one (sS_asg (sE_op or_add os_add (sE_ixP 2 rfl (sE_var 5)) (sE_op or_mul os_mul (sE_var 4) (sE_op or_add os_add (sE_var 3) sE_int))) (sG_ix (W := (Wof E)) 2 (sE_var 5))))))
      (sS_one (sS_ret (sE_var 2)))))
theorem sc_of : FnScope ["_law_box_here", "_law_goods_so"] ["_law_box_here", "_law_goods_so"] (defScope s_of) := ⟨rfl, rfl, rfl, by decide +kernel, rfl, by decide +kernel, by decide +kernel⟩
theorem ok_of (g : Top L mg) : FnOk L.pr L.w L.K mg base (L2.CX L.pr L.w) 2 g.a_of g.d_of ["_law_box_here", "_law_goods_so"] (spF L [true, false] f_of) := by
    have scope := sc_of
    exact fn_ok (N := ["_law_box_here", "_law_goods_so"]) (b := b_of) g.F_of sc_of rfl (by decide) fun cdv A outer s H E P hr =>
      (sS_one (sS_ret (sE_ixP 1 rfl (sE_call rfl ((ok_take g).mono (by decide)) hr (by rfl) g.m_take g.F_take.kp (bd_take_2 g) passB (sAr_io 0 (sAr_v (sE_callB call_len fs_len (by rfl) g.z_len bt_len (sA_cons (sE_var 1) sA_nil)) sAr_nil))))))
theorem sc_same : FnScope ["_law_got", "_law_due_here", "_law_alike_so", "_law_mine", "_law_its"] ["_law_got", "_law_due_here"] (defScope s_same) := ⟨rfl, rfl, rfl, by decide +kernel, rfl, by decide +kernel, by decide +kernel⟩
theorem okn_same (g : Top L mg) : ∀ n : Nat, FnOk L.pr L.w L.K mg base (L2.CX L.pr L.w) (n + 0) g.a_same g.d_same ["_law_got", "_law_due_here"] (spF L [false, false] (ff_same n))
  | 0 => fn_fail
  | n + 1 => by
    have self := okn_same g n
    have scope := sc_same
    rw [show n + 1 + 0 = (n + 0) + 1 by omega]
    exact fn_ok (N := ["_law_got", "_law_due_here", "_law_alike_so", "_law_mine", "_law_its"]) (b := b_same (ff_same n)) g.F_same sc_same rfl (by decide) fun cdv A outer s H E P hr =>
      (sS_cons (sS_if (sT_val (sE_isi2 (t := "list") (t' := "tuple") rfl (by rfl) g.z_isinstance (pe_bltn (by rfl) g.z_list (by decide +kernel) rfl) (pe_bltn (by rfl) g.z_tuple (by decide +kernel) rfl) (sE_var 1))) (sS_cons (sS_if (sT_cmp (op_neD hr.units) os_ne (sE_isi (t := "list") rfl (by rfl) g.z_isinstance (pe_bltn (by rfl) g.z_list (by decide +kernel) rfl) (sE_var 0)) (sE_isi (t := "list") rfl (by rfl) g.z_isinstance (pe_bltn (by rfl) g.z_list (by decide +kernel) rfl) (sE_var 1)) (nomark _)) (sS_one (sS_ret sE_bl)) sS_nil)
      (sS_cons (sS_if (sT_cmp (op_neD hr.units) os_ne (sE_isi (t := "tuple") rfl (by rfl) g.z_isinstance (pe_bltn (by rfl) g.z_tuple (by decide +kernel) rfl) (sE_var 0)) (sE_isi (t := "tuple") rfl (by rfl) g.z_isinstance (pe_bltn (by rfl) g.z_tuple (by decide +kernel) rfl) (sE_var 1)) (nomark _)) (sS_one (sS_ret sE_bl)) sS_nil)
      (sS_one (sS_ret (sE_andC rfl (sE_cmp (op_eqD hr.units) os_eq (sE_callB call_len fs_len (by rfl) g.z_len bt_len (sA_cons (sE_var 0) sA_nil)) (sE_callB call_len fs_len (by rfl) g.z_len bt_len (sA_cons (sE_var 1) sA_nil)) (nomark _)) (sE_one (sE_callB (cr_all rfl) fs_all (by rfl) g.z_all bt_all (sA_cons (SE.of (sF_lc (own := [("_law_mine", 3), ("_law_its", 4)]) rfl scope.nd (sI_zip rfl (by rfl) g.z_zip (sA_cons (sE_var 0) (sA_cons (sE_var 1) sA_nil))) (blkOk_by (by kernel_rfl)) (fun _ _ _ _ _ _ => (sC_tup rfl rfl (sCs_cons (sC_name scope.nd (i := 3) (by rfl) (.inl rfl) (by decide)) (sCs_cons (sC_name scope.nd (i := 4) (by rfl) (.inl rfl) (by decide)) sCs_nil)))) (fun _ _ _ _ _ _ => sTs_nil) (fun _ _ _ _ _ _ => (sE_call rfl self hr (by rfl) g.m_same g.F_same.kp (bd_same_2 g) passNo (sAr_v (sE_var 3) (sAr_v (sE_var 4) sAr_nil)))))) sA_nil)))))))) sS_nil)
      (sS_cons (sS_if (sT_w (sW_or (sT_cmp op_isN os_is (sE_var 1) sE_non (nomark _)) (sW_or1 (sT_val (sE_isi2 (t := "bool") (t' := "str") rfl (by rfl) g.z_isinstance (pe_bltn (by rfl) g.z_bool (by decide +kernel) rfl) (pe_bltn (by rfl) g.z_str (by decide +kernel) rfl) (sE_var 1)))))) (sS_cons (sS_set (i := 2) scope.nd (by rfl) (.inl rfl) (sE_andC rfl (sE_cmp (op_eqD hr.units) os_eq (sE_isi (t := "bool") rfl (by rfl) g.z_isinstance (pe_bltn (by rfl) g.z_bool (by decide +kernel) rfl) (sE_var 0)) (sE_isi (t := "bool") rfl (by rfl) g.z_isinstance (pe_bltn (by rfl) g.z_bool (by decide +kernel) rfl) (sE_var 1)) (nomark _)) (sE_one (sE_cmp (op_eqD hr.units) os_eq (sE_cmp op_isN os_is (sE_var 0) sE_non (nomark _)) (sE_cmp op_isN os_is (sE_var 1) sE_non (nomark _)) (nomark _)))))
      (sS_one (sS_ret (sE_andC rfl (sE_var 2) (sE_one (sE_cmp (op_eqD hr.units) os_eq (sE_var 0) (sE_var 1) (nomark _))))))) sS_nil)
      (sS_one (sS_ret (sE_andC rfl (sE_isi (t := "int") rfl (by rfl) g.z_isinstance (pe_bltn (by rfl) g.z_int (by decide +kernel) rfl) (sE_var 0)) (sE_andC rfl (sE_notV rfl (sE_isi (t := "bool") rfl (by rfl) g.z_isinstance (pe_bltn (by rfl) g.z_bool (by decide +kernel) rfl) (sE_var 0))) (sE_one (sE_cmp (op_eqD hr.units) os_eq (sE_var 0) (sE_var 1) (nomark _)))))))))
theorem ok_same (g : Top L mg) : FnOk L.pr L.w L.K mg base (L2.CX L.pr L.w) 6 g.a_same g.d_same ["_law_got", "_law_due_here"] (spF L [false, false] f_same) := okn_same g 6
theorem sc_stay : FnScope ["_law_box_here", "_law_high_so", "_law_ends_so"] ["_law_box_here", "_law_high_so"] (defScope s_stay) := ⟨rfl, rfl, rfl, by decide +kernel, rfl, by decide +kernel, by decide +kernel⟩
theorem ok_stay (g : Top L mg) : FnOk L.pr L.w L.K mg base (L2.CX L.pr L.w) 2 g.a_stay g.d_stay ["_law_box_here", "_law_high_so"] (spF L [true, false] f_stay) := by
    have scope := sc_stay
    exact fn_ok (N := ["_law_box_here", "_law_high_so", "_law_ends_so"]) (b := b_stay) g.F_stay sc_stay rfl (by decide) fun cdv A outer s H E P hr =>
      (sS_cons (sS_set (i := 2) scope.nd (by rfl) (.inl rfl) (sE_lst (sA_cons (sE_call rfl ((ok_take g).mono (by decide)) hr (by rfl) g.m_take g.F_take.kp (bd_take_2 g) passB (sAr_io 0 (sAr_v (sE_var 1) sAr_nil))) (sA_cons (sE_call rfl ((ok_take g).mono (by decide)) hr (by rfl) g.m_take g.F_take.kp (bd_take_2 g) passB (sAr_io 0 (sAr_v (sE_var 1) sAr_nil))) sA_nil))))
      (sS_one (sS_ret (sE_tup (sA_cons (sE_callB (cr_min1 rfl (of65 (room65 hr))) fs_min1 (by rfl) g.z_min bt_min (sA_cons (sE_var 2) sA_nil)) (sA_cons (sE_callB (cr_max1 rfl (of65 (room65 hr))) fs_max1 (by rfl) g.z_max bt_max (sA_cons (sE_var 2) sA_nil)) sA_nil))))))
theorem sc_deed : FnScope ["_law_box_here", "_law_high_so", "_law_sort_so", "_law_own", "_law_low_so", "_law_far", "_law_less_so", "_law_more_so", "_law_ends_so", "_law_turn"] ["_law_box_here", "_law_high_so"] (defScope s_deed) := ⟨rfl, rfl, rfl, by decide +kernel, rfl, by decide +kernel, by decide +kernel⟩
theorem ok_deed (g : Top L mg) : FnOk L.pr L.w L.K mg base (L2.CX L.pr L.w) 3 g.a_deed g.d_deed ["_law_box_here", "_law_high_so"] (spF L [true, false] f_deed) := by
    have scope := sc_deed
    exact fn_ok (N := ["_law_box_here", "_law_high_so", "_law_sort_so", "_law_own", "_law_low_so", "_law_far", "_law_less_so", "_law_more_so", "_law_ends_so", "_law_turn"]) (b := b_deed) g.F_deed sc_deed rfl (by decide) fun cdv A outer s H E P hr =>
      (sS_cons (sS_par (i := 2) (j := 3) rfl scope.nd (by rfl) (by rfl) (by decide) rfl rfl (sE_call rfl ((ok_take g).mono (by decide)) hr (by rfl) g.m_take g.F_take.kp (bd_take_2 g) passB (sAr_io 0 (sAr_v sE_int sAr_nil))) (sE_call rfl ((ok_stay g).mono (by decide)) hr (by rfl) g.m_stay g.F_stay.kp (bd_stay_2 g) passB (sAr_io 0 (sAr_v (sE_var 1) sAr_nil))) (by rfl))
      (sS_cons (sS_asg (sE_var 3) (sG_tup rfl rfl (sGs_cons (sG_name (i := 4) scope.nd (by rfl) (.inr rfl)) (sGs_cons (sG_name (i := 5) scope.nd (by rfl) (.inr rfl)) sGs_nil))))
      (sS_cons (sS_if (sT_w (sW_and (sT_cmp (op_eqD hr.units) os_eq (sE_var 2) sE_int (nomark _)) (sW_and1 (sT_w (sW_or (sT_cmp op_gt os_gt (sE_var 4) sE_int (nomark _)) (sW_or1 (sT_cmp op_lt os_lt (sE_var 5) (sE_op op_sub os_sub (sE_var 1) sE_int) (nomark _)))))))) (sS_cons (sS_set (i := 6) scope.nd (by rfl) (.inl rfl) (sE_call rfl ((ok_take g).mono (by decide)) hr (by rfl) g.m_take g.F_take.kp (bd_take_2 g) passB (sAr_io 0 (sAr_v (sE_op or_add os_add (sE_var 4) sE_int) sAr_nil))))
      (sS_cons (sS_set (i := 7) scope.nd (by rfl) (.inl rfl) (sE_op or_add os_add (sE_var 5) (sE_call rfl ((ok_take g).mono (by decide)) hr (by rfl) g.m_take g.F_take.kp (bd_take_2 g) passB (sAr_io 0 (sAr_v (sE_op op_sub os_sub (sE_var 1) (sE_var 5)) sAr_nil)))))
      (sS_cons (sS_set (i := 7) scope.nd (by rfl) (.inl rfl) (sE_op or_add os_add (sE_var 7) (sE_callTy call_int1 fs_int (by rfl) g.z_int bt_int (sA_cons (sE_andC rfl (sE_cmp (op_eqD hr.units) os_eq (sE_tup (sA_cons (sE_var 6) (sA_cons (sE_var 7) sA_nil))) (sE_var 3) (nomark _)) (sE_one (sE_cmp op_lt os_lt (sE_var 7) (sE_op op_sub os_sub (sE_var 1) sE_int) (nomark _)))) sA_nil))))
      (sS_cons (sS_set (i := 6) scope.nd (by rfl) (.inl rfl) (sE_op op_sub os_sub (sE_var 6) (sE_callTy call_int1 fs_int (by rfl) g.z_int bt_int (sA_cons (sE_cmp (op_eqD hr.units) os_eq (sE_tup (sA_cons (sE_var 6) (sA_cons (sE_var 7) sA_nil))) (sE_var 3) (nomark _)) sA_nil))))
      (sS_one (sS_ret (sE_tup (sA_cons sE_str (sA_cons (sE_var 3) (sA_cons (sE_tup (sA_cons (sE_var 6) (sA_cons (sE_var 7) sA_nil))) sA_nil)))))))))) sS_nil)
      (sS_cons (sS_if (sT_w (sW_and (sT_cmp (op_eqD hr.units) os_eq (sE_var 2) sE_int (nomark _)) (sW_and1 (sT_cmp op_lt os_lt (sE_var 4) (sE_var 5) (nomark _))))) (sS_one (sS_ret (sE_tup (sA_cons sE_str (sA_cons (sE_var 3) (sA_cons (sE_op or_add os_add (sE_var 4) (sE_call rfl ((ok_take g).mono (by decide)) hr (by rfl) g.m_take g.F_take.kp (bd_take_2 g) passB (sAr_io 0 (sAr_v (sE_op op_sub os_sub (sE_var 5) (sE_var 4)) sAr_nil)))) sA_nil)))))) sS_nil)
      (sS_cons (sS_if (sT_w (sW_and (sT_cmp (op_eqD hr.units) os_eq (sE_var 2) sE_int (nomark _)) (sW_and1 (sT_cmp op_gt os_gt (sE_op op_sub os_sub (sE_var 5) (sE_var 4)) sE_int (nomark _))))) (sS_cons (sS_setLcO (i := 8) (own := [("_law_turn", 9)]) rfl scope.nd (by rfl) rfl (sI_range1 (by rfl) g.z_range (sA_cons sE_int sA_nil)) (blkOk_by (by kernel_rfl)) (fun _ _ _ _ _ _ => (sC_name scope.nd (i := 9) (by rfl) (.inl rfl) (by decide))) (fun _ _ _ _ _ _ => sTs_nil) (fun _ _ _ _ _ _ => (sE_op or_add os_add (sE_op or_add os_add (sE_var 4) sE_int) (sE_call rfl ((ok_take g).mono (by decide)) hr (by rfl) g.m_take g.F_take.kp (bd_take_2 g) passNo (sAr_io 0 (sAr_v (sE_op op_sub os_sub (sE_op op_sub os_sub (sE_var 5) (sE_var 4)) sE_int) sAr_nil))))) (by rfl))
      (sS_one (sS_ret (sE_tup (sA_cons sE_str (sA_cons (sE_var 3) (sA_cons (sE_tup (sA_cons (sE_callB (cr_min1 rfl (of65 (room65 hr))) fs_min1 (by rfl) g.z_min bt_min (sA_cons (sE_var 8) sA_nil)) (sA_cons (sE_callB (cr_max1 rfl (of65 (room65 hr))) fs_max1 (by rfl) g.z_max bt_max (sA_cons (sE_var 8) sA_nil)) sA_nil))) sA_nil))))))) sS_nil)
      (sS_one (sS_ret (sE_tup (sA_cons sE_str (sA_cons (sE_var 3) sA_nil))))))))))
theorem sc_is_count : FnScope ["_law_mat"] ["_law_mat"] (defScope s_is_count) := ⟨rfl, rfl, rfl, by decide +kernel, rfl, by decide +kernel, by decide +kernel⟩
theorem ok_is_count (g : Top L mg) : FnOk L.pr L.w L.K mg base (L2.CX L.pr L.w) 1 g.a_is_count g.d_is_count ["_law_mat"] (spF L [false] f_is_count) := by
    have scope := sc_is_count
    exact fn_ok (N := ["_law_mat"]) (b := b_is_count) g.F_is_count sc_is_count rfl (by decide) fun cdv A outer s H E P hr =>
      (sS_one (sS_ret (sE_andC rfl (sE_isi (t := "int") rfl (by rfl) g.z_isinstance (pe_bltn (by rfl) g.z_int (by decide +kernel) rfl) (sE_var 0)) (sE_andC rfl (sE_notV rfl (sE_isi (t := "bool") rfl (by rfl) g.z_isinstance (pe_bltn (by rfl) g.z_bool (by decide +kernel) rfl) (sE_var 0))) (sE_one (sE_cmp op_ge os_ge (sE_var 0) sE_int (nomark _)))))))
theorem sc_is_pair : FnScope ["_law_mat", "_law_own"] ["_law_mat"] (defScope s_is_pair) := ⟨rfl, rfl, rfl, by decide +kernel, rfl, by decide +kernel, by decide +kernel⟩
theorem ok_is_pair (g : Top L mg) : FnOk L.pr L.w L.K mg base (L2.CX L.pr L.w) 2 g.a_is_pair g.d_is_pair ["_law_mat"] (spF L [false] f_is_pair) := by
    have scope := sc_is_pair
    exact fn_ok (N := ["_law_mat", "_law_own"]) (b := b_is_pair) g.F_is_pair sc_is_pair rfl (by decide) fun cdv A outer s H E P hr =>
      (sS_cons (sS_if (sT_w (sW_or (sT_not (sT_val (sE_isi (t := "tuple") rfl (by rfl) g.z_isinstance (pe_bltn (by rfl) g.z_tuple (by decide +kernel) rfl) (sE_var 0)))) (sW_or (sT_cmp (op_neD hr.units) os_ne (sE_callB call_len fs_len (by rfl) g.z_len bt_len (sA_cons (sE_var 0) sA_nil)) sE_int (nomark _)) (sW_or1 (sT_not (sT_val (sE_callB (cr_all rfl) fs_all (by rfl) g.z_all bt_all (sA_cons (SE.of (sF_lc (own := [("_law_own", 1)]) rfl scope.nd (sI_seq rfl (sE_var 0)) (blkOk_by (by kernel_rfl)) (fun _ _ _ _ _ _ => (sC_name scope.nd (i := 1) (by rfl) (.inl rfl) (by decide))) (fun _ _ _ _ _ _ => sTs_nil) (fun _ _ _ _ _ _ => (sE_call rfl ((ok_is_count g).mono (by decide)) hr (by rfl) g.m_is_count g.F_is_count.kp (bd_is_count_1 g) passNo (sAr_v (sE_var 1) sAr_nil))))) sA_nil)))))))) (sS_one (sS_ret sE_bl)) sS_nil)
      (sS_one (sS_ret (sE_cmp op_le os_le (sE_ixP 0 rfl sE_int) (sE_ixP 0 rfl sE_int) (nomark _)))))
theorem sc_is_row : FnScope ["_law_mat", "_law_own"] ["_law_mat"] (defScope s_is_row) := ⟨rfl, rfl, rfl, by decide +kernel, rfl, by decide +kernel, by decide +kernel⟩
theorem ok_is_row (g : Top L mg) : FnOk L.pr L.w L.K mg base (L2.CX L.pr L.w) 2 g.a_is_row g.d_is_row ["_law_mat"] (spF L [false] f_is_row) := by
    have scope := sc_is_row
    exact fn_ok (N := ["_law_mat", "_law_own"]) (b := b_is_row) g.F_is_row sc_is_row rfl (by decide) fun cdv A outer s H E P hr =>
      (sS_cons (sS_if (sT_w (sW_or (sT_not (sT_val (sE_isi (t := "tuple") rfl (by rfl) g.z_isinstance (pe_bltn (by rfl) g.z_tuple (by decide +kernel) rfl) (sE_var 0)))) (sW_or1 (sT_not (sT_val (sE_callB (cr_all rfl) fs_all (by rfl) g.z_all bt_all (sA_cons (SE.of (sF_lc (own := [("_law_own", 1)]) rfl scope.nd (sI_seq rfl (sE_var 0)) (blkOk_by (by kernel_rfl)) (fun _ _ _ _ _ _ => (sC_name scope.nd (i := 1) (by rfl) (.inl rfl) (by decide))) (fun _ _ _ _ _ _ => sTs_nil) (fun _ _ _ _ _ _ => (sE_call rfl ((ok_is_count g).mono (by decide)) hr (by rfl) g.m_is_count g.F_is_count.kp (bd_is_count_1 g) passNo (sAr_v (sE_var 1) sAr_nil))))) sA_nil))))))) (sS_one (sS_ret sE_bl)) sS_nil)
      (sS_one (sS_ret (sE_cmp (op_eqD hr.units) os_eq (SE.of (sF_callTy call_list_of ff_list (by rfl) g.z_list bt_list (sA_cons (sE_var 0) sA_nil))) (SE.of (sF_callB (cr_sorted5 ⟨rfl, rfl, rfl⟩ rfl (room65 hr)) (ff_sorted5 (L := L)) (by rfl) g.z_sorted bt_sorted (sA_cons (sE_callTy (cr_set7 rfl (of65 (room65 hr))) (fs_set7 (L := L)) (by rfl) g.z_set bt_set (sA_cons (sE_var 0) sA_nil)) sA_nil))) (nomark _)))))
theorem sc_is_deed : FnScope ["_law_mat", "_law_low_so", "_law_high_so"] ["_law_mat"] (defScope s_is_deed) := ⟨rfl, rfl, rfl, by decide +kernel, rfl, by decide +kernel, by decide +kernel⟩
theorem ok_is_deed (g : Top L mg) : FnOk L.pr L.w L.K mg base (L2.CX L.pr L.w) 3 g.a_is_deed g.d_is_deed ["_law_mat"] (spF L [false] f_is_deed) := by
    have scope := sc_is_deed
    exact fn_ok (N := ["_law_mat", "_law_low_so", "_law_high_so"]) (b := b_is_deed) g.F_is_deed sc_is_deed rfl (by decide) fun cdv A outer s H E P hr =>
      (sS_cons (sS_if (sT_w (sW_or (sT_not (sT_val (sE_isi (t := "tuple") rfl (by rfl) g.z_isinstance (pe_bltn (by rfl) g.z_tuple (by decide +kernel) rfl) (sE_var 0)))) (sW_or (sT_cmp op_lt os_lt (sE_callB call_len fs_len (by rfl) g.z_len bt_len (sA_cons (sE_var 0) sA_nil)) sE_int (nomark _)) (sW_or (sT_not (sT_val (sE_isi (t := "str") rfl (by rfl) g.z_isinstance (pe_bltn (by rfl) g.z_str (by decide +kernel) rfl) (sE_ixP 0 rfl sE_int)))) (sW_or1 (sT_not (sT_val (sE_call rfl ((ok_is_pair g).mono (by decide)) hr (by rfl) g.m_is_pair g.F_is_pair.kp (bd_is_pair_1 g) passB (sAr_v (sE_ixP 0 rfl sE_int) sAr_nil))))))))) (sS_one (sS_ret sE_bl)) sS_nil)
      (sS_cons (sS_if (sT_cmp (op_eqD hr.units) os_eq (sE_ixP 0 rfl sE_int) sE_str (nomark _)) (sS_one (sS_ret (sE_cmp (op_eqD hr.units) os_eq (sE_callB call_len fs_len (by rfl) g.z_len bt_len (sA_cons (sE_var 0) sA_nil)) sE_int (nomark _)))) sS_nil)
      (sS_cons (sS_if (sT_w (sW_or (sT_cmp (op_neD hr.units) os_ne (sE_callB call_len fs_len (by rfl) g.z_len bt_len (sA_cons (sE_var 0) sA_nil)) sE_int (nomark _)) (sW_or1 (sT_cmp (op_notIn2 (room65 hr)) os_notIn2 (sE_ixP 0 rfl sE_int) (sE_tup (sA_cons sE_str (sA_cons sE_str (sA_cons sE_str sA_nil)))) (by with_unfolding_all rfl))))) (sS_one (sS_ret sE_bl)) sS_nil)
      (sS_cons (sS_asg (sE_ixP 0 rfl sE_int) (sG_tup rfl rfl (sGs_cons (sG_name (i := 1) scope.nd (by rfl) (.inl rfl)) (sGs_cons (sG_name (i := 2) scope.nd (by rfl) (.inl rfl)) sGs_nil))))
      (sS_cons (sS_if (sT_cmp (op_eqD hr.units) os_eq (sE_ixP 0 rfl sE_int) sE_str (nomark _)) (sS_one (sS_ret (sE_andC rfl (sE_call rfl ((ok_is_count g).mono (by decide)) hr (by rfl) g.m_is_count g.F_is_count.kp (bd_is_count_1 g) passB (sAr_v (sE_ixP 0 rfl sE_int) sAr_nil)) (sE_one (sE_chain op_le op_lt os_le os_lt (sE_var 1) (sE_ixP 0 rfl sE_int) (sE_var 2)))))) sS_nil)
      (sS_cons (sS_if (sT_not (sT_val (sE_call rfl ((ok_is_pair g).mono (by decide)) hr (by rfl) g.m_is_pair g.F_is_pair.kp (bd_is_pair_1 g) passB (sAr_v (sE_ixP 0 rfl sE_int) sAr_nil)))) (sS_one (sS_ret sE_bl)) sS_nil)
      (sS_cons (sS_if (sT_cmp (op_eqD hr.units) os_eq (sE_ixP 0 rfl sE_int) sE_str (nomark _)) (sS_one (sS_ret (sE_andC rfl (sE_cmp op_lt os_lt (sE_var 1) (sE_ix rfl (sE_ixP 0 rfl sE_int) sE_int) (nomark _)) (sE_one (sE_cmp op_lt os_lt (sE_ix rfl (sE_ixP 0 rfl sE_int) sE_int) (sE_var 2) (nomark _)))))) sS_nil)
      (sS_one (sS_ret (sE_andC rfl (sE_cmp (op_neD hr.units) os_ne (sE_ixP 0 rfl sE_int) (sE_ixP 0 rfl sE_int) (nomark _)) (sE_andC rfl (sE_cmp op_le os_le (sE_ix rfl (sE_ixP 0 rfl sE_int) sE_int) (sE_var 1) (nomark _)) (sE_one (sE_cmp op_le os_le (sE_var 2) (sE_ix rfl (sE_ixP 0 rfl sE_int) sE_int) (nomark _))))))))))))))
theorem sc_told : FnScope ["_law_mat"] ["_law_mat"] (defScope s_told) := ⟨rfl, rfl, rfl, by decide +kernel, rfl, by decide +kernel, by decide +kernel⟩
theorem ok_told (g : Top L mg) : FnOk L.pr L.w L.K mg base (L2.CX L.pr L.w) 5 g.a_told g.d_told ["_law_mat"] (spF L [false] f_told) := by
    have scope := sc_told
    exact fn_ok (N := ["_law_mat"]) (b := b_told) g.F_told sc_told rfl (by decide) fun cdv A outer s H E P hr =>
      (sS_one (sS_ret (sE_lst (sA_cons (sE_call rfl ((ok_is_tick g).mono (by decide)) hr (by rfl) g.m_is_tick g.F_is_tick.kp (bd_is_tick_1 g) passB (sAr_v (sE_var 0) sAr_nil)) (sA_cons (sE_call rfl ((ok_is_stay g).mono (by decide)) hr (by rfl) g.m_is_stay g.F_is_stay.kp (bd_is_stay_1 g) passB (sAr_v (sE_var 0) sAr_nil)) (sA_cons (sE_call rfl ((ok_is_timetable g).mono (by decide)) hr (by rfl) g.m_is_timetable g.F_is_timetable.kp (bd_is_timetable_1 g) passB (sAr_v (sE_var 0) sAr_nil)) (sA_cons (sE_call rfl ((ok_is_move g).mono (by decide)) hr (by rfl) g.m_is_move g.F_is_move.kp (bd_is_move_1 g) passB (sAr_v (sE_var 0) sAr_nil)) sA_nil)))))))
theorem sc_due : FnScope ["_law_mat"] ["_law_mat"] (defScope s_due) := ⟨rfl, rfl, rfl, by decide +kernel, rfl, by decide +kernel, by decide +kernel⟩
theorem ok_due (g : Top L mg) : FnOk L.pr L.w L.K mg base (L2.CX L.pr L.w) 4 g.a_due g.d_due ["_law_mat"] (spF L [false] f_due) := by
    have scope := sc_due
    exact fn_ok (N := ["_law_mat"]) (b := b_due) g.F_due sc_due rfl (by decide) fun cdv A outer s H E P hr =>
      (sS_one (sS_ret (sE_lst (sA_cons (sE_call rfl ((ok_is_count g).mono (by decide)) hr (by rfl) g.m_is_count g.F_is_count.kp (bd_is_count_1 g) passB (sAr_v (sE_var 0) sAr_nil)) (sA_cons (sE_call rfl ((ok_is_pair g).mono (by decide)) hr (by rfl) g.m_is_pair g.F_is_pair.kp (bd_is_pair_1 g) passB (sAr_v (sE_var 0) sAr_nil)) (sA_cons (sE_call rfl ((ok_is_row g).mono (by decide)) hr (by rfl) g.m_is_row g.F_is_row.kp (bd_is_row_1 g) passB (sAr_v (sE_var 0) sAr_nil)) (sA_cons (sE_call rfl ((ok_is_deed g).mono (by decide)) hr (by rfl) g.m_is_deed g.F_is_deed.kp (bd_is_deed_1 g) passB (sAr_v (sE_var 0) sAr_nil)) sA_nil)))))))
theorem sc_bent : FnScope ["_law_box_here", "_law_mat", "_law_spot", "_law_some"] ["_law_box_here", "_law_mat"] (defScope s_bent) := ⟨rfl, rfl, rfl, by decide +kernel, rfl, by decide +kernel, by decide +kernel⟩
theorem okn_bent (g : Top L mg) : ∀ n : Nat, FnOk L.pr L.w L.K mg base (L2.CX L.pr L.w) (n + 2) g.a_bent g.d_bent ["_law_box_here", "_law_mat"] (spF L [true, false] (ff_bent n))
  | 0 => fn_fail
  | n + 1 => by
    have self := okn_bent g n
    have scope := sc_bent
    rw [show n + 1 + 2 = (n + 2) + 1 by omega]
    exact fn_ok (N := ["_law_box_here", "_law_mat", "_law_spot", "_law_some"]) (b := b_bent (ff_bent n)) g.F_bent sc_bent rfl (by decide) fun cdv A outer s H E P hr =>
      (sS_cons (sS_if (sT_w (sW_and (sT_val (sE_isi (t := "tuple") rfl (by rfl) g.z_isinstance (pe_bltn (by rfl) g.z_tuple (by decide +kernel) rfl) (sE_var 1))) (sW_and (sT_cmp op_gt os_gt (sE_callB call_len fs_len (by rfl) g.z_len bt_len (sA_cons (sE_var 1) sA_nil)) sE_int (nomark _)) (sW_and1 (sT_cmp op_gt os_gt (sE_call rfl ((ok_take g).mono (Nat.le_trans (by decide) (Nat.le_add_left _ n))) hr (by rfl) g.m_take g.F_take.kp (bd_take_2 g) passB (sAr_io 0 (sAr_v sE_int sAr_nil))) sE_int (nomark _)))))) (sS_cons (sS_set (i := 2) scope.nd (by rfl) (.inl rfl) (sE_call rfl ((ok_take g).mono (Nat.le_trans (by decide) (Nat.le_add_left _ n))) hr (by rfl) g.m_take g.F_take.kp (bd_take_2 g) passB (sAr_io 0 (sAr_v (sE_callB call_len fs_len (by rfl) g.z_len bt_len (sA_cons (sE_var 1) sA_nil)) sAr_nil))))
      (sS_one (sS_ret (sE_op or_add os_add (sE_op or_add os_add (sE_slP 1 rfl sO_none (sO_some (sE_var 2))) (sE_tup (sA_cons (sE_call rfl self hr (by rfl) g.m_bent g.F_bent.kp (bd_bent_2 g) passB (sAr_io 0 (sAr_v (sE_ixP 1 rfl (sE_var 2)) sAr_nil))) sA_nil))) (sE_slP 1 rfl (sO_some (sE_op or_add os_add (sE_var 2) sE_int)) sO_none))))) sS_nil)
      (sS_cons (sS_set (i := 3) scope.nd (by rfl) (.inl rfl) (sE_lst (sA_cons sE_non (sA_cons sE_bl (sA_cons sE_bl (sA_cons sE_int (sA_cons sE_int (sA_cons sE_int (sA_cons (sE_un un_neg us_neg sE_int) (sA_cons sE_str (sA_cons sE_str (sA_cons sE_str (sA_cons sE_str (sA_cons (sE_tup sA_nil) (sA_cons (sE_tup (sA_cons sE_int sA_nil)) (sA_cons (sE_tup (sA_cons sE_int (sA_cons sE_int sA_nil))) (sA_cons (sE_lst sA_nil) (sA_cons (sE_op op_pow os_pow sE_int sE_int) sA_nil))))))))))))))))))
      (sS_cons (sS_if (sT_val (sE_isi (t := "tuple") rfl (by rfl) g.z_isinstance (pe_bltn (by rfl) g.z_tuple (by decide +kernel) rfl) (sE_var 1))) (sS_one (sS_set (i := 3) scope.nd (by rfl) (.inl rfl) (sE_op or_add os_add (sE_var 3) (sE_lst (sA_cons (SE.of (sF_callTy call_list_of ff_list (by rfl) g.z_list bt_list (sA_cons (sE_var 1) sA_nil))) (sA_cons (sE_rev2 ⟨rfl, rfl, rfl⟩ (sE_var 1)) (sA_cons (sE_op or_add os_add (sE_var 1) (sE_slP 1 rfl (sO_some (sE_un un_neg us_neg sE_int)) sO_none)) (sA_cons (sE_slP 1 rfl sO_none (sO_some (sE_un un_neg us_neg sE_int))) (sA_cons (sE_tup (sA_cons (sE_var 1) sA_nil)) sA_nil))))))))) sS_nil)
      (sS_cons (sS_if (sT_val (sE_isi (t := "str") rfl (by rfl) g.z_isinstance (pe_bltn (by rfl) g.z_str (by decide +kernel) rfl) (sE_var 1))) (sS_one (sS_set (i := 3) scope.nd (by rfl) (.inl rfl) (sE_op or_add os_add (sE_var 3) (sE_lst (sA_cons (sE_op or_add os_add (sE_var 1) sE_str) (sA_cons (sE_upper (sE_var 1)) (sA_cons (sE_tup (sA_cons (sE_var 1) sA_nil)) (sA_cons sE_str sA_nil)))))))) sS_nil)
      (sS_cons (sS_if (sT_val (sE_isi (t := "int") rfl (by rfl) g.z_isinstance (pe_bltn (by rfl) g.z_int (by decide +kernel) rfl) (sE_var 1))) (sS_one (sS_set (i := 3) scope.nd (by rfl) (.inl rfl) (sE_op or_add os_add (sE_var 3) (sE_lst (sA_cons (sE_callTy call_str_int fs_str (by rfl) g.z_str bt_str (sA_cons (sE_var 1) sA_nil)) (sA_cons (sE_op or_add os_add (sE_var 1) sE_int) (sA_cons (sE_op op_sub os_sub (sE_var 1) sE_int) (sA_cons (sE_tup (sA_cons (sE_var 1) sA_nil)) sA_nil)))))))) sS_nil)
      (sS_one (sS_ret (sE_call rfl ((ok_of g).mono (Nat.le_trans (by decide) (Nat.le_add_left _ n))) hr (by rfl) g.m_of g.F_of.kp (bd_of_2 g) passB (sAr_io 0 (sAr_v (sE_var 3) sAr_nil))))))))))
theorem ok_bent (g : Top L mg) : FnOk L.pr L.w L.K mg base (L2.CX L.pr L.w) 8 g.a_bent g.d_bent ["_law_box_here", "_law_mat"] (spF L [true, false] f_bent) := okn_bent g 6
theorem sc_odd : FnScope ["_law_deep", "_law_turn", "_law_odd_here"] [] (defScope s_odd) := ⟨rfl, rfl, rfl, by decide +kernel, rfl, by decide +kernel, by decide +kernel⟩
theorem ok_odd (g : Top L mg) : FnOk L.pr L.w L.K mg base (L2.CX L.pr L.w) 1 g.a_odd g.d_odd [] (spF L [] f_odd) := by
    have scope := sc_odd
    exact fn_ok (N := ["_law_deep", "_law_turn", "_law_odd_here"]) (b := b_odd) g.F_odd sc_odd rfl (by decide) fun cdv A outer s H E P hr =>
      (sS_cons (sS_set (i := 0) scope.nd (by rfl) (.inl rfl) (sE_tup (sA_cons sE_int (sA_cons sE_int sA_nil))))
      (sS_cons (sS_for ownB rfl (sI_range1 (by rfl) g.z_range (sA_cons sE_int sA_nil)) (sG_name (i := 1) scope.nd (by rfl) (.inl rfl)) (sS_one (sS_set (i := 0) scope.nd (by rfl) (.inl rfl) (sE_tup (sA_cons (sE_var 0) sA_nil)))))
      (sS_cons (sS_set (i := 2) scope.nd (by rfl) (.inl rfl) (sE_lst (sA_cons sE_bl (sA_cons sE_bl (sA_cons (sE_un un_neg us_neg sE_int) (sA_cons sE_non (sA_cons sE_str (sA_cons sE_str (sA_cons (sE_lst sA_nil) (sA_cons (sE_lst (sA_cons sE_int sA_nil)) (sA_cons (sE_tup (sA_cons sE_int (sA_cons sE_int sA_nil))) (sA_cons (sE_tup (sA_cons sE_bl (sA_cons sE_int sA_nil))) (sA_cons (sE_tup (sA_cons sE_int (sA_cons sE_bl sA_nil))) (sA_cons (sE_tup (sA_cons (sE_un un_neg us_neg sE_int) (sA_cons sE_int sA_nil))) (sA_cons (sE_tup (sA_cons sE_int (sA_cons sE_non sA_nil))) sA_nil)))))))))))))))
      (sS_cons (sS_set (i := 2) scope.nd (by rfl) (.inl rfl) (sE_op or_add os_add (sE_var 2) (sE_lst (sA_cons (sE_lst (sA_cons sE_int (sA_cons sE_int sA_nil))) sA_nil))))
      (sS_cons (sS_set (i := 2) scope.nd (by rfl) (.inl rfl) (sE_op or_add os_add (sE_var 2) (sE_lst (sA_cons (sE_tup (sA_cons sE_str (sA_cons sE_int sA_nil))) (sA_cons (sE_tup (sA_cons sE_int (sA_cons sE_int sA_nil))) (sA_cons (sE_tup (sA_cons sE_int (sA_cons sE_int (sA_cons sE_int sA_nil)))) (sA_cons (sE_tup (sA_cons sE_int (sA_cons sE_bl sA_nil))) (sA_cons (sE_tup (sA_cons (sE_tup (sA_cons sE_int sA_nil)) (sA_cons sE_int sA_nil))) (sA_cons (sE_tup (sA_cons (sE_tup (sA_cons sE_int (sA_cons sE_int sA_nil))) sA_nil)) (sA_cons (sE_tup (sA_cons (sE_tup sA_nil) sA_nil)) (sA_cons (sE_tup (sA_cons sE_int (sA_cons sE_non sA_nil))) sA_nil)))))))))))
      (sS_cons (sS_set (i := 2) scope.nd (by rfl) (.inl rfl) (sE_op or_add os_add (sE_var 2) (sE_lst (sA_cons (sE_tup (sA_cons sE_int (sA_cons (sE_un un_neg us_neg sE_int) sA_nil))) (sA_cons (sE_tup (sA_cons sE_str sA_nil)) sA_nil)))))
      (sS_cons (sS_set (i := 2) scope.nd (by rfl) (.inl rfl) (sE_op or_add os_add (sE_var 2) (sE_lst (sA_cons (sE_tup (sA_cons sE_str (sA_cons (sE_tup (sA_cons sE_int (sA_cons sE_int sA_nil))) sA_nil))) (sA_cons (sE_tup (sA_cons sE_str (sA_cons (sE_lst (sA_cons sE_int (sA_cons sE_int sA_nil))) sA_nil))) (sA_cons (sE_lst (sA_cons sE_str (sA_cons (sE_tup (sA_cons sE_int (sA_cons sE_int sA_nil))) sA_nil))) (sA_cons (sE_tup (sA_cons sE_str (sA_cons (sE_tup (sA_cons sE_int (sA_cons sE_int sA_nil))) (sA_cons (sE_tup (sA_cons sE_int (sA_cons sE_int sA_nil))) sA_nil)))) sA_nil)))))))
      (sS_cons (sS_set (i := 2) scope.nd (by rfl) (.inl rfl) (sE_op or_add os_add (sE_var 2) (sE_lst (sA_cons (sE_tup (sA_cons sE_str (sA_cons (sE_tup (sA_cons sE_int (sA_cons sE_int sA_nil))) (sA_cons sE_non sA_nil)))) sA_nil))))
      (sS_cons (sS_set (i := 2) scope.nd (by rfl) (.inl rfl) (sE_op or_add os_add (sE_var 2) (sE_lst (sA_cons (sE_tup (sA_cons sE_str (sA_cons (sE_tup (sA_cons sE_int (sA_cons sE_int sA_nil))) (sA_cons (sE_tup (sA_cons sE_int (sA_cons sE_int sA_nil))) sA_nil)))) (sA_cons (sE_tup (sA_cons sE_str (sA_cons (sE_tup (sA_cons sE_int (sA_cons sE_int sA_nil))) (sA_cons (sE_tup (sA_cons sE_int (sA_cons sE_int sA_nil))) sA_nil)))) (sA_cons (sE_tup (sA_cons sE_str (sA_cons (sE_tup (sA_cons sE_int (sA_cons sE_int sA_nil))) sA_nil))) sA_nil))))))
      (sS_cons (sS_set (i := 2) scope.nd (by rfl) (.inl rfl) (sE_op or_add os_add (sE_var 2) (sE_lst (sA_cons (sE_tup (sA_cons sE_str (sA_cons (sE_tup (sA_cons sE_int (sA_cons sE_int sA_nil))) (sA_cons (sE_lst (sA_cons sE_int (sA_cons sE_int sA_nil))) sA_nil)))) sA_nil))))
      (sS_cons (sS_set (i := 2) scope.nd (by rfl) (.inl rfl) (sE_op or_add os_add (sE_var 2) (sE_lst (sA_cons (sE_tup (sA_cons sE_str (sA_cons (sE_tup (sA_cons sE_int (sA_cons sE_int sA_nil))) (sA_cons (sE_tup (sA_cons sE_int (sA_cons sE_int sA_nil))) sA_nil)))) (sA_cons (sE_tup (sA_cons sE_str (sA_cons (sE_tup (sA_cons sE_int (sA_cons sE_int sA_nil))) (sA_cons sE_int sA_nil)))) (sA_cons (sE_tup (sA_cons sE_str (sA_cons (sE_tup (sA_cons sE_int (sA_cons sE_int sA_nil))) (sA_cons (sE_tup (sA_cons sE_int (sA_cons sE_int sA_nil))) (sA_cons sE_int sA_nil))))) sA_nil))))))
      (sS_cons (sS_set (i := 2) scope.nd (by rfl) (.inl rfl) (sE_op or_add os_add (sE_var 2) (sE_lst (sA_cons (sE_tup (sA_cons sE_str (sA_cons sE_int sA_nil))) sA_nil))))
      (sS_cons (sS_set (i := 2) scope.nd (by rfl) (.inl rfl) (sE_op or_add os_add (sE_var 2) (sE_lst (sA_cons (sE_tup (sA_cons sE_str (sA_cons (sE_tup (sA_cons sE_int (sA_cons sE_int sA_nil))) (sA_cons sE_int sA_nil)))) (sA_cons (sE_tup (sA_cons sE_str (sA_cons (sE_tup (sA_cons sE_int (sA_cons sE_int sA_nil))) (sA_cons sE_int sA_nil)))) (sA_cons (sE_tup (sA_cons sE_str (sA_cons (sE_tup (sA_cons sE_int (sA_cons sE_int sA_nil))) (sA_cons sE_int sA_nil)))) sA_nil))))))
      (sS_cons (sS_set (i := 2) scope.nd (by rfl) (.inl rfl) (sE_op or_add os_add (sE_var 2) (sE_lst (sA_cons (sE_tup (sA_cons sE_str (sA_cons (sE_tup (sA_cons sE_int (sA_cons sE_int sA_nil))) (sA_cons sE_bl sA_nil)))) sA_nil))))
      (sS_cons (sS_set (i := 2) scope.nd (by rfl) (.inl rfl) (sE_op or_add os_add (sE_var 2) (sE_lst (sA_cons (sE_tup (sA_cons sE_str (sA_cons (sE_tup (sA_cons sE_int (sA_cons sE_int sA_nil))) (sA_cons (sE_tup (sA_cons sE_int (sA_cons sE_int sA_nil))) sA_nil)))) (sA_cons (sE_tup (sA_cons sE_str (sA_cons (sE_tup (sA_cons sE_int (sA_cons sE_int sA_nil))) sA_nil))) (sA_cons (sE_tup (sA_cons sE_str (sA_cons (sE_tup (sA_cons sE_int (sA_cons sE_int sA_nil))) (sA_cons sE_non sA_nil)))) sA_nil))))))
      (sS_cons (sS_set (i := 2) scope.nd (by rfl) (.inl rfl) (sE_op or_add os_add (sE_var 2) (sE_lst (sA_cons (sE_tup (sA_cons sE_str (sA_cons (sE_tup (sA_cons sE_int (sA_cons sE_int sA_nil))) (sA_cons (sE_tup (sA_cons sE_int (sA_cons sE_int sA_nil))) sA_nil)))) sA_nil))))
      (sS_cons (sS_set (i := 2) scope.nd (by rfl) (.inl rfl) (sE_op or_add os_add (sE_var 2) (sE_lst (sA_cons (sE_tup (sA_cons sE_str (sA_cons (sE_tup (sA_cons sE_int (sA_cons sE_int sA_nil))) (sA_cons (sE_tup (sA_cons sE_int (sA_cons sE_int sA_nil))) sA_nil)))) (sA_cons (sE_tup (sA_cons sE_str (sA_cons (sE_tup (sA_cons sE_int (sA_cons sE_int sA_nil))) (sA_cons (sE_tup (sA_cons sE_int (sA_cons sE_int sA_nil))) sA_nil)))) (sA_cons (sE_tup (sA_cons sE_str (sA_cons (sE_tup (sA_cons sE_int (sA_cons sE_int sA_nil))) (sA_cons sE_int sA_nil)))) sA_nil))))))
      (sS_cons (sS_set (i := 2) scope.nd (by rfl) (.inl rfl) (sE_op or_add os_add (sE_var 2) (sE_lst (sA_cons (sE_tup (sA_cons sE_str (sA_cons (sE_tup (sA_cons sE_int (sA_cons sE_int sA_nil))) sA_nil))) sA_nil))))
      (sS_cons (sS_set (i := 2) scope.nd (by rfl) (.inl rfl) (sE_op or_add os_add (sE_var 2) (sE_lst (sA_cons (sE_tup (sA_cons sE_str (sA_cons (sE_tup (sA_cons sE_int (sA_cons sE_int sA_nil))) (sA_cons (sE_tup (sA_cons sE_int (sA_cons sE_int sA_nil))) sA_nil)))) (sA_cons (sE_tup (sA_cons sE_str (sA_cons (sE_tup (sA_cons sE_int (sA_cons sE_int sA_nil))) (sA_cons (sE_tup (sA_cons sE_int (sA_cons sE_int sA_nil))) sA_nil)))) (sA_cons (sE_tup (sA_cons sE_str (sA_cons (sE_tup (sA_cons sE_int (sA_cons sE_int sA_nil))) sA_nil))) sA_nil))))))
      (sS_cons (sS_set (i := 2) scope.nd (by rfl) (.inl rfl) (sE_op or_add os_add (sE_var 2) (sE_lst (sA_cons (sE_tup (sA_cons sE_str (sA_cons (sE_tup (sA_cons sE_int (sA_cons sE_int sA_nil))) (sA_cons (sE_tup (sA_cons sE_int (sA_cons sE_int sA_nil))) sA_nil)))) sA_nil))))
      (sS_cons (sS_set (i := 2) scope.nd (by rfl) (.inl rfl) (sE_op or_add os_add (sE_var 2) (sE_lst (sA_cons (sE_tup (sA_cons sE_non (sA_cons (sE_tup (sA_cons sE_int (sA_cons sE_int sA_nil))) sA_nil))) (sA_cons (sE_tup (sA_cons (sE_tup (sA_cons sE_str sA_nil)) (sA_cons (sE_tup (sA_cons sE_int (sA_cons sE_int sA_nil))) sA_nil))) (sA_cons sE_str (sA_cons (sE_tup (sA_cons sE_str (sA_cons (sE_tup (sA_cons sE_int (sA_cons sE_int sA_nil))) (sA_cons (sE_lst (sA_cons sE_int (sA_cons sE_int sA_nil))) sA_nil)))) sA_nil)))))))
      (sS_cons (sS_set (i := 2) scope.nd (by rfl) (.inl rfl) (sE_op or_add os_add (sE_var 2) (sE_lst (sA_cons (sE_tup (sA_cons sE_str (sA_cons (sE_tup (sA_cons sE_int (sA_cons sE_int sA_nil))) (sA_cons sE_int sA_nil)))) (sA_cons (sE_tup (sA_cons sE_str (sA_cons (sE_tup (sA_cons sE_int (sA_cons sE_int sA_nil))) (sA_cons (sE_tup (sA_cons sE_int (sA_cons sE_int sA_nil))) sA_nil)))) (sA_cons (sE_tup (sA_cons sE_str (sA_cons (sE_tup (sA_cons sE_int (sA_cons sE_int sA_nil))) (sA_cons (sE_tup (sA_cons sE_int (sA_cons sE_int sA_nil))) sA_nil)))) sA_nil))))))
      (sS_cons (sS_set (i := 2) scope.nd (by rfl) (.inl rfl) (sE_op or_add os_add (sE_var 2) (sE_lst (sA_cons (sE_tup (sA_cons sE_str (sA_cons (sE_tup (sA_cons sE_int (sA_cons sE_int sA_nil))) (sA_cons (sE_tup (sA_cons sE_int (sA_cons sE_int sA_nil))) sA_nil)))) (sA_cons (sE_tup (sA_cons sE_str (sA_cons (sE_tup (sA_cons sE_int (sA_cons sE_int sA_nil))) (sA_cons sE_int sA_nil)))) (sA_cons (sE_tup (sA_cons sE_str (sA_cons (sE_tup (sA_cons sE_int (sA_cons sE_int sA_nil))) (sA_cons (sE_tup (sA_cons sE_int (sA_cons sE_int sA_nil))) sA_nil)))) sA_nil))))))
      (sS_cons (sS_set (i := 2) scope.nd (by rfl) (.inl rfl) (sE_op or_add os_add (sE_var 2) (sE_lst (sA_cons (sE_var 0) (sA_cons (sE_lst (sA_cons (sE_var 0) sA_nil)) (sA_cons (sE_tup (sA_cons sE_str (sA_cons (sE_var 0) sA_nil))) (sA_cons (sE_tup (sA_cons sE_str (sA_cons (sE_tup (sA_cons sE_int (sA_cons sE_int sA_nil))) (sA_cons (sE_var 0) sA_nil)))) (sA_cons (sE_tup (sA_cons sE_str (sA_cons (sE_var 0) (sA_cons sE_int sA_nil)))) sA_nil))))))))
      (sS_one (sS_ret (sE_var 2)))))))))))))))))))))))))))
theorem sc_by_hand_right : FnScope ["_law_rows_so", "_law_mat", "_law_code_so", "_law_odd_here", "_law_got"] [] (defScope s_by_hand_right) := ⟨rfl, rfl, rfl, by decide +kernel, rfl, by decide +kernel, by decide +kernel⟩
theorem ok_by_hand_right (g : Top L mg) : FnOk L.pr L.w L.K mg base (L2.CX L.pr L.w) 7 g.a_by_hand_right g.d_by_hand_right [] (spF L [] f_by_hand_right) := by
    have scope := sc_by_hand_right
    exact fn_ok (N := ["_law_rows_so", "_law_mat", "_law_code_so", "_law_odd_here", "_law_got"]) (b := b_by_hand_right) g.F_by_hand_right sc_by_hand_right rfl (by decide) fun cdv A outer s H E P hr =>
      (sS_cons (sS_set (i := 0) scope.nd (by rfl) (.inl rfl) (sE_lst (sA_cons (sE_tup (sA_cons sE_int (sA_cons sE_int sA_nil))) (sA_cons (sE_tup (sA_cons sE_int (sA_cons sE_int sA_nil))) (sA_cons (sE_tup (sA_cons (sE_op op_pow os_pow sE_int sE_int) (sA_cons sE_int sA_nil))) (sA_cons (sE_tup (sA_cons (sE_tup (sA_cons sE_int (sA_cons sE_int sA_nil))) (sA_cons sE_int sA_nil))) (sA_cons (sE_tup (sA_cons (sE_tup (sA_cons sE_int (sA_cons sE_int sA_nil))) (sA_cons sE_int sA_nil))) (sA_cons (sE_tup (sA_cons (sE_tup (sA_cons sE_int (sA_cons (sE_op op_pow os_pow sE_int sE_int) sA_nil))) (sA_cons sE_int sA_nil))) (sA_cons (sE_tup (sA_cons (sE_tup sA_nil) (sA_cons sE_int sA_nil))) sA_nil)))))))))
      (sS_cons (sS_set (i := 0) scope.nd (by rfl) (.inl rfl) (sE_op or_add os_add (sE_var 0) (sE_lst (sA_cons (sE_tup (sA_cons (sE_tup (sA_cons sE_int sA_nil)) (sA_cons sE_int sA_nil))) sA_nil))))
      (sS_cons (sS_set (i := 0) scope.nd (by rfl) (.inl rfl) (sE_op or_add os_add (sE_var 0) (sE_lst (sA_cons (sE_tup (sA_cons (sE_tup (sA_cons sE_int (sA_cons sE_int (sA_cons sE_int sA_nil)))) (sA_cons sE_int sA_nil))) (sA_cons (sE_tup (sA_cons (sE_tupRg1 rfl (by rfl) g.z_tuple (by rfl) g.z_range sE_int) (sA_cons sE_int sA_nil))) (sA_cons (sE_tup (sA_cons (sE_tup (sA_cons (sE_op op_pow os_pow sE_int sE_int) (sA_cons (sE_op op_pow os_pow sE_int sE_int) sA_nil))) (sA_cons sE_int sA_nil))) sA_nil))))))
      (sS_cons (sS_set (i := 0) scope.nd (by rfl) (.inl rfl) (sE_op or_add os_add (sE_var 0) (sE_lst (sA_cons (sE_tup (sA_cons (sE_tup (sA_cons sE_str (sA_cons (sE_tup (sA_cons sE_int (sA_cons sE_int sA_nil))) sA_nil))) (sA_cons sE_int sA_nil))) sA_nil))))
      (sS_cons (sS_set (i := 0) scope.nd (by rfl) (.inl rfl) (sE_op or_add os_add (sE_var 0) (sE_lst (sA_cons (sE_tup (sA_cons (sE_tup (sA_cons sE_str (sA_cons (sE_tup (sA_cons sE_int (sA_cons sE_int sA_nil))) sA_nil))) (sA_cons sE_int sA_nil))) (sA_cons (sE_tup (sA_cons (sE_tup (sA_cons sE_str (sA_cons (sE_tup (sA_cons sE_int (sA_cons sE_int sA_nil))) (sA_cons (sE_tup (sA_cons sE_int (sA_cons sE_int sA_nil))) sA_nil)))) (sA_cons sE_int sA_nil))) sA_nil)))))
      (sS_cons (sS_set (i := 0) scope.nd (by rfl) (.inl rfl) (sE_op or_add os_add (sE_var 0) (sE_lst (sA_cons (sE_tup (sA_cons (sE_tup (sA_cons sE_str (sA_cons (sE_tup (sA_cons sE_int (sA_cons sE_int sA_nil))) (sA_cons (sE_tup (sA_cons sE_int (sA_cons sE_int sA_nil))) sA_nil)))) (sA_cons sE_int sA_nil))) sA_nil))))
      (sS_cons (sS_set (i := 0) scope.nd (by rfl) (.inl rfl) (sE_op or_add os_add (sE_var 0) (sE_lst (sA_cons (sE_tup (sA_cons (sE_tup (sA_cons sE_str (sA_cons (sE_tup (sA_cons sE_int (sA_cons sE_int sA_nil))) (sA_cons (sE_tup (sA_cons sE_int (sA_cons sE_int sA_nil))) sA_nil)))) (sA_cons sE_int sA_nil))) (sA_cons (sE_tup (sA_cons (sE_tup (sA_cons sE_str (sA_cons (sE_tup (sA_cons sE_int (sA_cons sE_int sA_nil))) (sA_cons sE_int sA_nil)))) (sA_cons sE_int sA_nil))) sA_nil)))))
      (sS_cons (sS_set (i := 0) scope.nd (by rfl) (.inl rfl) (sE_op or_add os_add (sE_var 0) (sE_lst (sA_cons (sE_tup (sA_cons (sE_tup (sA_cons sE_str (sA_cons (sE_tup (sA_cons sE_int (sA_cons sE_int sA_nil))) (sA_cons sE_int sA_nil)))) (sA_cons sE_int sA_nil))) sA_nil))))
      (sS_cons (sS_set (i := 0) scope.nd (by rfl) (.inl rfl) (sE_op or_add os_add (sE_var 0) (sE_lst (sA_cons (sE_tup (sA_cons (sE_tup (sA_cons sE_str (sA_cons (sE_tup (sA_cons sE_int (sA_cons sE_int sA_nil))) (sA_cons (sE_tup (sA_cons sE_int (sA_cons sE_int sA_nil))) sA_nil)))) (sA_cons sE_int sA_nil))) (sA_cons (sE_tup (sA_cons (sE_tup (sA_cons sE_str (sA_cons (sE_tup (sA_cons sE_int (sA_cons sE_int sA_nil))) (sA_cons (sE_tup (sA_cons sE_int (sA_cons sE_int sA_nil))) sA_nil)))) (sA_cons sE_int sA_nil))) sA_nil)))))
      (sS_cons (sS_set (i := 0) scope.nd (by rfl) (.inl rfl) (sE_op or_add os_add (sE_var 0) (sE_lst (sA_cons (sE_tup (sA_cons (sE_tup (sA_cons sE_str (sA_cons (sE_tup (sA_cons sE_int (sA_cons sE_int sA_nil))) (sA_cons (sE_tup (sA_cons sE_int (sA_cons sE_int sA_nil))) sA_nil)))) (sA_cons sE_int sA_nil))) sA_nil))))
      (sS_cons (sS_for ownB rfl (sI_seq rfl (sE_var 0)) (sG_tup rfl rfl (sGs_cons (sG_name (i := 1) scope.nd (by rfl) (.inl rfl)) (sGs_cons (sG_name (i := 2) scope.nd (by rfl) (.inl rfl)) sGs_nil))) (sS_one (sS_if (sT_not (sT_val (sE_call rfl ((ok_same g).mono (by decide)) hr (by rfl) g.m_same g.F_same.kp (bd_same_2 g) passB (sAr_v (sE_call rfl ((ok_told g).mono (by decide)) hr (by rfl) g.m_told g.F_told.kp (bd_told_1 g) passB (sAr_v (sE_var 1) sAr_nil)) (sAr_v (sE_lst (sA_cons (sE_cmp (op_eqD hr.units) os_eq (sE_var 2) sE_int (nomark _)) (sA_cons (sE_cmp (op_in2 (room65 hr)) os_in2 (sE_var 2) (sE_tup (sA_cons sE_int (sA_cons sE_int sA_nil))) (by with_unfolding_all rfl)) (sA_cons (sE_cmp (op_in2 (room65 hr)) os_in2 (sE_var 2) (sE_tup (sA_cons sE_int (sA_cons sE_int sA_nil))) (by with_unfolding_all rfl)) (sA_cons (sE_cmp (op_eqD hr.units) os_eq (sE_var 2) sE_int (nomark _)) sA_nil))))) sAr_nil))))) (sS_one (sS_ret sE_bl)) sS_nil)))
      (sS_cons (sS_set (i := 3) scope.nd (by rfl) (.inl rfl) (sE_call0 rfl ((ok_odd g).mono (by decide)) hr (by rfl) g.m_odd g.F_odd.kp (bd_odd_0 g) passB))
      (sS_cons (sS_if (sT_not (sT_val (sE_callB (cr_all rfl) fs_all (by rfl) g.z_all bt_all (sA_cons (SE.of (sF_lc (own := [("_law_mat", 1)]) rfl scope.nd (sI_wipe [1] (sI_seq rfl (sE_var 3))) (blkOk_by (by kernel_rfl)) (fun _ _ _ _ _ _ => (sC_name scope.nd (i := 1) (by rfl) (.inl rfl) (by decide))) (fun _ _ _ _ _ _ => sTs_nil) (fun _ _ _ _ _ _ => (sE_call rfl ((ok_same g).mono (by decide)) hr (by rfl) g.m_same g.F_same.kp (bd_same_2 g) passNo (sAr_v (sE_call rfl ((ok_told g).mono (by decide)) hr (by rfl) g.m_told g.F_told.kp (bd_told_1 g) passNo (sAr_v (sE_var 1) sAr_nil)) (sAr_v (sE_op or_mul os_mul (sE_lst (sA_cons sE_bl sA_nil)) sE_int) sAr_nil)))))) sA_nil)))) (sS_one (sS_ret sE_bl)) sS_nil)
      (sS_cons (sS_set (i := 4) scope.nd (by rfl) (.inl rfl) (sE_lst (sA_cons (sE_callK0 rfl ((ok_is_tick g).mono (by decide)) hr (by rfl) g.m_is_tick g.F_is_tick.kp (bd_is_tick_0_thing g) passB (sK_cons sE_int sK_nil)) (sA_cons (sE_callK0 rfl ((ok_is_stay g).mono (by decide)) hr (by rfl) g.m_is_stay g.F_is_stay.kp (bd_is_stay_0_thing g) passB (sK_cons (sE_tup (sA_cons sE_int (sA_cons sE_int sA_nil))) sK_nil)) (sA_cons (sE_callK0 rfl ((ok_is_timetable g).mono (by decide)) hr (by rfl) g.m_is_timetable g.F_is_timetable.kp (bd_is_timetable_0_thing g) passB (sK_cons (sE_tup (sA_cons sE_int (sA_cons sE_int sA_nil))) sK_nil)) sA_nil)))))
      (sS_cons (sS_set (i := 4) scope.nd (by rfl) (.inl rfl) (sE_op or_add os_add (sE_var 4) (sE_lst (sA_cons (sE_callK0 rfl ((ok_is_move g).mono (by decide)) hr (by rfl) g.m_is_move g.F_is_move.kp (bd_is_move_0_thing g) passB (sK_cons (sE_tup (sA_cons sE_str (sA_cons (sE_tup (sA_cons sE_int (sA_cons sE_int sA_nil))) (sA_cons sE_int sA_nil)))) sK_nil)) sA_nil))))
      (sS_one (sS_ret (sE_call rfl ((ok_same g).mono (by decide)) hr (by rfl) g.m_same g.F_same.kp (bd_same_2 g) passB (sAr_v (sE_var 4) (sAr_v (sE_op or_mul os_mul (sE_lst (sA_cons sE_bl sA_nil)) sE_int) sAr_nil))))))))))))))))))))
theorem sc_right : FnScope ["_law_box_here", "_law_sort_so", "_law_mat", "_law_turn", "_law_bent_here", "_law_was"] ["_law_box_here"] (defScope s_right) := ⟨rfl, rfl, rfl, by decide +kernel, rfl, by decide +kernel, by decide +kernel⟩
theorem ok_right (g : Top L mg) : FnOkG L.pr L.w L.K mg base (L2.CX L.pr L.w) 9 g.a_right g.d_right ["_law_box_here"] (spF L [true] f_right) := by
    have scope := sc_right
    exact fn_okG (N := ["_law_box_here", "_law_sort_so", "_law_mat", "_law_turn", "_law_bent_here", "_law_was"]) (b := b_right) g.F_right sc_right rfl (by decide) fun cdv A outer s H E P hgd hr =>
      (sS_cons (sS_par (i := 1) (j := 2) rfl scope.nd (by rfl) (by rfl) (by decide) rfl rfl (sE_call rfl ((ok_take g).mono (by decide)) hr (by rfl) g.m_take g.F_take.kp (bd_take_2 g) passB (sAr_io 0 (sAr_v sE_int sAr_nil))) (sE_call rfl ((ok_take g).mono (by decide)) hr (by rfl) g.m_take g.F_take.kp (bd_take_2 g) passB (sAr_io 0 (sAr_v sE_int sAr_nil))) (by rfl))
      (sS_cons (sS_if (sT_cmp (op_eqD hr.units) os_eq (sE_var 1) sE_int (nomark _)) (sS_one (sS_set (i := 2) scope.nd (by rfl) (.inl rfl) (sE_call rfl ((ok_stay g).mono (by decide)) hr (by rfl) g.m_stay g.F_stay.kp (bd_stay_2 g) passB (sAr_io 0 (sAr_v (sE_call rfl ((ok_of g).mono (by decide)) hr (by rfl) g.m_of g.F_of.kp (bd_of_2 g) passB (sAr_io 0 (sAr_v (sE_lst (sA_cons sE_int (sA_cons sE_int (sA_cons (sE_op op_pow os_pow sE_int sE_int) sA_nil)))) sAr_nil))) sAr_nil))))) sS_nil)
      (sS_cons (sS_if (sT_cmp (op_eqD hr.units) os_eq (sE_var 1) sE_int (nomark _)) (sS_one (sS_set (i := 2) scope.nd (by rfl) (.inl rfl) (sE_callTy call_tuple_of fs_tuple (by rfl) g.z_tuple bt_tuple (sA_cons (SE.of (sF_callB (cr_sorted5 ⟨rfl, rfl, rfl⟩ rfl (room65 hr)) (ff_sorted5 (L := L)) (by rfl) g.z_sorted bt_sorted (sA_cons (sE_callTy (cr_set7 rfl (of65 (room65 hr))) (fs_set7 (L := L)) (by rfl) g.z_set bt_set (sA_cons (SE.of (sF_lc (own := [("_law_turn", 3)]) rfl scope.nd (sI_range1 (by rfl) g.z_range (sA_cons (sE_call rfl ((ok_take g).mono (by decide)) hr (by rfl) g.m_take g.F_take.kp (bd_take_2 g) passB (sAr_io 0 (sAr_v sE_int sAr_nil))) sA_nil)) (blkOk_by (by kernel_rfl)) (fun _ _ _ _ _ _ => (sC_name scope.nd (i := 3) (by rfl) (.inl rfl) (by decide))) (fun _ _ _ _ _ _ => sTs_nil) (fun _ _ _ _ _ _ => (sE_call rfl ((ok_take g).mono (by decide)) hr (by rfl) g.m_take g.F_take.kp (bd_take_2 g) passNo (sAr_io 0 (sAr_v sE_int sAr_nil)))))) sA_nil)) sA_nil))) sA_nil)))) sS_nil)
      (sS_cons (sS_if (sT_cmp (op_eqD hr.units) os_eq (sE_var 1) sE_int (nomark _)) (sS_one (sS_set (i := 2) scope.nd (by rfl) (.inl rfl) (sE_call rfl ((ok_deed g).mono (by decide)) hr (by rfl) g.m_deed g.F_deed.kp (bd_deed_2 g) passB (sAr_io 0 (sAr_v (sE_op or_add os_add sE_int (sE_call rfl ((ok_take g).mono (by decide)) hr (by rfl) g.m_take g.F_take.kp (bd_take_2 g) passB (sAr_io 0 (sAr_v sE_int sAr_nil)))) sAr_nil))))) sS_nil)
      (sS_cons (sS_if (sT_w (sW_or (sT_not (sT_val (sE_call rfl ((ok_same g).mono (by decide)) hr (by rfl) g.m_same g.F_same.kp (bd_same_2 g) passB (sAr_v (sE_call rfl ((ok_told g).mono (by decide)) hr (by rfl) g.m_told g.F_told.kp (bd_told_1 g) passB (sAr_v (sE_var 2) sAr_nil)) (sAr_v (sE_call rfl ((ok_due g).mono (by decide)) hr (by rfl) g.m_due g.F_due.kp (bd_due_1 g) passB (sAr_v (sE_var 2) sAr_nil)) sAr_nil))))) (sW_or1 (sT_cmp op_notB os_notB (sE_ix rfl (sE_call rfl ((ok_due g).mono (by decide)) hr (by rfl) g.m_due g.F_due.kp (bd_due_1 g) passB (sAr_v (sE_var 2) sAr_nil)) (sE_var 1)) sE_bl (nomark _))))) (sS_one (sS_ret sE_bl)) sS_nil)
      (sS_cons (sS_for ownB rfl (sI_range1 (by rfl) g.z_range (sA_cons sE_int sA_nil)) (sG_name (i := 3) scope.nd (by rfl) (.inl rfl)) (sS_cons (sS_set (i := 4) scope.nd (by rfl) (.inl rfl) (sE_call rfl ((ok_bent g).mono (by decide)) hr (by rfl) g.m_bent g.F_bent.kp (bd_bent_2 g) passB (sAr_io 0 (sAr_v (sE_var 2) sAr_nil))))
      (sS_cons (sS_set (i := 5) scope.nd (by rfl) (.inl rfl) (sE_callB (cr_repr hgd hr.units) (fs_repr (L := L)) (by rfl) g.z_repr bt_repr (sA_cons (sE_var 4) sA_nil)))
      (sS_one (sS_if (sT_w (sW_or (sT_not (sT_val (sE_call rfl ((ok_same g).mono (by decide)) hr (by rfl) g.m_same g.F_same.kp (bd_same_2 g) passB (sAr_v (sE_call rfl ((ok_told g).mono (by decide)) hr (by rfl) g.m_told g.F_told.kp (bd_told_1 g) passB (sAr_v (sE_var 4) sAr_nil)) (sAr_v (sE_call rfl ((ok_due g).mono (by decide)) hr (by rfl) g.m_due g.F_due.kp (bd_due_1 g) passB (sAr_v (sE_var 4) sAr_nil)) sAr_nil))))) (sW_or1 (sT_cmp (op_neS hr.units) os_neS (sE_callB (cr_repr hgd hr.units) (fs_repr (L := L)) (by rfl) g.z_repr bt_repr (sA_cons (sE_var 4) sA_nil)) (sE_var 5) (nomark _))))) (sS_one (sS_ret sE_bl)) sS_nil)))))
      (sS_one (sS_ret sE_bl))))))))
theorem sc_law : FnScope ["_law_script", "_law_cells_here", "_law_k", "_law_box_here", "_law_turn"] ["_law_script"] (defScope s_law) := ⟨rfl, rfl, rfl, by decide +kernel, rfl, by decide +kernel, by decide +kernel⟩
theorem ok_law (g : Top L mg) : FnOkG L.pr L.w L.K mg base (L2.CX L.pr L.w) 10 g.a_law g.d_law ["_law_script"] (spF L [false] f_law) := by
    have scope := sc_law
    exact fn_okG (N := ["_law_script", "_law_cells_here", "_law_k", "_law_box_here", "_law_turn"]) (b := b_law) g.F_law sc_law rfl (by decide) fun cdv A outer s H E P hgd hr =>
      (sS_cons (sS_if (sT_not (sT_val (sE_call0 rfl ((ok_by_hand_right g).mono (by decide)) hr (by rfl) g.m_by_hand_right g.F_by_hand_right.kp (bd_by_hand_right_0 g) passB))) (sS_one (sS_ret sE_bl)) sS_nil)
      (sS_cons (sS_set (i := 1) scope.nd (by rfl) (.inl rfl) (sE_call rfl ((ok_cells g).mono (by decide)) hr (by rfl) g.m_cells g.F_cells.kp (bd_cells_2 g) passB (sAr_v (sE_var 0) (sAr_v sE_int sAr_nil))))
      (sS_cons (sS_for ownB rfl (sI_range1 (by rfl) g.z_range (sA_cons (sE_callB call_len fs_len (by rfl) g.z_len bt_len (sA_cons (sE_var 1) sA_nil)) sA_nil)) (sG_name (i := 2) scope.nd (by rfl) (.inl rfl)) (sS_cons (sS_setO (i := 3) scope.nd (by rfl) (.inr rfl) (sF_call rfl ((ok_box g).mono (by decide)) hr (by rfl) g.m_box g.F_box.kp (bd_box_2 g) passB (sAr_v (sE_var 1) (sAr_v (sE_var 2) sAr_nil))))
      (sS_one (sS_if (sT_not (sT_val (sE_callB (cr_all rfl) fs_all (by rfl) g.z_all bt_all (sA_cons (SE.of (sF_lc (own := [("_law_turn", 4)]) rfl scope.nd (sI_range1 (by rfl) g.z_range (sA_cons sE_int sA_nil)) (blkOk_by (by kernel_rfl)) (fun _ _ _ _ _ _ => (sC_name scope.nd (i := 4) (by rfl) (.inl rfl) (by decide))) (fun _ _ _ _ _ _ => sTs_nil) (fun _ _ _ _ _ _ => (sE_callG hgd rfl ((ok_right g).mono (by decide)) hr (by rfl) g.m_right g.F_right.kp (bd_right_1 g) passNo (sAr_io 3 sAr_nil))))) sA_nil)))) (sS_one (sS_ret sE_bl)) sS_nil))))
      (sS_one (sS_ret sE_bl)))))
end
def spAny (K : PySem.W.Frag) (w : World) (pr : Program) : Sp := fun vs H Q E => ∀ C : Nat → Addr, spF ⟨K, w, C, pr, 0⟩ [false] f_law vs H Q E
theorem all_mk {l : PySem.W.OpenLaw} {w : World} {K : PySem.W.Frag} {h : Heap} {mg : Str → Option Value} {fa : Addr} (X : K.In h) (G : h.Ns mainGlobals mg) (hfa : mg "law" = some (.ref fa))
    {a_is_number : Addr} {od_is_number an_is_number : Option Addr} {sl_is_number : Array (Option Value)} {oc_is_number kV_is_number dc_is_number pm_is_number cd_is_number ct_is_number : Value}
    {a_is_rising : Addr} {od_is_rising an_is_rising : Option Addr} {sl_is_rising : Array (Option Value)} {oc_is_rising kV_is_rising dc_is_rising pm_is_rising cd_is_rising ct_is_rising : Value}
    {a_is_tick : Addr} {od_is_tick an_is_tick : Option Addr} {sl_is_tick : Array (Option Value)} {oc_is_tick kV_is_tick dc_is_tick pm_is_tick cd_is_tick ct_is_tick : Value}
    {a_is_stay : Addr} {od_is_stay an_is_stay : Option Addr} {sl_is_stay : Array (Option Value)} {oc_is_stay kV_is_stay dc_is_stay pm_is_stay cd_is_stay ct_is_stay : Value}
    {a_is_timetable : Addr} {od_is_timetable an_is_timetable : Option Addr} {sl_is_timetable : Array (Option Value)} {oc_is_timetable kV_is_timetable dc_is_timetable pm_is_timetable cd_is_timetable ct_is_timetable : Value}
    {a_lies_in : Addr} {od_lies_in an_lies_in : Option Addr} {sl_lies_in : Array (Option Value)} {oc_lies_in kV_lies_in dc_lies_in pm_lies_in cd_lies_in ct_lies_in : Value}
    {a_size_of : Addr} {od_size_of an_size_of : Option Addr} {sl_size_of : Array (Option Value)} {oc_size_of kV_size_of dc_size_of pm_size_of cd_size_of ct_size_of : Value}
    {a_is_wider : Addr} {od_is_wider an_is_wider : Option Addr} {sl_is_wider : Array (Option Value)} {oc_is_wider kV_is_wider dc_is_wider pm_is_wider cd_is_wider ct_is_wider : Value}
    {a_is_move : Addr} {od_is_move an_is_move : Option Addr} {sl_is_move : Array (Option Value)} {oc_is_move kV_is_move dc_is_move pm_is_move cd_is_move ct_is_move : Value}
    {a_box : Addr} {od_box an_box : Option Addr} {sl_box : Array (Option Value)} {oc_box kV_box dc_box pm_box cd_box ct_box : Value}
    {a_take : Addr} {od_take an_take : Option Addr} {sl_take : Array (Option Value)} {oc_take kV_take dc_take pm_take cd_take ct_take : Value}
    {a_cells : Addr} {od_cells an_cells : Option Addr} {sl_cells : Array (Option Value)} {oc_cells kV_cells dc_cells pm_cells cd_cells ct_cells : Value}
    {a_of : Addr} {od_of an_of : Option Addr} {sl_of : Array (Option Value)} {oc_of kV_of dc_of pm_of cd_of ct_of : Value}
    {a_same : Addr} {od_same an_same : Option Addr} {sl_same : Array (Option Value)} {oc_same kV_same dc_same pm_same cd_same ct_same : Value}
    {a_stay : Addr} {od_stay an_stay : Option Addr} {sl_stay : Array (Option Value)} {oc_stay kV_stay dc_stay pm_stay cd_stay ct_stay : Value}
    {a_deed : Addr} {od_deed an_deed : Option Addr} {sl_deed : Array (Option Value)} {oc_deed kV_deed dc_deed pm_deed cd_deed ct_deed : Value}
    {a_is_count : Addr} {od_is_count an_is_count : Option Addr} {sl_is_count : Array (Option Value)} {oc_is_count kV_is_count dc_is_count pm_is_count cd_is_count ct_is_count : Value}
    {a_is_pair : Addr} {od_is_pair an_is_pair : Option Addr} {sl_is_pair : Array (Option Value)} {oc_is_pair kV_is_pair dc_is_pair pm_is_pair cd_is_pair ct_is_pair : Value}
    {a_is_row : Addr} {od_is_row an_is_row : Option Addr} {sl_is_row : Array (Option Value)} {oc_is_row kV_is_row dc_is_row pm_is_row cd_is_row ct_is_row : Value}
    {a_is_deed : Addr} {od_is_deed an_is_deed : Option Addr} {sl_is_deed : Array (Option Value)} {oc_is_deed kV_is_deed dc_is_deed pm_is_deed cd_is_deed ct_is_deed : Value}
    {a_told : Addr} {od_told an_told : Option Addr} {sl_told : Array (Option Value)} {oc_told kV_told dc_told pm_told cd_told ct_told : Value}
    {a_due : Addr} {od_due an_due : Option Addr} {sl_due : Array (Option Value)} {oc_due kV_due dc_due pm_due cd_due ct_due : Value}
    {a_bent : Addr} {od_bent an_bent : Option Addr} {sl_bent : Array (Option Value)} {oc_bent kV_bent dc_bent pm_bent cd_bent ct_bent : Value}
    {a_odd : Addr} {od_odd an_odd : Option Addr} {sl_odd : Array (Option Value)} {oc_odd kV_odd dc_odd pm_odd cd_odd ct_odd : Value}
    {a_by_hand_right : Addr} {od_by_hand_right an_by_hand_right : Option Addr} {sl_by_hand_right : Array (Option Value)} {oc_by_hand_right kV_by_hand_right dc_by_hand_right pm_by_hand_right cd_by_hand_right ct_by_hand_right : Value}
    {a_right : Addr} {od_right an_right : Option Addr} {sl_right : Array (Option Value)} {oc_right kV_right dc_right pm_right cd_right ct_right : Value}
    {a_law : Addr} {od_law an_law : Option Addr} {sl_law : Array (Option Value)} {oc_law kV_law dc_law pm_law cd_law ct_law : Value}
    {t_PAIR : Tok}
    {t_TRIPLE : Tok}
    (n_is_number : PySem.W.nsIn K mainGlobals "is_number" = some (some (.ref a_is_number)))
    (l_is_number : K.lookup a_is_number = some ⟨oc_is_number, od_is_number, .func (PySem.W.fnOf "is_number" "is_number" (defArgs s_is_number) (defBody s_is_number) (defScope s_is_number) .none kV_is_number dc_is_number pm_is_number an_is_number cd_is_number ct_is_number), sl_is_number⟩)
    (c_is_number : PySem.W.codeIn K cd_is_number "is_number" = true)
    (k_is_number : PySem.W.keepIn K (.ref a_is_number) = true)
    (n_is_rising : PySem.W.nsIn K mainGlobals "is_rising" = some (some (.ref a_is_rising)))
    (l_is_rising : K.lookup a_is_rising = some ⟨oc_is_rising, od_is_rising, .func (PySem.W.fnOf "is_rising" "is_rising" (defArgs s_is_rising) (defBody s_is_rising) (defScope s_is_rising) .none kV_is_rising dc_is_rising pm_is_rising an_is_rising cd_is_rising ct_is_rising), sl_is_rising⟩)
    (c_is_rising : PySem.W.codeIn K cd_is_rising "is_rising" = true)
    (k_is_rising : PySem.W.keepIn K (.ref a_is_rising) = true)
    (n_is_tick : PySem.W.nsIn K mainGlobals "is_tick" = some (some (.ref a_is_tick)))
    (l_is_tick : K.lookup a_is_tick = some ⟨oc_is_tick, od_is_tick, .func (PySem.W.fnOf "is_tick" "is_tick" (defArgs s_is_tick) (defBody s_is_tick) (defScope s_is_tick) .none kV_is_tick dc_is_tick pm_is_tick an_is_tick cd_is_tick ct_is_tick), sl_is_tick⟩)
    (c_is_tick : PySem.W.codeIn K cd_is_tick "is_tick" = true)
    (k_is_tick : PySem.W.keepIn K (.ref a_is_tick) = true)
    (n_is_stay : PySem.W.nsIn K mainGlobals "is_stay" = some (some (.ref a_is_stay)))
    (l_is_stay : K.lookup a_is_stay = some ⟨oc_is_stay, od_is_stay, .func (PySem.W.fnOf "is_stay" "is_stay" (defArgs s_is_stay) (defBody s_is_stay) (defScope s_is_stay) .none kV_is_stay dc_is_stay pm_is_stay an_is_stay cd_is_stay ct_is_stay), sl_is_stay⟩)
    (c_is_stay : PySem.W.codeIn K cd_is_stay "is_stay" = true)
    (k_is_stay : PySem.W.keepIn K (.ref a_is_stay) = true)
    (n_is_timetable : PySem.W.nsIn K mainGlobals "is_timetable" = some (some (.ref a_is_timetable)))
    (l_is_timetable : K.lookup a_is_timetable = some ⟨oc_is_timetable, od_is_timetable, .func (PySem.W.fnOf "is_timetable" "is_timetable" (defArgs s_is_timetable) (defBody s_is_timetable) (defScope s_is_timetable) .none kV_is_timetable dc_is_timetable pm_is_timetable an_is_timetable cd_is_timetable ct_is_timetable), sl_is_timetable⟩)
    (c_is_timetable : PySem.W.codeIn K cd_is_timetable "is_timetable" = true)
    (k_is_timetable : PySem.W.keepIn K (.ref a_is_timetable) = true)
    (n_lies_in : PySem.W.nsIn K mainGlobals "lies_in" = some (some (.ref a_lies_in)))
    (l_lies_in : K.lookup a_lies_in = some ⟨oc_lies_in, od_lies_in, .func (PySem.W.fnOf "lies_in" "lies_in" (defArgs s_lies_in) (defBody s_lies_in) (defScope s_lies_in) .none kV_lies_in dc_lies_in pm_lies_in an_lies_in cd_lies_in ct_lies_in), sl_lies_in⟩)
    (c_lies_in : PySem.W.codeIn K cd_lies_in "lies_in" = true)
    (k_lies_in : PySem.W.keepIn K (.ref a_lies_in) = true)
    (n_size_of : PySem.W.nsIn K mainGlobals "size_of" = some (some (.ref a_size_of)))
    (l_size_of : K.lookup a_size_of = some ⟨oc_size_of, od_size_of, .func (PySem.W.fnOf "size_of" "size_of" (defArgs s_size_of) (defBody s_size_of) (defScope s_size_of) .none kV_size_of dc_size_of pm_size_of an_size_of cd_size_of ct_size_of), sl_size_of⟩)
    (c_size_of : PySem.W.codeIn K cd_size_of "size_of" = true)
    (k_size_of : PySem.W.keepIn K (.ref a_size_of) = true)
    (n_is_wider : PySem.W.nsIn K mainGlobals "is_wider" = some (some (.ref a_is_wider)))
    (l_is_wider : K.lookup a_is_wider = some ⟨oc_is_wider, od_is_wider, .func (PySem.W.fnOf "is_wider" "is_wider" (defArgs s_is_wider) (defBody s_is_wider) (defScope s_is_wider) .none kV_is_wider dc_is_wider pm_is_wider an_is_wider cd_is_wider ct_is_wider), sl_is_wider⟩)
    (c_is_wider : PySem.W.codeIn K cd_is_wider "is_wider" = true)
    (k_is_wider : PySem.W.keepIn K (.ref a_is_wider) = true)
    (n_is_move : PySem.W.nsIn K mainGlobals "is_move" = some (some (.ref a_is_move)))
    (l_is_move : K.lookup a_is_move = some ⟨oc_is_move, od_is_move, .func (PySem.W.fnOf "is_move" "is_move" (defArgs s_is_move) (defBody s_is_move) (defScope s_is_move) .none kV_is_move dc_is_move pm_is_move an_is_move cd_is_move ct_is_move), sl_is_move⟩)
    (c_is_move : PySem.W.codeIn K cd_is_move "is_move" = true)
    (k_is_move : PySem.W.keepIn K (.ref a_is_move) = true)
    (n_box : PySem.W.nsIn K mainGlobals "_law_box" = some (some (.ref a_box)))
    (l_box : K.lookup a_box = some ⟨oc_box, od_box, .func (PySem.W.fnOf "_law_box" "_law_box" (defArgs s_box) (defBody s_box) (defScope s_box) .none kV_box dc_box pm_box an_box cd_box ct_box), sl_box⟩)
    (c_box : PySem.W.codeIn K cd_box "_law_box" = true)
    (k_box : PySem.W.keepIn K (.ref a_box) = true)
    (n_take : PySem.W.nsIn K mainGlobals "_law_take" = some (some (.ref a_take)))
    (l_take : K.lookup a_take = some ⟨oc_take, od_take, .func (PySem.W.fnOf "_law_take" "_law_take" (defArgs s_take) (defBody s_take) (defScope s_take) .none kV_take dc_take pm_take an_take cd_take ct_take), sl_take⟩)
    (c_take : PySem.W.codeIn K cd_take "_law_take" = true)
    (k_take : PySem.W.keepIn K (.ref a_take) = true)
    (n_cells : PySem.W.nsIn K mainGlobals "_law_cells" = some (some (.ref a_cells)))
    (l_cells : K.lookup a_cells = some ⟨oc_cells, od_cells, .func (PySem.W.fnOf "_law_cells" "_law_cells" (defArgs s_cells) (defBody s_cells) (defScope s_cells) .none kV_cells dc_cells pm_cells an_cells cd_cells ct_cells), sl_cells⟩)
    (c_cells : PySem.W.codeIn K cd_cells "_law_cells" = true)
    (k_cells : PySem.W.keepIn K (.ref a_cells) = true)
    (n_of : PySem.W.nsIn K mainGlobals "_law_of" = some (some (.ref a_of)))
    (l_of : K.lookup a_of = some ⟨oc_of, od_of, .func (PySem.W.fnOf "_law_of" "_law_of" (defArgs s_of) (defBody s_of) (defScope s_of) .none kV_of dc_of pm_of an_of cd_of ct_of), sl_of⟩)
    (c_of : PySem.W.codeIn K cd_of "_law_of" = true)
    (k_of : PySem.W.keepIn K (.ref a_of) = true)
    (n_same : PySem.W.nsIn K mainGlobals "_law_same" = some (some (.ref a_same)))
    (l_same : K.lookup a_same = some ⟨oc_same, od_same, .func (PySem.W.fnOf "_law_same" "_law_same" (defArgs s_same) (defBody s_same) (defScope s_same) .none kV_same dc_same pm_same an_same cd_same ct_same), sl_same⟩)
    (c_same : PySem.W.codeIn K cd_same "_law_same" = true)
    (k_same : PySem.W.keepIn K (.ref a_same) = true)
    (n_stay : PySem.W.nsIn K mainGlobals "_law_stay" = some (some (.ref a_stay)))
    (l_stay : K.lookup a_stay = some ⟨oc_stay, od_stay, .func (PySem.W.fnOf "_law_stay" "_law_stay" (defArgs s_stay) (defBody s_stay) (defScope s_stay) .none kV_stay dc_stay pm_stay an_stay cd_stay ct_stay), sl_stay⟩)
    (c_stay : PySem.W.codeIn K cd_stay "_law_stay" = true)
    (k_stay : PySem.W.keepIn K (.ref a_stay) = true)
    (n_deed : PySem.W.nsIn K mainGlobals "_law_deed" = some (some (.ref a_deed)))
    (l_deed : K.lookup a_deed = some ⟨oc_deed, od_deed, .func (PySem.W.fnOf "_law_deed" "_law_deed" (defArgs s_deed) (defBody s_deed) (defScope s_deed) .none kV_deed dc_deed pm_deed an_deed cd_deed ct_deed), sl_deed⟩)
    (c_deed : PySem.W.codeIn K cd_deed "_law_deed" = true)
    (k_deed : PySem.W.keepIn K (.ref a_deed) = true)
    (n_is_count : PySem.W.nsIn K mainGlobals "_law_is_count" = some (some (.ref a_is_count)))
    (l_is_count : K.lookup a_is_count = some ⟨oc_is_count, od_is_count, .func (PySem.W.fnOf "_law_is_count" "_law_is_count" (defArgs s_is_count) (defBody s_is_count) (defScope s_is_count) .none kV_is_count dc_is_count pm_is_count an_is_count cd_is_count ct_is_count), sl_is_count⟩)
    (c_is_count : PySem.W.codeIn K cd_is_count "_law_is_count" = true)
    (k_is_count : PySem.W.keepIn K (.ref a_is_count) = true)
    (n_is_pair : PySem.W.nsIn K mainGlobals "_law_is_pair" = some (some (.ref a_is_pair)))
    (l_is_pair : K.lookup a_is_pair = some ⟨oc_is_pair, od_is_pair, .func (PySem.W.fnOf "_law_is_pair" "_law_is_pair" (defArgs s_is_pair) (defBody s_is_pair) (defScope s_is_pair) .none kV_is_pair dc_is_pair pm_is_pair an_is_pair cd_is_pair ct_is_pair), sl_is_pair⟩)
    (c_is_pair : PySem.W.codeIn K cd_is_pair "_law_is_pair" = true)
    (k_is_pair : PySem.W.keepIn K (.ref a_is_pair) = true)
    (n_is_row : PySem.W.nsIn K mainGlobals "_law_is_row" = some (some (.ref a_is_row)))
    (l_is_row : K.lookup a_is_row = some ⟨oc_is_row, od_is_row, .func (PySem.W.fnOf "_law_is_row" "_law_is_row" (defArgs s_is_row) (defBody s_is_row) (defScope s_is_row) .none kV_is_row dc_is_row pm_is_row an_is_row cd_is_row ct_is_row), sl_is_row⟩)
    (c_is_row : PySem.W.codeIn K cd_is_row "_law_is_row" = true)
    (k_is_row : PySem.W.keepIn K (.ref a_is_row) = true)
    (n_is_deed : PySem.W.nsIn K mainGlobals "_law_is_deed" = some (some (.ref a_is_deed)))
    (l_is_deed : K.lookup a_is_deed = some ⟨oc_is_deed, od_is_deed, .func (PySem.W.fnOf "_law_is_deed" "_law_is_deed" (defArgs s_is_deed) (defBody s_is_deed) (defScope s_is_deed) .none kV_is_deed dc_is_deed pm_is_deed an_is_deed cd_is_deed ct_is_deed), sl_is_deed⟩)
    (c_is_deed : PySem.W.codeIn K cd_is_deed "_law_is_deed" = true)
    (k_is_deed : PySem.W.keepIn K (.ref a_is_deed) = true)
    (n_told : PySem.W.nsIn K mainGlobals "_law_told" = some (some (.ref a_told)))
    (l_told : K.lookup a_told = some ⟨oc_told, od_told, .func (PySem.W.fnOf "_law_told" "_law_told" (defArgs s_told) (defBody s_told) (defScope s_told) .none kV_told dc_told pm_told an_told cd_told ct_told), sl_told⟩)
    (c_told : PySem.W.codeIn K cd_told "_law_told" = true)
    (k_told : PySem.W.keepIn K (.ref a_told) = true)
    (n_due : PySem.W.nsIn K mainGlobals "_law_due" = some (some (.ref a_due)))
    (l_due : K.lookup a_due = some ⟨oc_due, od_due, .func (PySem.W.fnOf "_law_due" "_law_due" (defArgs s_due) (defBody s_due) (defScope s_due) .none kV_due dc_due pm_due an_due cd_due ct_due), sl_due⟩)
    (c_due : PySem.W.codeIn K cd_due "_law_due" = true)
    (k_due : PySem.W.keepIn K (.ref a_due) = true)
    (n_bent : PySem.W.nsIn K mainGlobals "_law_bent" = some (some (.ref a_bent)))
    (l_bent : K.lookup a_bent = some ⟨oc_bent, od_bent, .func (PySem.W.fnOf "_law_bent" "_law_bent" (defArgs s_bent) (defBody s_bent) (defScope s_bent) .none kV_bent dc_bent pm_bent an_bent cd_bent ct_bent), sl_bent⟩)
    (c_bent : PySem.W.codeIn K cd_bent "_law_bent" = true)
    (k_bent : PySem.W.keepIn K (.ref a_bent) = true)
    (n_odd : PySem.W.nsIn K mainGlobals "_law_odd" = some (some (.ref a_odd)))
    (l_odd : K.lookup a_odd = some ⟨oc_odd, od_odd, .func (PySem.W.fnOf "_law_odd" "_law_odd" (defArgs s_odd) (defBody s_odd) (defScope s_odd) .none kV_odd dc_odd pm_odd an_odd cd_odd ct_odd), sl_odd⟩)
    (c_odd : PySem.W.codeIn K cd_odd "_law_odd" = true)
    (k_odd : PySem.W.keepIn K (.ref a_odd) = true)
    (n_by_hand_right : PySem.W.nsIn K mainGlobals "_law_by_hand_right" = some (some (.ref a_by_hand_right)))
    (l_by_hand_right : K.lookup a_by_hand_right = some ⟨oc_by_hand_right, od_by_hand_right, .func (PySem.W.fnOf "_law_by_hand_right" "_law_by_hand_right" (defArgs s_by_hand_right) (defBody s_by_hand_right) (defScope s_by_hand_right) .none kV_by_hand_right dc_by_hand_right pm_by_hand_right an_by_hand_right cd_by_hand_right ct_by_hand_right), sl_by_hand_right⟩)
    (c_by_hand_right : PySem.W.codeIn K cd_by_hand_right "_law_by_hand_right" = true)
    (k_by_hand_right : PySem.W.keepIn K (.ref a_by_hand_right) = true)
    (n_right : PySem.W.nsIn K mainGlobals "_law_right" = some (some (.ref a_right)))
    (l_right : K.lookup a_right = some ⟨oc_right, od_right, .func (PySem.W.fnOf "_law_right" "_law_right" (defArgs s_right) (defBody s_right) (defScope s_right) .none kV_right dc_right pm_right an_right cd_right ct_right), sl_right⟩)
    (c_right : PySem.W.codeIn K cd_right "_law_right" = true)
    (k_right : PySem.W.keepIn K (.ref a_right) = true)
    (n_law : PySem.W.nsIn K mainGlobals "law" = some (some (.ref a_law)))
    (l_law : K.lookup a_law = some ⟨oc_law, od_law, .func (PySem.W.fnOf "law" "law" (defArgs s_law) (defBody s_law) (defScope s_law) .none kV_law dc_law pm_law an_law cd_law ct_law), sl_law⟩)
    (c_law : PySem.W.codeIn K cd_law "law" = true)
    (k_law : PySem.W.keepIn K (.ref a_law) = true)
    (v_PAIR : PySem.W.nsIn K mainGlobals "PAIR" = some (some (.int 2 t_PAIR)))
    (v_TRIPLE : PySem.W.nsIn K mainGlobals "TRIPLE" = some (some (.int 3 t_TRIPLE)))
    (z_abs : PySem.W.nsIn K mainGlobals "abs" = some none)
    (z_all : PySem.W.nsIn K mainGlobals "all" = some none)
    (z_bool : PySem.W.nsIn K mainGlobals "bool" = some none)
    (z_enumerate : PySem.W.nsIn K mainGlobals "enumerate" = some none)
    (z_int : PySem.W.nsIn K mainGlobals "int" = some none)
    (z_isinstance : PySem.W.nsIn K mainGlobals "isinstance" = some none)
    (z_len : PySem.W.nsIn K mainGlobals "len" = some none)
    (z_list : PySem.W.nsIn K mainGlobals "list" = some none)
    (z_max : PySem.W.nsIn K mainGlobals "max" = some none)
    (z_min : PySem.W.nsIn K mainGlobals "min" = some none)
    (z_range : PySem.W.nsIn K mainGlobals "range" = some none)
    (z_repr : PySem.W.nsIn K mainGlobals "repr" = some none)
    (z_set : PySem.W.nsIn K mainGlobals "set" = some none)
    (z_sorted : PySem.W.nsIn K mainGlobals "sorted" = some none)
    (z_str : PySem.W.nsIn K mainGlobals "str" = some none)
    (z_tuple : PySem.W.nsIn K mainGlobals "tuple" = some none)
    (z_zip : PySem.W.nsIn K mainGlobals "zip" = some none) :
    ∃ fd : FuncData, (∀ (s : Shared) (v : Value), BindsTo s fd ⟨[v], []⟩ [("_law_script", v)]) ∧ ∀ base : Heap, K.In base → base.Ns mainGlobals mg → FnOkG l.prog w K mg base (L2.CX l.prog w) 10 fa fd ["_law_script"] (spAny K w l.prog) := by
  have e := hfa.symm.trans (PySem.W.mg_of X G n_law)
  have e2 : a_law = fa := by cases e; rfl
  subst e2
  let g : Top ⟨K, w, fun _ => 0, l.prog, 0⟩ mg := {
    a_is_number := a_is_number, d_is_number := _, F_is_number := fun_mk (st := s_is_number) l_is_number c_is_number k_is_number, m_is_number := PySem.W.mg_of X G n_is_number,
    a_is_rising := a_is_rising, d_is_rising := _, F_is_rising := fun_mk (st := s_is_rising) l_is_rising c_is_rising k_is_rising, m_is_rising := PySem.W.mg_of X G n_is_rising,
    a_is_tick := a_is_tick, d_is_tick := _, F_is_tick := fun_mk (st := s_is_tick) l_is_tick c_is_tick k_is_tick, m_is_tick := PySem.W.mg_of X G n_is_tick,
    a_is_stay := a_is_stay, d_is_stay := _, F_is_stay := fun_mk (st := s_is_stay) l_is_stay c_is_stay k_is_stay, m_is_stay := PySem.W.mg_of X G n_is_stay,
    a_is_timetable := a_is_timetable, d_is_timetable := _, F_is_timetable := fun_mk (st := s_is_timetable) l_is_timetable c_is_timetable k_is_timetable, m_is_timetable := PySem.W.mg_of X G n_is_timetable,
    a_lies_in := a_lies_in, d_lies_in := _, F_lies_in := fun_mk (st := s_lies_in) l_lies_in c_lies_in k_lies_in, m_lies_in := PySem.W.mg_of X G n_lies_in,
    a_size_of := a_size_of, d_size_of := _, F_size_of := fun_mk (st := s_size_of) l_size_of c_size_of k_size_of, m_size_of := PySem.W.mg_of X G n_size_of,
    a_is_wider := a_is_wider, d_is_wider := _, F_is_wider := fun_mk (st := s_is_wider) l_is_wider c_is_wider k_is_wider, m_is_wider := PySem.W.mg_of X G n_is_wider,
    a_is_move := a_is_move, d_is_move := _, F_is_move := fun_mk (st := s_is_move) l_is_move c_is_move k_is_move, m_is_move := PySem.W.mg_of X G n_is_move,
    a_box := a_box, d_box := _, F_box := fun_mk (st := s_box) l_box c_box k_box, m_box := PySem.W.mg_of X G n_box,
    a_take := a_take, d_take := _, F_take := fun_mk (st := s_take) l_take c_take k_take, m_take := PySem.W.mg_of X G n_take,
    a_cells := a_cells, d_cells := _, F_cells := fun_mk (st := s_cells) l_cells c_cells k_cells, m_cells := PySem.W.mg_of X G n_cells,
    a_of := a_of, d_of := _, F_of := fun_mk (st := s_of) l_of c_of k_of, m_of := PySem.W.mg_of X G n_of,
    a_same := a_same, d_same := _, F_same := fun_mk (st := s_same) l_same c_same k_same, m_same := PySem.W.mg_of X G n_same,
    a_stay := a_stay, d_stay := _, F_stay := fun_mk (st := s_stay) l_stay c_stay k_stay, m_stay := PySem.W.mg_of X G n_stay,
    a_deed := a_deed, d_deed := _, F_deed := fun_mk (st := s_deed) l_deed c_deed k_deed, m_deed := PySem.W.mg_of X G n_deed,
    a_is_count := a_is_count, d_is_count := _, F_is_count := fun_mk (st := s_is_count) l_is_count c_is_count k_is_count, m_is_count := PySem.W.mg_of X G n_is_count,
    a_is_pair := a_is_pair, d_is_pair := _, F_is_pair := fun_mk (st := s_is_pair) l_is_pair c_is_pair k_is_pair, m_is_pair := PySem.W.mg_of X G n_is_pair,
    a_is_row := a_is_row, d_is_row := _, F_is_row := fun_mk (st := s_is_row) l_is_row c_is_row k_is_row, m_is_row := PySem.W.mg_of X G n_is_row,
    a_is_deed := a_is_deed, d_is_deed := _, F_is_deed := fun_mk (st := s_is_deed) l_is_deed c_is_deed k_is_deed, m_is_deed := PySem.W.mg_of X G n_is_deed,
    a_told := a_told, d_told := _, F_told := fun_mk (st := s_told) l_told c_told k_told, m_told := PySem.W.mg_of X G n_told,
    a_due := a_due, d_due := _, F_due := fun_mk (st := s_due) l_due c_due k_due, m_due := PySem.W.mg_of X G n_due,
    a_bent := a_bent, d_bent := _, F_bent := fun_mk (st := s_bent) l_bent c_bent k_bent, m_bent := PySem.W.mg_of X G n_bent,
    a_odd := a_odd, d_odd := _, F_odd := fun_mk (st := s_odd) l_odd c_odd k_odd, m_odd := PySem.W.mg_of X G n_odd,
    a_by_hand_right := a_by_hand_right, d_by_hand_right := _, F_by_hand_right := fun_mk (st := s_by_hand_right) l_by_hand_right c_by_hand_right k_by_hand_right, m_by_hand_right := PySem.W.mg_of X G n_by_hand_right,
    a_right := a_right, d_right := _, F_right := fun_mk (st := s_right) l_right c_right k_right, m_right := PySem.W.mg_of X G n_right,
    a_law := a_law, d_law := _, F_law := fun_mk (st := s_law) l_law c_law k_law, m_law := PySem.W.mg_of X G n_law,
    t_PAIR := _, v_PAIR := PySem.W.mg_of X G v_PAIR,
    t_TRIPLE := _, v_TRIPLE := PySem.W.mg_of X G v_TRIPLE,
    z_abs := PySem.W.mg_none_of X G z_abs,
    z_all := PySem.W.mg_none_of X G z_all,
    z_bool := PySem.W.mg_none_of X G z_bool,
    z_enumerate := PySem.W.mg_none_of X G z_enumerate,
    z_int := PySem.W.mg_none_of X G z_int,
    z_isinstance := PySem.W.mg_none_of X G z_isinstance,
    z_len := PySem.W.mg_none_of X G z_len,
    z_list := PySem.W.mg_none_of X G z_list,
    z_max := PySem.W.mg_none_of X G z_max,
    z_min := PySem.W.mg_none_of X G z_min,
    z_range := PySem.W.mg_none_of X G z_range,
    z_repr := PySem.W.mg_none_of X G z_repr,
    z_set := PySem.W.mg_none_of X G z_set,
    z_sorted := PySem.W.mg_none_of X G z_sorted,
    z_str := PySem.W.mg_none_of X G z_str,
    z_tuple := PySem.W.mg_none_of X G z_tuple,
    z_zip := PySem.W.mg_none_of X G z_zip }
  exact ⟨_, fun s v => .of_eq rfl, fun base _ _ => (ok_law g).imp fun vs H Q E h => h _⟩
end Sm
set_option Elab.async false
set_option linter.all false
set_option maxRecDepth 100000
set_option maxHeartbeats 400000
namespace Sm
open PySem PySem.Spec PyProof.Rows L2
def IsLead (as bs : List Bit) (v : Int) : Prop := (∀ T, metZ as T - metZ bs T ≤ v) ∧ ∃ T : List Int, metZ as T - metZ bs T = v
theorem IsLead.eq {as bs : List Bit} {v w : Int} (h : IsLead as bs v) (g : IsLead as bs w) : v = w := by
  obtain ⟨h1, T, h2⟩ := h
  obtain ⟨g1, U, g2⟩ := g
  have := h1 U
  have := g1 T
  omega
def NN (rs : List Bit) : Prop := ∀ b ∈ rs, 0 ≤ b.2
theorem OkA.n {a : List Bit} (h : OkA a) : NN a := fun b hb => Int.le_of_lt (h.pos b hb)
theorem NN.app {a b : List Bit} (ha : NN a) (hb : NN b) : NN (a ++ b) := fun x hx => by
  rcases List.mem_append.mp hx with h | h
  · exact ha x h
  · exact hb x h
theorem NN.filt {a : List Bit} (h : NN a) (p : Bit → Bool) : NN (a.filter p) := fun b hb => h b (List.mem_filter.mp hb).1
end Sm
set_option Elab.async false
set_option linter.all false
set_option maxRecDepth 100000
set_option maxHeartbeats 400000
namespace Sm
open PySem PySem.Spec PyProof.Rows L2
end Sm
set_option Elab.async false
set_option linter.all false
set_option maxRecDepth 100000
set_option maxHeartbeats 400000
namespace Sm
open PySem PySem.Spec PyProof.Rows L2
def updV (val : Nat → Int) (l : Nat) (x : Int) : Nat → Int := fun k => if k = l then x else val k
theorem updV_ne {val : Nat → Int} {l k : Nat} {x : Int} (h : k ≠ l) : updV val l x k = val k := if_neg h
def BestL (tab : Nat → Nat → Int) (top : Nat) (val : Nat → Int) (l : Nat) : Prop := (∀ h, l < h → h ≤ top → tab l h + val h ≤ val l) ∧ ∃ h, l < h ∧ h ≤ top ∧ val l = tab l h + val h
theorem BestL.upd {tab : Nat → Nat → Int} {top : Nat} {val : Nat → Int} {l k : Nat} {x : Int} (h : BestL tab top val l) (hk : k < l) : BestL tab top (updV val k x) l := by
  obtain ⟨h1, j, j1, j2, j3⟩ := h
  refine ⟨fun i i1 i2 => ?_, j, j1, j2, ?_⟩
  · rw [updV_ne (by omega), updV_ne (by omega)]; exact h1 i i1 i2
  · rw [updV_ne (by omega), updV_ne (by omega)]; exact j3
end Sm
set_option Elab.async false
set_option linter.all false
set_option maxRecDepth 100000
set_option maxHeartbeats 400000
namespace Sm
open PySem PySem.Spec PyProof.Rows L2
theorem lcOne_of {g : MG} {m : M D} {vs : List Nat} {x y : D} {S τ1 τ2 S' : List Sl} (h1 : g x S = some τ1) (h2 : m τ1 = .ok y τ2) (h3 : Sm.wipeS τ2 vs = S') : lcOne g mYes m vs x S = .ok (some y) S' := by
  unfold lcOne
  rw [h1]
  show ((m τ1).bind fun y => fun τ => Res.ok (some y) (Sm.wipeS τ vs)) = _
  rw [h2]
  show Res.ok (some y) (Sm.wipeS τ2 vs) = _
  rw [h3]

end Sm
set_option Elab.async false
set_option linter.all false
set_option maxRecDepth 100000
set_option maxHeartbeats 400000
namespace Sm
open PySem PySem.Spec PyProof.Rows L2
theorem cut_b (xs : List D) (j : Nat) : cutD xs (some (j : Int)) none = xs.drop j := by
  unfold cutD
  rw [HT.sIx_nat, HT.sIx_none]
  by_cases hl : xs.length ≤ j
  · rw [Nat.min_eq_right hl, List.drop_eq_nil_of_le (show xs.length ≤ xs.length by omega), List.drop_eq_nil_of_le hl, List.take_nil]
  · rw [Nat.min_eq_left (by omega), List.take_of_length_le (by rw [List.length_drop]; omega)]
theorem Drawn.app {top : Int} {as bs : List Bit} (h : Drawn top as) (h2 : Drawn top bs) : Drawn top (as ++ bs) := fun b hb => by
  rcases List.mem_append.mp hb with hb | hb
  · exact h b hb
  · exact h2 b hb
end Sm
set_option Elab.async false
set_option linter.all false
set_option maxRecDepth 100000
set_option maxHeartbeats 400000
namespace Sm
open PySem PySem.Spec PyProof.Rows L2
end Sm
set_option Elab.async false
set_option linter.all false
set_option maxRecDepth 100000
set_option maxHeartbeats 400000
namespace Sm
open PySem PySem.Spec PyProof.Rows L2
section
variable {a b c e : List Bit}
end
end Sm
set_option Elab.async false
set_option linter.all false
set_option maxRecDepth 100000
set_option maxHeartbeats 1000000
namespace Sm
open PySem PySem.Spec PyProof.Rows L2
def okT (b : Str) : Bool := PyData.strOk b
theorem shaped_str {b : Str} (h : okT b = true) : SeqAt.shaped (.str b) = true := by
  have e : SeqAt.shaped (.str b) = (okT b && true) := rfl
  rw [e, h]; rfl
theorem eq_str {a b : Str} (ha : okT a = true) (hb : okT b = true) : dEq (.str a) (.str b) = some (.bl (decide (a = b))) := by
  show ((if SeqAt.shaped (.str a) = true ∧ SeqAt.shaped (.str b) = true then some (PyData.eqv (.str a) (.str b)) else none).map D.bl) = _
  rw [if_pos ⟨shaped_str ha, shaped_str hb⟩]; rfl
inductive Pl : D → Prop
  | int (i : Int) : Pl (.int i)
  | bl (b : Bool) : Pl (.bl b)
  | non : Pl .non
  | str (s : Str) : okT s = true → Pl (.str s)
  | lst (ds : List D) : ds.length ≤ 1000 → (∀ d ∈ ds, Pl d) → Pl (.lst ds)
  | tup (ds : List D) : ds.length ≤ 1000 → (∀ d ∈ ds, Pl d) → Pl (.tup ds)
def tickB : D → Bool
  | .int i => decide (0 ≤ i)
  | _ => false
theorem number29 {d : D} (h : Pl d) : f_is_number [d] = .ok (.bl (match d with | .int _ => true | _ => false)) [none] := by
  cases h <;> kernel_rfl
theorem tick29 {d : D} (h : Pl d) : f_is_tick [d] = .ok (.bl (tickB d)) [none] := by
  have n := number29 h
  rw [f_is_tick, mkF_fin]
  refine Eq.trans (if_pos rfl) ?_
  show fin [false] (b_is_tick [.fz d]) = _
  unfold b_is_tick
  cases h with
  | int i => rw [ret_of (andVT_of (call1_of (frz_of rfl) n) rfl (op_of (f := dGe) (frz_of rfl) c_of rfl))]; rfl
  | bl b => rw [ret_of (andVF_of (call1_of (frz_of rfl) n) rfl)]; rfl
  | non => rw [ret_of (andVF_of (call1_of (frz_of rfl) n) rfl)]; rfl
  | str s _ => rw [ret_of (andVF_of (call1_of (frz_of rfl) n) rfl)]; rfl
  | lst ds _ _ => rw [ret_of (andVF_of (call1_of (frz_of rfl) n) rfl)]; rfl
  | tup ds _ _ => rw [ret_of (andVF_of (call1_of (frz_of rfl) n) rfl)]; rfl
theorem notV_of {τ τ1 : List Sl} {m : M D} {b : Bool} (h : m τ = .ok (.bl b) τ1) : mNotV m τ = .ok (.bl (!b)) τ1 := by
  show (m τ).bind _ = _
  rw [h]; rfl
theorem count29 {d : D} (h : Pl d) : f_is_count [d] = .ok (.bl (tickB d)) [none] := by
  rw [f_is_count, mkF_fin]
  refine Eq.trans (if_pos rfl) ?_
  show fin [false] (b_is_count [.fz d]) = _
  unfold b_is_count
  cases h with
  | int i => rw [ret_of (andVT_of (x := .bl true) (fn1_of (frz_of rfl) rfl) rfl (andVT_of (x := .bl true) (notV_of (b := false) (fn1_of (frz_of rfl) rfl)) rfl (op_of (f := dGe) (frz_of rfl) c_of rfl)))]; rfl
  | bl b => rw [ret_of (andVT_of (x := .bl true) (fn1_of (frz_of rfl) rfl) rfl (andVF_of (x := .bl false) (notV_of (b := true) (fn1_of (frz_of rfl) rfl)) rfl))]; rfl
  | non => rw [ret_of (andVF_of (x := .bl false) (fn1_of (frz_of rfl) rfl) rfl)]; rfl
  | str s _ => rw [ret_of (andVF_of (x := .bl false) (fn1_of (frz_of rfl) rfl) rfl)]; rfl
  | lst ds _ _ => rw [ret_of (andVF_of (x := .bl false) (fn1_of (frz_of rfl) rfl) rfl)]; rfl
  | tup ds _ _ => rw [ret_of (andVF_of (x := .bl false) (fn1_of (frz_of rfl) rfl) rfl)]; rfl
theorem all_ticks {fn : List D → RF} {ds : List D} {τ : List Sl} (hf : ∀ d ∈ ds, fn [d] = .ok (.bl (tickB d)) [none]) (hz : ds.length ≤ 1000) :
    mFn dAll (mCons (mLc (mOn asS (mVar 0)) (gN 1) mYes (mCall [false] fn 1 0 [0] [] (aV (mVar 1) aNil) mNil) [1]) mNil) (.fz (.tup ds) :: .un :: τ) = .ok (.bl (ds.all tickB)) (.fz (.tup ds) :: .un :: τ) := by
  have lc : mLc (mOn asS (mVar 0)) (gN 1) mYes (mCall [false] fn 1 0 [0] [] (aV (mVar 1) aNil) mNil) [1] (.fz (.tup ds) :: .un :: τ) = .ok (.lst (ds.map fun d => .bl (tickB d))) (.fz (.tup ds) :: .un :: τ) :=
    lcA_map (f := fun d : D => d) (fun d => .bl (tickB d)) (on_of (frz_of (i := 0) rfl) (by show some ds = some (ds.map fun d => d); rw [List.map_id'])) (by omega) rfl fun d hd => ⟨.fz (.tup ds) :: .fz d :: τ, .fz (.tup ds) :: .fz d :: τ, .fz (.tup ds) :: .fz d :: τ, rfl, rfl, call1_of (frz_of (i := 1) rfl) (hf d hd), rfl⟩
  exact fn1_of lc (all_of (y := tickB) ds)
theorem len_tup {ds : List D} : dLen [.tup ds] = some (.int (ds.length : Nat)) := rfl
def stayB : D → Bool
  | .tup [.int a, .int b] => decide (0 ≤ a) && (decide (0 ≤ b) && decide (a ≤ b))
  | _ => false
def stayBody (fn : List D → RF) : MS := mSeq (mIfS (mOr (mNot (mB (mFn (dIsi "tuple") (mCons (mVar 0) mNil)))) (mOr (mB (mOp dNe (mFn dLen (mCons (mVar 0) mNil)) (mC (.int 2)))) (mNot (mB (mFn dAll (mCons (mLc (mOn asS (mVar 0)) (gN 1) mYes (mCall [false] fn 1 0 [0] [] (aV (mVar 1) aNil) mNil) [1]) mNil)))))) (mRet (mC (.bl false))) mNx)
  (mRet (mOp dLe (mPk 0 dIx (mC (.int 0))) (mPk 0 dIx (mC (.int 1)))))
theorem stay_is : f_is_stay = mkF 2 [false] (stayBody f_is_tick) := rfl
theorem pair_is : f_is_pair = mkF 2 [false] (stayBody f_is_count) := rfl
theorem stay_body {fn : List D → RF} {d : D} (hf : ∀ d, Pl d → fn [d] = .ok (.bl (tickB d)) [none]) (h : Pl d) : mkF 2 [false] (stayBody fn) [d] = .ok (.bl (stayB d)) [none] := by
  rw [mkF_fin]
  refine Eq.trans (if_pos rfl) ?_
  show fin [false] (stayBody fn [.fz d, .un]) = _
  unfold stayBody
  have no : dIsi "tuple" [d] = some (.bl false) → stayB d = false → fin [false] (mSeq (mIfS (mOr (mNot (mB (mFn (dIsi "tuple") (mCons (mVar 0) mNil)))) (mOr (mB (mOp dNe (mFn dLen (mCons (mVar 0) mNil)) (mC (.int 2)))) (mNot (mB (mFn dAll (mCons (mLc (mOn asS (mVar 0)) (gN 1) mYes (mCall [false] fn 1 0 [0] [] (aV (mVar 1) aNil) mNil) [1]) mNil)))))) (mRet (mC (.bl false))) mNx)
      (mRet (mOp dLe (mPk 0 dIx (mC (.int 0))) (mPk 0 dIx (mC (.int 1))))) [.fz d, .un]) = .ok (.bl (stayB d)) [none] := fun h1 h2 => by
    rw [seqR_of (by rw [ifT_of (orT_of (not_of (c := false) (bool_of (fn1_of (frz_of (i := 0) rfl) h1))))]; exact ret_of c_of), h2]
    rfl
  cases h with
  | int i => exact no rfl rfl
  | bl b => exact no rfl rfl
  | non => exact no rfl rfl
  | str s _ => exact no rfl rfl
  | lst ds _ _ => exact no rfl rfl
  | tup ds hz hd =>
    have at_ := all_ticks (fn := fn) (τ := []) (fun d m => hf d (hd d m)) hz
    have ln : mB (mOp dNe (mFn dLen (mCons (mVar 0) mNil)) (mC (.int 2))) [.fz (.tup ds), .un] = .ok (!decide ((ds.length : Int) = 2)) [.fz (.tup ds), .un] := bool_of (op_of (fn1_of (frz_of (i := 0) rfl) len_tup) c_of (neI _ _))
    by_cases h2 : ds.length = 2
    · match ds, h2, hd, at_, ln with
      | [a, b], _, hd, at_, ln =>
        by_cases ht : ([a, b].all tickB) = true
        · rw [ht] at at_
          have ta : tickB a = true := by simp at ht; exact ht.1
          have tb : tickB b = true := by simp at ht; exact ht.2
          obtain ⟨x, rfl⟩ : ∃ x, a = .int x := by cases hd a (by simp) <;> first | exact ⟨_, rfl⟩ | cases ta
          obtain ⟨y, rfl⟩ : ∃ y, b = .int y := by cases hd b (by simp) <;> first | exact ⟨_, rfl⟩ | cases tb
          have ta : decide (0 ≤ x) = true := ta
          have tb : decide (0 ≤ y) = true := tb
          rw [seq_of (by rw [ifF_of (orF_of (not_of (c := true) (bool_of (fn1_of (frz_of (i := 0) rfl) rfl))) (orF_of ln (not_of (c := true) (bool_of at_))))]; rfl)]
          rw [ret_of (op_of (f := dLe) (pk_of (x := .tup [.int x, .int y]) rfl c_of rfl rfl) (pk_of (x := .tup [.int x, .int y]) rfl c_of rfl rfl) rfl)]
          show RF.ok (.bl (decide (x ≤ y))) _ = .ok (.bl (decide (0 ≤ x) && (decide (0 ≤ y) && decide (x ≤ y)))) _
          rw [ta, tb]; rfl
        · have ht : ([a, b].all tickB) = false := by simpa using ht
          rw [ht] at at_
          rw [seqR_of (by rw [ifT_of (orF_of (not_of (c := true) (bool_of (fn1_of (frz_of (i := 0) rfl) rfl))) (orF_of ln (not_of (c := false) (bool_of at_))))]; exact ret_of c_of)]
          have : stayB (.tup [a, b]) = false := by
            cases hs : stayB (.tup [a, b]) with
            | false => rfl
            | true =>
              exfalso
              unfold stayB at hs
              split at hs
              · rename_i x y e
                cases e
                simp only [Bool.and_eq_true, decide_eq_true_eq] at hs
                have : ([D.int x, D.int y].all tickB) = true := by simp [tickB, hs.1, hs.2.1]
                rw [ht] at this; cases this
              · cases hs
          rw [this]; rfl
    · rw [decide_eq_false (by omega)] at ln
      rw [seqR_of (by rw [ifT_of (orF_of (not_of (c := true) (bool_of (fn1_of (frz_of (i := 0) rfl) rfl))) (orT_of ln))]; exact ret_of c_of)]
      have : stayB (.tup ds) = false := by
        unfold stayB
        split
        · rename_i a b e
          cases e
          exact absurd rfl h2
        · rfl
      rw [this]; rfl
theorem stay29 {d : D} (h : Pl d) : f_is_stay [d] = .ok (.bl (stayB d)) [none] := by
  rw [stay_is]; exact stay_body (fun d h => tick29 h) h
theorem pair29 {d : D} (h : Pl d) : f_is_pair [d] = .ok (.bl (stayB d)) [none] := by
  rw [pair_is]; exact stay_body (fun d h => count29 h) h
end Sm
set_option Elab.async false
set_option linter.all false
set_option maxRecDepth 100000
set_option maxHeartbeats 1000000
namespace Sm
open PySem PySem.Spec PyProof.Rows L2
theorem intsD_map29 : ∀ ns : List Int, intsD (ns.map .int) = some ns
  | [] => rfl
  | n :: ns => by
    show (intsD (ns.map .int)).map (n :: ·) = _
    rw [intsD_map29 ns]; rfl
theorem intsD_some29 : ∀ {ds : List D} {ns : List Int}, intsD ds = some ns → ds = ns.map .int
  | [], ns, h => by cases h; rfl
  | .int i :: ds, ns, h => by
    obtain ⟨ms, e, rfl⟩ := Option.map_eq_some_iff.mp (show (intsD ds).map (i :: ·) = some ns from h)
    rw [intsD_some29 e]; rfl
theorem ticks_ints : ∀ {ds : List D}, (ds.all tickB) = true → ∃ ns : List Int, ds = ns.map .int ∧ ∀ n ∈ ns, 0 ≤ n
  | [], _ => ⟨[], rfl, fun _ h => nomatch h⟩
  | d :: ds, h => by
    rw [List.all_cons, Bool.and_eq_true] at h
    obtain ⟨ns, e, hn⟩ := ticks_ints h.2
    cases d with
    | int i =>
      have h1 : decide (0 ≤ i) = true := h.1
      exact ⟨i :: ns, by rw [e]; rfl, fun n hm => by
        rcases List.mem_cons.mp hm with rfl | hm
        · exact of_decide_eq_true h1
        · exact hn n hm⟩
    | _ => exact absurd h.1 (by simp [tickB])
theorem zip_prs29 : ∀ xs ys : List Int, zipD (xs.map .int) (ys.map .int) = (xs.zip ys).map ePr
  | [], _ => by cases ‹List Int› <;> rfl
  | _ :: _, [] => rfl
  | x :: xs, y :: ys => by
    show D.tup [.int x, .int y] :: zipD (xs.map .int) (ys.map .int) = ePr (x, y) :: (xs.zip ys).map ePr
    rw [zip_prs29]
theorem rise_zip : ∀ {xs : List Int}, (∀ p ∈ xs.zip (xs.drop 1), p.1 < p.2) ↔ xs.Pairwise (· < ·)
  | [] => ⟨fun _ => .nil, fun _ p h => by cases h⟩
  | [x] => ⟨fun _ => List.pairwise_singleton _ _, fun _ p h => by cases h⟩
  | x :: y :: xs => by
    have e : (x :: y :: xs).zip ((x :: y :: xs).drop 1) = (x, y) :: (y :: xs).zip ((y :: xs).drop 1) := rfl
    rw [e]
    have ih := rise_zip (xs := y :: xs)
    constructor
    · intro h
      have t := ih.mp fun p hp => h p (List.mem_cons_of_mem _ hp)
      have hxy : x < y := h (x, y) List.mem_cons_self
      refine List.pairwise_cons.mpr ⟨fun z hz => ?_, t⟩
      rcases List.mem_cons.mp hz with rfl | hz
      · exact hxy
      · have := (List.pairwise_cons.mp t).1 z hz
        omega
    · intro h p hp
      obtain ⟨h1, h2⟩ := List.pairwise_cons.mp h
      rcases List.mem_cons.mp hp with rfl | hp
      · exact h1 y List.mem_cons_self
      · exact ih.mpr h2 p hp
theorem rising29 {xs : List Int} (hz : xs.length ≤ 1000) : f_is_rising [.tup (xs.map .int)] = .ok (.bl (decide (xs.Pairwise (· < ·)))) [none] := by
  have zl : (xs.zip (xs.drop 1)).length ≤ 16000000 := by rw [List.length_zip]; omega
  have it : mOns zip2 (mCons (mVar 0) (mCons (mSlP 0 (oSome (mC (.int 1))) oNone) mNil)) [.fz (.tup (xs.map .int)), .un, .un] = .ok ((xs.zip (xs.drop 1)).map ePr) [.fz (.tup (xs.map .int)), .un, .un] := by
    have sl : mSlP 0 (oSome (mC (.int 1))) oNone [.fz (.tup (xs.map .int)), .un, .un] = .ok (.tup ((xs.drop 1).map .int)) [.fz (.tup (xs.map .int)), .un, .un] := by
      show Res.lift (some (D.tup (cutD (xs.map .int) (some ((1 : Nat) : Int)) none))) _ = _
      rw [cut_b, ← List.map_drop]; rfl
    refine ons_of (cons_of (frz_of rfl) (cons_of sl nil_of)) ?_
    show some (zipD (xs.map .int) ((xs.drop 1).map .int)) = _
    rw [zip_prs29]
  have lc : mLc (mOns zip2 (mCons (mVar 0) (mCons (mSlP 0 (oSome (mC (.int 1))) oNone) mNil))) (gT 2 (Sm.gCons (gN 1) (Sm.gCons (gN 2) Sm.gNil))) mYes (mOp dLt (mVar 1) (mVar 2)) [1, 2] [.fz (.tup (xs.map .int)), .un, .un] = .ok (.lst ((xs.zip (xs.drop 1)).map fun p => .bl (decide (p.1 < p.2)))) [.fz (.tup (xs.map .int)), .un, .un] :=
    lcA_map (f := ePr) (S := [.fz (.tup (xs.map .int)), .un, .un]) (fun p => .bl (decide (p.1 < p.2))) it zl rfl fun p _ => ⟨[.fz (.tup (xs.map .int)), .fz (.int p.1), .fz (.int p.2)], [.fz (.tup (xs.map .int)), .fz (.int p.1), .fz (.int p.2)], [.fz (.tup (xs.map .int)), .fz (.int p.1), .fz (.int p.2)], rfl, rfl, op_of (frz_of rfl) (frz_of rfl) rfl, rfl⟩
  have e := all_of (y := fun p : PI => decide (p.1 < p.2)) (xs.zip (xs.drop 1))
  have e2 : ((xs.zip (xs.drop 1)).all fun p => decide (p.1 < p.2)) = decide (xs.Pairwise (· < ·)) := by
    rw [Bool.eq_iff_iff, List.all_eq_true, decide_eq_true_iff, ← rise_zip]
    exact ⟨fun h p hp => of_decide_eq_true (h p hp), fun h p hp => decide_eq_true (h p hp)⟩
  rw [e2] at e
  rw [f_is_rising, mkF_fin]
  refine Eq.trans (if_pos rfl) ?_
  show fin [false] (b_is_rising [.fz (.tup (xs.map .int)), .un, .un]) = _
  unfold b_is_rising
  rw [ret_of (fn1_of lc e)]
  rfl
def rowB : D → Bool
  | .tup ds => match intsD ds with
    | some ns => (ns.all fun n => decide (0 ≤ n)) && decide (ns.Pairwise (· < ·))
    | none => false
  | _ => false
theorem row_ints {ns : List Int} (h : ∀ n ∈ ns, 0 ≤ n) : rowB (.tup (ns.map .int)) = decide (ns.Pairwise (· < ·)) := by
  show (match intsD (ns.map .int) with
    | some ns => (ns.all fun n => decide (0 ≤ n)) && decide (ns.Pairwise (· < ·))
    | none => false) = _
  rw [intsD_map29]
  show ((ns.all fun n => decide (0 ≤ n)) && decide (ns.Pairwise (· < ·))) = _
  rw [List.all_eq_true.mpr fun n hn => decide_eq_true (h n hn)]; rfl
theorem row_no {ds : List D} (h : (ds.all tickB) = false) : rowB (.tup ds) = false := by
  show (match intsD ds with
    | some ns => (ns.all fun n => decide (0 ≤ n)) && decide (ns.Pairwise (· < ·))
    | none => false) = _
  cases e : intsD ds with
  | none => rfl
  | some ns =>
    have e2 := intsD_some29 e
    have : (ns.all fun n => decide (0 ≤ n)) = false := by
      rw [e2, List.all_map] at h
      exact h
    show ((ns.all fun n => decide (0 ≤ n)) && decide (ns.Pairwise (· < ·))) = false
    rw [this]; rfl
theorem sort_iff {ns : List Int} : ns = sortU ns ↔ ns.Pairwise (· < ·) :=
  ⟨fun h => by rw [h]; exact sortU_pw ns, fun h => rising_eq h (sortU_pw ns) fun k => sortU_mem.symm⟩
theorem table29 {d : D} (h : Pl d) : f_is_timetable [d] = .ok (.bl (rowB d)) [none] := by
  rw [f_is_timetable, mkF_fin]
  refine Eq.trans (if_pos rfl) ?_
  show fin [false] (b_is_timetable [.fz d, .un]) = _
  unfold b_is_timetable
  cases h with
  | int i => rw [ret_of (andVF_of (x := .bl false) (fn1_of (frz_of rfl) rfl) rfl)]; rfl
  | bl b => rw [ret_of (andVF_of (x := .bl false) (fn1_of (frz_of rfl) rfl) rfl)]; rfl
  | non => rw [ret_of (andVF_of (x := .bl false) (fn1_of (frz_of rfl) rfl) rfl)]; rfl
  | str s _ => rw [ret_of (andVF_of (x := .bl false) (fn1_of (frz_of rfl) rfl) rfl)]; rfl
  | lst ds _ _ => rw [ret_of (andVF_of (x := .bl false) (fn1_of (frz_of rfl) rfl) rfl)]; rfl
  | tup ds hz hd =>
    have at_ := all_ticks (fn := f_is_tick) (τ := []) (fun d m => tick29 (hd d m)) hz
    cases ht : ds.all tickB with
    | false =>
      rw [ht] at at_
      rw [ret_of (andVT_of (x := .bl true) (fn1_of (frz_of (i := 0) rfl) rfl) rfl (andVF_of (x := .bl false) at_ rfl)), row_no ht]; rfl
    | true =>
      rw [ht] at at_
      obtain ⟨ns, rfl, hn⟩ := ticks_ints ht
      rw [ret_of (andVT_of (x := .bl true) (fn1_of (frz_of (i := 0) rfl) rfl) rfl (andVT_of (x := .bl true) at_ rfl (call1_of (frz_of (i := 0) rfl) (rising29 (by rw [List.length_map] at hz; exact hz))))), row_ints hn]; rfl
theorem row29 {d : D} (h : Pl d) : f_is_row [d] = .ok (.bl (rowB d)) [none] := by
  rw [f_is_row, mkF_fin]
  refine Eq.trans (if_pos rfl) ?_
  show fin [false] (b_is_row [.fz d, .un]) = _
  have no : dIsi "tuple" [d] = some (.bl false) → rowB d = false → fin [false] (b_is_row [.fz d, .un]) = .ok (.bl (rowB d)) [none] := fun h1 h2 => by
    have s0 : b_is_row_0 [.fz d, .un] = .rt (.bl false) [.fz d, .un] := by
      rw [b_is_row_0, ifT_of (orT_of (not_of (c := false) (bool_of (fn1_of (frz_of (i := 0) rfl) h1))))]; exact ret_of c_of
    rw [b_is_row, seqR_of s0, h2]
    rfl
  cases h with
  | int i => exact no rfl rfl
  | bl b => exact no rfl rfl
  | non => exact no rfl rfl
  | str s _ => exact no rfl rfl
  | lst ds _ _ => exact no rfl rfl
  | tup ds hz hd =>
    have at_ := all_ticks (fn := f_is_count) (τ := []) (fun d m => count29 (hd d m)) hz
    cases ht : ds.all tickB with
    | false =>
      rw [ht] at at_
      have s0 : b_is_row_0 [.fz (.tup ds), .un] = .rt (.bl false) [.fz (.tup ds), .un] := by
        rw [b_is_row_0, ifT_of (orF_of (not_of (c := true) (bool_of (fn1_of (frz_of (i := 0) rfl) rfl))) (not_of (c := false) (bool_of at_)))]; exact ret_of c_of
      rw [b_is_row, seqR_of s0, row_no ht]; rfl
    | true =>
      rw [ht] at at_
      obtain ⟨ns, rfl, hn⟩ := ticks_ints ht
      rw [List.length_map] at hz
      have s0 : b_is_row_0 [.fz (.tup (ns.map .int)), .un] = .nx [.fz (.tup (ns.map .int)), .un] := by
        rw [b_is_row_0, ifF_of (orF_of (not_of (c := true) (bool_of (fn1_of (frz_of (i := 0) rfl) rfl))) (not_of (c := true) (bool_of at_)))]; rfl
      have st : dSet7 [.tup (ns.map .int)] = some (.set ((sortU ns).map .int)) := by
        show (intsD (ns.map .int)).bind (fun ns => if ns.length < 2000 then some (D.set ((sortU ns).map .int)) else none) = _
        rw [intsD_map29]
        exact if_pos (by omega)
      have sl := sortU_len ns
      have so := sorted_set_ints (ks := sortU ns) (by omega)
      have eq : dEq (.lst (ns.map .int)) (.lst ((sortU ns).map .int)) = some (.bl (decide (ns = sortU ns))) := Enc.int.lst.eq (by decide) ns (sortU ns)
      have s1 : b_is_row_1 [.fz (.tup (ns.map .int)), .un] = .rt (.bl (decide (ns = sortU ns))) [.fz (.tup (ns.map .int)), .un] := by
        rw [b_is_row_1]
        exact ret_of (op_of (fnF1_of (F := nList) (frz_of (i := 0) rfl) rfl) (fnF1_of (F := nSorted5) (fn1_of (F := dSet7) (frz_of (i := 0) rfl) st) so) eq)
      rw [b_is_row, seq_of s0, s1, row_ints hn, decide_eq_decide.mpr sort_iff]
      rfl
end Sm
set_option Elab.async false
set_option linter.all false
set_option maxRecDepth 100000
set_option maxHeartbeats 1000000
namespace Sm
open PySem PySem.Spec PyProof.Rows L2
abbrev sNew : Str := "new"
abbrev sLon : Str := "longer"
abbrev sSpl : Str := "split"
abbrev sCro : Str := "cross"
theorem okT_w : okT sNew = true ∧ okT sLon = true ∧ okT sSpl = true ∧ okT sCro = true := by decide +kernel
def move3 (w : Str) (a b : Int) (m : D) : Bool :=
  if w = sSpl then (match m with | .int k => decide (0 ≤ k) && (decide (a ≤ k) && decide (k < b)) | _ => false)
  else if w = sLon then (match m with | .tup [.int c, .int e] => stayB (.tup [.int c, .int e]) && (decide (c ≤ a) && (decide (b ≤ e) && decide (b - a < e - c))) | _ => false)
  else if w = sCro then (match m with | .tup [.int c, .int e] => stayB (.tup [.int c, .int e]) && (decide (a < c) && decide (e < b)) | _ => false)
  else false
def moveB : D → Bool
  | .tup [.str w, s] => stayB s && decide (w = sNew)
  | .tup [.str w, .tup [.int a, .int b], m] => stayB (.tup [.int a, .int b]) && move3 w a b m
  | _ => false
theorem stay_form {d : D} (h : stayB d = true) : ∃ a b, d = .tup [.int a, .int b] ∧ 0 ≤ a ∧ 0 ≤ b ∧ a ≤ b := by
  unfold stayB at h
  split at h
  · rename_i a b
    simp only [Bool.and_eq_true, decide_eq_true_eq] at h
    exact ⟨a, b, rfl, h.1, h.2.1, h.2.2⟩
  · cases h
theorem move_no2 {x s : D} (h : stayB s = false) : moveB (.tup [x, s]) = false := by
  unfold moveB
  split
  · rename_i w t e
    cases e
    rw [h]; rfl
  · rename_i e
    cases e
  · rfl
theorem move_no3 {x s m : D} (h : stayB s = false) : moveB (.tup [x, s, m]) = false := by
  unfold moveB
  split
  · rename_i e
    cases e
  · rename_i w a b t e
    cases e
    rw [h]; rfl
  · rfl
theorem lays29 : ∀ {ns : List Str}, (∀ x ∈ ns, okT x = true) → PyData.canLayAll0 (ns.map PyData.str) = true
  | [], _ => rfl
  | x :: ns, h => by
    show (PyData.canLay0 (.str x) && PyData.canLayAll0 (ns.map PyData.str)) = true
    rw [show PyData.canLay0 (.str x) = okT x from rfl, h x List.mem_cons_self, lays29 fun y hy => h y (List.mem_cons_of_mem _ hy)]; rfl
theorem deps29 : ∀ ns : List Str, PyData.depthAll (ns.map PyData.str) ≤ 0
  | [] => Nat.le_refl _
  | x :: ns => by
    show max (PyData.depth (.str x)) (PyData.depthAll (ns.map PyData.str)) ≤ 0
    exact Nat.max_le.mpr ⟨Nat.le_refl _, deps29 ns⟩
theorem pys29 : ∀ ns : List Str, D.pys (ns.map D.str) = some (ns.map PyData.str)
  | [] => rfl
  | x :: ns => by
    show ((D.py (.str x)).bind fun p => (D.pys (ns.map D.str)).map (p :: ·)) = _
    rw [pys29 ns]; rfl
theorem notin29 {n : Str} {ns : List Str} (hn : okT n = true) (h : ∀ x ∈ ns, okT x = true) : dNotIn2 (.str n) (.tup (ns.map D.str)) = some (.bl (!decide (n ∈ ns))) := by
  have sh : SeqAt.shaped (.list (ns.map PyData.str)) = true := Bool.and_eq_true_iff.mpr ⟨lays29 h, decide_eq_true (Nat.le_trans (Nat.succ_le_succ (deps29 ns)) (by decide))⟩
  have e : inD (.str n) (.lst (ns.map D.str)) = some (decide (n ∈ ns)) := by
    show inDs (D.py (.str n)) (D.pys (ns.map D.str)) = _
    rw [pys29]
    show (if SeqAt.shaped (.str n) = true ∧ SeqAt.shaped (.list (ns.map PyData.str)) = true then some ((ns.map PyData.str).any fun z => PyData.eqv z (.str n)) else none) = _
    rw [if_pos ⟨shaped_str hn, sh⟩]
    congr 1
    rw [Bool.eq_iff_iff, List.any_map, List.any_eq_true, decide_eq_true_iff]
    constructor
    · rintro ⟨x, hx, e⟩
      have e : decide (x = n) = true := e
      rw [← of_decide_eq_true e]; exact hx
    · intro hx
      exact ⟨n, hx, show decide (n = n) = true from decide_eq_true rfl⟩
  show (inD (.str n) (.lst (ns.map D.str))).map (fun k => D.bl (!k)) = _
  rw [e]; rfl
theorem chB_of {f g : D → D → Option D} {τ : List Sl} {ma mb mc : M D} {a b c : D} {p q : Bool} (h1 : ma τ = .ok a τ) (h2 : mb τ = .ok b τ) (h3 : mc τ = .ok c τ) (e1 : f a b = some (.bl p)) (e2 : g b c = some (.bl q)) : mCh f g ma mb mc τ = .ok (.bl (p && q)) τ := by
  show (ma τ).bind _ = _
  rw [h1]
  show (mb τ).bind _ = _
  rw [h2]
  show ((Res.lift ((f a b).bind asB) τ).bind _) = _
  rw [e1]
  cases p with
  | false => rfl
  | true =>
    show (mc τ).bind _ = _
    rw [h3]
    show Res.lift (g b c) τ = _
    rw [e2]; rfl
theorem andB_of {τ τ1 : List Sl} {ma mb : M D} {p q : Bool} (h : ma τ = .ok (.bl p) τ1) (h2 : p = true → mb τ1 = .ok (.bl q) τ1) : mAndV ma mb τ = .ok (.bl (p && q)) τ1 := by
  cases p with
  | false => exact andVF_of h rfl
  | true => exact andVT_of h rfl (h2 rfl)
abbrev pr2 (a b : Int) : D := .tup [.int a, .int b]
theorem lies29 {a b c e : Int} : f_lies_in [pr2 a b, pr2 c e] = .ok (.bl (decide (c ≤ a) && decide (b ≤ e))) [none, none] := by
  rw [f_lies_in, mkF_fin]
  refine Eq.trans (if_pos rfl) ?_
  show fin [false, false] (b_lies_in [.fz (pr2 a b), .fz (pr2 c e)]) = _
  unfold b_lies_in
  rw [ret_of (andB_of (q := decide (b ≤ e)) (op_of (f := dLe) (z := .bl (decide (c ≤ a))) (pk_of (f := dIx) (i := 1) (mb := mC (.int 0)) (x := pr2 c e) (z := .int c) rfl c_of rfl rfl) (pk_of (f := dIx) (i := 0) (mb := mC (.int 0)) (x := pr2 a b) (z := .int a) rfl c_of rfl rfl) rfl) fun _ => op_of (f := dLe) (pk_of (f := dIx) (i := 0) (mb := mC (.int 1)) (x := pr2 a b) (z := .int b) rfl c_of rfl rfl) (pk_of (f := dIx) (i := 1) (mb := mC (.int 1)) (x := pr2 c e) (z := .int e) rfl c_of rfl rfl) rfl)]
  rfl
theorem size29 {a b : Int} : f_size_of [pr2 a b] = .ok (.int (b - a + 1)) [none] := by
  rw [f_size_of, mkF_fin]
  refine Eq.trans (if_pos rfl) ?_
  show fin [false] (b_size_of [.fz (pr2 a b)]) = _
  unfold b_size_of
  rw [ret_of (op_of (f := dAdd) (op_of (f := dSub) (pk_of (f := dIx) (i := 0) (mb := mC (.int 1)) (x := pr2 a b) (z := .int b) rfl c_of rfl rfl) (pk_of (f := dIx) (i := 0) (mb := mC (.int 0)) (x := pr2 a b) (z := .int a) rfl c_of rfl rfl) rfl) c_of rfl)]
  rfl
theorem wider29 {a b c e : Int} : f_is_wider [pr2 a b, pr2 c e] = .ok (.bl (decide (c ≤ a) && (decide (b ≤ e) && decide (b - a < e - c)))) [none, none] := by
  rw [f_is_wider, mkF_fin]
  refine Eq.trans (if_pos rfl) ?_
  show fin [false, false] (b_is_wider [.fz (pr2 a b), .fz (pr2 c e)]) = _
  unfold b_is_wider
  rw [ret_of (andB_of (q := decide (b - a + 1 < e - c + 1)) (call2_of (frz_of (i := 0) rfl) (frz_of (i := 1) rfl) lies29) fun _ => op_of (f := dLt) (call1_of (frz_of (i := 0) rfl) size29) (call1_of (frz_of (i := 1) rfl) size29) rfl)]
  have : decide (b - a + 1 < e - c + 1) = decide (b - a < e - c) := decide_eq_decide.mpr (by omega)
  rw [this, Bool.and_assoc]
  rfl
section
variable {x s m : D} {ds : List D}
theorem m0_no {d : D} (h : dIsi "tuple" [d] = some (.bl false)) : f_is_move [d] = .ok (.bl false) [none] := by
  rw [f_is_move, mkF_fin]
  refine Eq.trans (if_pos rfl) ?_
  show fin [false] (b_is_move [.fz d, .un, .un, .un]) = _
  have s0 : b_is_move_0 [.fz d, .un, .un, .un] = .rt (.bl false) [.fz d, .un, .un, .un] := by
    rw [b_is_move_0, ifT_of (orT_of (not_of (c := false) (bool_of (fn1_of (frz_of (i := 0) rfl) h))))]; exact ret_of c_of
  rw [b_is_move, seqR_of s0]
  rfl
theorem m0_len (h : ¬ (2 ≤ ds.length ∧ ds.length ≤ 3)) : f_is_move [.tup ds] = .ok (.bl false) [none] := by
  rw [f_is_move, mkF_fin]
  refine Eq.trans (if_pos rfl) ?_
  show fin [false] (b_is_move [.fz (.tup ds), .un, .un, .un]) = _
  have ch := chB_of (τ := [.fz (.tup ds), .un, .un, .un]) (f := dLe) (g := dLe) (ma := mC (.int 2)) (mb := mFn dLen (mCons (mVar 0) mNil)) (mc := mC (.int 3)) (p := decide ((2 : Int) ≤ (ds.length : Nat))) (q := decide (((ds.length : Nat) : Int) ≤ 3)) c_of (fn1_of (frz_of (i := 0) rfl) len_tup) c_of rfl rfl
  have e : (decide ((2 : Int) ≤ (ds.length : Nat)) && decide (((ds.length : Nat) : Int) ≤ 3)) = false := by
    rw [Bool.and_eq_false_iff, decide_eq_false_iff_not, decide_eq_false_iff_not]
    omega
  rw [e] at ch
  have s0 : b_is_move_0 [.fz (.tup ds), .un, .un, .un] = .rt (.bl false) [.fz (.tup ds), .un, .un, .un] := by
    rw [b_is_move_0, ifT_of (orF_of (not_of (c := true) (bool_of (fn1_of (frz_of (i := 0) rfl) rfl))) (orT_of (not_of (c := false) (bool_of ch))))]; exact ret_of c_of
  rw [b_is_move, seqR_of s0]
  rfl
theorem m0_at (h : 2 ≤ ds.length ∧ ds.length ≤ 3) (hs : ds[1]? = some s) (ps : Pl s) : b_is_move_0 [.fz (.tup ds), .un, .un, .un] = if stayB s = true then .nx [.fz (.tup ds), .un, .un, .un] else .rt (.bl false) [.fz (.tup ds), .un, .un, .un] := by
  have ch := chB_of (τ := [.fz (.tup ds), .un, .un, .un]) (f := dLe) (g := dLe) (ma := mC (.int 2)) (mb := mFn dLen (mCons (mVar 0) mNil)) (mc := mC (.int 3)) (p := decide ((2 : Int) ≤ (ds.length : Nat))) (q := decide (((ds.length : Nat) : Int) ≤ 3)) c_of (fn1_of (frz_of (i := 0) rfl) len_tup) c_of rfl rfl
  rw [decide_eq_true (by omega : (2 : Int) ≤ (ds.length : Nat)), decide_eq_true (by omega : ((ds.length : Nat) : Int) ≤ 3)] at ch
  have ix : dIx (.tup ds) (.int 1) = some s := by
    have := at_nat (xs := ds) (f := fun d : D => d) (i := 1) hs
    rw [List.map_id'] at this
    exact this
  have st := call1_of (τ := [.fz (.tup ds), .un, .un, .un]) (ma := mPk 0 dIx (mC (.int 1))) (pk_of rfl c_of rfl ix) (stay29 ps)
  rw [b_is_move_0]
  cases hb : stayB s with
  | true =>
    rw [hb] at st
    rw [ifF_of (orF_of (not_of (c := true) (bool_of (fn1_of (frz_of (i := 0) rfl) rfl))) (orF_of (not_of (c := true) (bool_of ch)) (not_of (c := true) (bool_of st))))]
    rfl
  | false =>
    rw [hb] at st
    rw [ifT_of (orF_of (not_of (c := true) (bool_of (fn1_of (frz_of (i := 0) rfl) rfl))) (orF_of (not_of (c := true) (bool_of ch)) (not_of (c := false) (bool_of st))))]
    exact ret_of c_of
theorem move_two (px : Pl x) (ps : Pl s) : f_is_move [.tup [x, s]] = .ok (.bl (moveB (.tup [x, s]))) [none] := by
  rw [f_is_move, mkF_fin]
  refine Eq.trans (if_pos rfl) ?_
  show fin [false] (b_is_move [.fz (.tup [x, s]), .un, .un, .un]) = _
  have s0 := m0_at (ds := [x, s]) ⟨Nat.le_refl 2, Nat.le_succ 2⟩ rfl ps
  cases hb : stayB s with
  | false =>
    rw [hb] at s0
    rw [b_is_move, seqR_of (s0.trans (if_neg (by decide))), move_no2 hb]
    rfl
  | true =>
    rw [hb] at s0
    have ln : mB (mOp dEq (mFn dLen (mCons (mVar 0) mNil)) (mC (.int 2))) [.fz (.tup [x, s]), .un, .un, .un] = .ok true [.fz (.tup [x, s]), .un, .un, .un] := bool_of (op_of (fn1_of (frz_of (i := 0) rfl) len_tup) c_of (eqI _ _))
    have pk : mPk 0 dIx (mC (.int 0)) [.fz (.tup [x, s]), .un, .un, .un] = .ok x [.fz (.tup [x, s]), .un, .un, .un] := pk_of rfl c_of rfl rfl
    have fin_ : ∀ b : Bool, (mAndV (mFn (dIsi "str") (mCons (mPk 0 dIx (mC (.int 0))) mNil)) (mOp dEq (mPk 0 dIx (mC (.int 0))) (mC (.str "new")))) [.fz (.tup [x, s]), .un, .un, .un] = .ok (.bl b) [.fz (.tup [x, s]), .un, .un, .un] → moveB (.tup [x, s]) = b →
        fin [false] (b_is_move [.fz (.tup [x, s]), .un, .un, .un]) = .ok (.bl (moveB (.tup [x, s]))) [none] := fun b h1 h2 => by
      have s1 : b_is_move_1 [.fz (.tup [x, s]), .un, .un, .un] = .rt (.bl b) [.fz (.tup [x, s]), .un, .un, .un] := by
        rw [b_is_move_1, ifT_of ln, ret_of h1]
      rw [b_is_move, seq_of (s0.trans (if_pos rfl)), seqR_of s1, h2]
      rfl
    have no : dIsi "str" [x] = some (.bl false) → moveB (.tup [x, s]) = false → fin [false] (b_is_move [.fz (.tup [x, s]), .un, .un, .un]) = .ok (.bl (moveB (.tup [x, s]))) [none] := fun h1 h2 => fin_ false (andVF_of (fn1_of pk h1) rfl) h2
    cases px with
    | str w hw =>
      refine fin_ (decide (w = sNew)) (andVT_of (x := .bl true) (fn1_of pk rfl) rfl (op_of pk c_of (eq_str hw okT_w.1))) ?_
      show (stayB s && decide (w = sNew)) = _
      rw [hb]; rfl
    | int i => exact no rfl rfl
    | bl b => exact no rfl rfl
    | non => exact no rfl rfl
    | lst ds _ _ => exact no rfl rfl
    | tup ds _ _ => exact no rfl rfl
end
end Sm
set_option Elab.async false
set_option linter.all false
set_option maxRecDepth 100000
set_option maxHeartbeats 1000000
namespace Sm
open PySem PySem.Spec PyProof.Rows L2
section
variable {x s m : D} {w : Str} {a b : Int}
theorem okT_lc : ∀ y ∈ [sLon, sCro], okT y = true := by decide +kernel
theorem nostr_no {x s m : D} (h : ∀ w, x ≠ .str w) : moveB (.tup [x, s, m]) = false := by
  unfold moveB
  split
  · rename_i e; cases e
  · rename_i w a b t e
    cases e
    exact absurd rfl (h w)
  · rfl
def M4 (x s m : D) : List Sl := [.fz (.tup [x, s, m]), .fz x, .fz s, .fz m]
theorem eqS {n : Str} {k : Str} {i : Nat} {τ : List Sl} (hn : okT n = true) (hk : okT k = true) (h : τ[i]? = some (.fz (.str n))) : mB (mOp dEq (mVar i) (mC (.str k))) τ = .ok (decide (n = k)) τ := bool_of (op_of (frz_of h) c_of (eq_str hn hk))
theorem m456 (hw : okT w = true) (pm : Pl m) (h0 : 0 ≤ a) (h1 : 0 ≤ b) (hab : a ≤ b) : fin [false] (mSeq b_is_move_4 (mSeq b_is_move_5 b_is_move_6) (M4 (.str w) (pr2 a b) m)) = .ok (.bl (move3 w a b m)) [none] := by
  have k0 : mPk 2 dIx (mC (.int 0)) (M4 (.str w) (pr2 a b) m) = .ok (.int a) (M4 (.str w) (pr2 a b) m) := pk_of (f := dIx) (i := 2) (mb := mC (.int 0)) (x := pr2 a b) rfl c_of rfl rfl
  have k1 : mPk 2 dIx (mC (.int 1)) (M4 (.str w) (pr2 a b) m) = .ok (.int b) (M4 (.str w) (pr2 a b) m) := pk_of (f := dIx) (i := 2) (mb := mC (.int 1)) (x := pr2 a b) rfl c_of rfl rfl
  have e4 := eqS (i := 1) (τ := M4 (.str w) (pr2 a b) m) hw okT_w.2.2.1 rfl
  by_cases c4 : w = sSpl
  · subst c4
    have tk := call1_of (τ := M4 (.str sSpl) (pr2 a b) m) (ma := mVar 3) (frz_of (i := 3) rfl) (tick29 pm)
    have done : ∀ v : Bool, (mAndV (mCall [false] f_is_tick 1 0 [0] [] (aV (mVar 3) aNil) mNil) (mCh dLe dLt (mPk 2 dIx (mC (.int 0))) (mVar 3) (mPk 2 dIx (mC (.int 1))))) (M4 (.str sSpl) (pr2 a b) m) = .ok (.bl v) (M4 (.str sSpl) (pr2 a b) m) → move3 sSpl a b m = v →
        fin [false] (mSeq b_is_move_4 (mSeq b_is_move_5 b_is_move_6) (M4 (.str sSpl) (pr2 a b) m)) = .ok (.bl (move3 sSpl a b m)) [none] := fun v h2 h3 => by
      have s4 : b_is_move_4 (M4 (.str sSpl) (pr2 a b) m) = .rt (.bl v) (M4 (.str sSpl) (pr2 a b) m) := by
        rw [b_is_move_4, ifT_of (by rw [e4]; rfl), ret_of h2]
      rw [seqR_of s4, h3]
      rfl
    have no : tickB m = false → move3 sSpl a b m = false → _ := fun h2 h3 => done false (andVF_of (x := .bl false) (by rw [h2] at tk; exact tk) rfl) h3
    cases pm with
    | int k =>
      refine done (decide (0 ≤ k) && (decide (a ≤ k) && decide (k < b))) (andB_of tk fun _ => chB_of (f := dLe) (g := dLt) k0 (frz_of (i := 3) rfl) k1 rfl rfl) ?_
      exact if_pos rfl
    | str z _ => exact no rfl (if_pos rfl)
    | bl z => exact no rfl (if_pos rfl)
    | non => exact no rfl (if_pos rfl)
    | lst z _ _ => exact no rfl (if_pos rfl)
    | tup z _ _ => exact no rfl (if_pos rfl)
  · have s4 : b_is_move_4 (M4 (.str w) (pr2 a b) m) = .nx (M4 (.str w) (pr2 a b) m) := by
      rw [b_is_move_4, ifF_of (by rw [e4, decide_eq_false c4])]
      rfl
    rw [seq_of s4]
    have ni : mB (mOp dNotIn2 (mVar 1) (mTup (mCons (mC (.str "longer")) (mCons (mC (.str "cross")) mNil)))) (M4 (.str w) (pr2 a b) m) = .ok (!decide (w ∈ [sLon, sCro])) (M4 (.str w) (pr2 a b) m) :=
      bool_of (op_of (frz_of (i := 1) rfl) (tup_of (cons_of c_of (cons_of c_of nil_of)) (by simp)) (notin29 (ns := [sLon, sCro]) hw okT_lc))
    have st := call1_of (τ := M4 (.str w) (pr2 a b) m) (ma := mVar 3) (frz_of (i := 3) rfl) (stay29 pm)
    by_cases c5 : w ∈ [sLon, sCro]
    · rw [decide_eq_true c5] at ni
      cases hm : stayB m with
      | false =>
        rw [hm] at st
        have s5 : b_is_move_5 (M4 (.str w) (pr2 a b) m) = .rt (.bl false) (M4 (.str w) (pr2 a b) m) := by
          rw [b_is_move_5, ifT_of (orF_of ni (not_of (c := false) (bool_of st)))]; exact ret_of c_of
        have e : move3 w a b m = false := by
          unfold move3
          rw [if_neg c4]
          split
          · split
            · rw [hm]; rfl
            · rfl
          · split
            · split
              · rw [hm]; rfl
              · rfl
            · rfl
        rw [seqR_of s5, e]
        rfl
      | true =>
        obtain ⟨c, e, rfl, hc, he, hce⟩ := stay_form hm
        rw [hm] at st
        have s5 : b_is_move_5 (M4 (.str w) (pr2 a b) (pr2 c e)) = .nx (M4 (.str w) (pr2 a b) (pr2 c e)) := by
          rw [b_is_move_5, ifF_of (orF_of ni (not_of (c := true) (bool_of st)))]; rfl
        rw [seq_of s5]
        have e6 := eqS (i := 1) (τ := M4 (.str w) (pr2 a b) (pr2 c e)) hw okT_w.2.1 rfl
        have k3 : mPk 3 dIx (mC (.int 0)) (M4 (.str w) (pr2 a b) (pr2 c e)) = .ok (.int c) (M4 (.str w) (pr2 a b) (pr2 c e)) := pk_of (f := dIx) (i := 3) (mb := mC (.int 0)) (x := pr2 c e) rfl c_of rfl rfl
        have k4 : mPk 3 dIx (mC (.int 1)) (M4 (.str w) (pr2 a b) (pr2 c e)) = .ok (.int e) (M4 (.str w) (pr2 a b) (pr2 c e)) := pk_of (f := dIx) (i := 3) (mb := mC (.int 1)) (x := pr2 c e) rfl c_of rfl rfl
        by_cases c6 : w = sLon
        · subst c6
          have s6 : b_is_move_6 (M4 (.str sLon) (pr2 a b) (pr2 c e)) = .rt (.bl (decide (c ≤ a) && (decide (b ≤ e) && decide (b - a < e - c)))) (M4 (.str sLon) (pr2 a b) (pr2 c e)) := by
            rw [b_is_move_6]
            refine ret_of ?_
            rw [if_of e6]
            exact (if_pos (by decide)).trans (call2_of (frz_of (i := 2) rfl) (frz_of (i := 3) rfl) wider29)
          have e3 : move3 sLon a b (pr2 c e) = (stayB (pr2 c e) && (decide (c ≤ a) && (decide (b ≤ e) && decide (b - a < e - c)))) := (if_neg c4).trans (if_pos rfl)
          rw [s6, e3, hm]
          rfl
        · have wc : w = sCro := by
            rcases List.mem_cons.mp c5 with z | z
            · exact absurd z c6
            · exact List.mem_singleton.mp z
          subst wc
          have s6 : b_is_move_6 (M4 (.str sCro) (pr2 a b) (pr2 c e)) = .rt (.bl (decide (a < c) && decide (e < b))) (M4 (.str sCro) (pr2 a b) (pr2 c e)) := by
            rw [b_is_move_6]
            refine ret_of ?_
            rw [if_of e6]
            exact (if_neg (by decide)).trans (andB_of (op_of (f := dLt) k0 k3 rfl) fun _ => op_of (f := dLt) k4 k1 rfl)
          have e3 : move3 sCro a b (pr2 c e) = (stayB (pr2 c e) && (decide (a < c) && decide (e < b))) := (if_neg c4).trans ((if_neg (by decide)).trans (if_pos rfl))
          rw [s6, e3, hm]
          rfl
    · rw [decide_eq_false c5] at ni
      have s5 : b_is_move_5 (M4 (.str w) (pr2 a b) m) = .rt (.bl false) (M4 (.str w) (pr2 a b) m) := by
        rw [b_is_move_5, ifT_of (orT_of ni)]; exact ret_of c_of
      have e : move3 w a b m = false := by
        unfold move3
        rw [if_neg c4, if_neg (fun z => c5 (by rw [z]; exact List.mem_cons_self)), if_neg (fun z => c5 (by rw [z]; exact List.mem_cons_of_mem _ List.mem_cons_self))]
      rw [seqR_of s5, e]
      rfl
theorem move_three (px : Pl x) (ps : Pl s) (pm : Pl m) : f_is_move [.tup [x, s, m]] = .ok (.bl (moveB (.tup [x, s, m]))) [none] := by
  rw [f_is_move, mkF_fin]
  refine Eq.trans (if_pos rfl) ?_
  show fin [false] (b_is_move [.fz (.tup [x, s, m]), .un, .un, .un]) = _
  have s0 := m0_at (ds := [x, s, m]) ⟨Nat.le_succ 2, Nat.le_refl 3⟩ rfl ps
  cases hb : stayB s with
  | false =>
    rw [hb] at s0
    rw [b_is_move, seqR_of (s0.trans (if_neg (by decide))), move_no3 hb]
    rfl
  | true =>
    rw [hb] at s0
    obtain ⟨a, b, rfl, h0, h1, hab⟩ := stay_form hb
    have ln : mB (mOp dEq (mFn dLen (mCons (mVar 0) mNil)) (mC (.int 2))) [.fz (.tup [x, pr2 a b, m]), .un, .un, .un] = .ok false [.fz (.tup [x, pr2 a b, m]), .un, .un, .un] := bool_of (op_of (fn1_of (frz_of (i := 0) rfl) len_tup) c_of (eqI _ _))
    have s1 : b_is_move_1 [.fz (.tup [x, pr2 a b, m]), .un, .un, .un] = .nx [.fz (.tup [x, pr2 a b, m]), .un, .un, .un] := by
      rw [b_is_move_1, ifF_of ln]; rfl
    have s2 : b_is_move_2 [.fz (.tup [x, pr2 a b, m]), .un, .un, .un] = .nx (M4 x (pr2 a b) m) := by
      rw [b_is_move_2]
      exact asg_of (frz_of (i := 0) rfl) rfl
    rw [b_is_move, seq_of (s0.trans (if_pos rfl)), seq_of s1, seq_of s2]
    have no : dIsi "str" [x] = some (.bl false) → (∀ w, x ≠ .str w) → fin [false] (mSeq b_is_move_3 (mSeq b_is_move_4 (mSeq b_is_move_5 b_is_move_6)) (M4 x (pr2 a b) m)) = .ok (.bl (moveB (.tup [x, pr2 a b, m]))) [none] := fun h2 h3 => by
      have s3 : b_is_move_3 (M4 x (pr2 a b) m) = .rt (.bl false) (M4 x (pr2 a b) m) := by
        rw [b_is_move_3, ifT_of (not_of (c := false) (bool_of (fn1_of (frz_of (i := 1) rfl) h2)))]; exact ret_of c_of
      rw [seqR_of s3, nostr_no h3]
      rfl
    cases px with
    | str w hw =>
      have s3 : b_is_move_3 (M4 (.str w) (pr2 a b) m) = .nx (M4 (.str w) (pr2 a b) m) := by
        rw [b_is_move_3, ifF_of (not_of (c := true) (bool_of (fn1_of (frz_of (i := 1) rfl) rfl)))]; rfl
      rw [seq_of s3, m456 hw pm h0 h1 hab]
      have e : moveB (.tup [.str w, pr2 a b, m]) = (stayB (pr2 a b) && move3 w a b m) := rfl
      rw [e, hb]
      rfl
    | int i => exact no rfl fun _ z => by cases z
    | bl z => exact no rfl fun _ z => by cases z
    | non => exact no rfl fun _ z => by cases z
    | lst z _ _ => exact no rfl fun _ z => by cases z
    | tup z _ _ => exact no rfl fun _ z => by cases z
theorem moveB_len {ds : List D} (h : ¬ (2 ≤ ds.length ∧ ds.length ≤ 3)) : moveB (.tup ds) = false := by
  unfold moveB
  split
  · rename_i w s e
    cases e
    exact absurd ⟨Nat.le_refl 2, Nat.le_succ 2⟩ h
  · rename_i w a b t e
    cases e
    exact absurd ⟨Nat.le_succ 2, Nat.le_refl 3⟩ h
  · rfl
theorem move29 {d : D} (h : Pl d) : f_is_move [d] = .ok (.bl (moveB d)) [none] := by
  cases h with
  | int i => exact m0_no rfl
  | bl b => exact m0_no rfl
  | non => exact m0_no rfl
  | str s _ => exact m0_no rfl
  | lst ds _ _ => exact m0_no rfl
  | tup ds hz hd =>
    by_cases h : 2 ≤ ds.length ∧ ds.length ≤ 3
    · match ds, h, hd with
      | [x, s], _, hd => exact move_two (hd x (by simp)) (hd s (by simp))
      | [x, s, m], _, hd => exact move_three (hd x (by simp)) (hd s (by simp)) (hd m (by simp))
      | [], h, _ => exact absurd h.1 (by decide)
      | [_], h, _ => exact absurd h.1 (by simp)
      | _ :: _ :: _ :: _ :: _, h, _ => exact absurd h.2 (by simp)
    · rw [moveB_len h]; exact m0_len h
end
end Sm
set_option Elab.async false
set_option linter.all false
set_option maxRecDepth 100000
set_option maxHeartbeats 1000000
namespace Sm
open PySem PySem.Spec PyProof.Rows L2
theorem okT_lsc : ∀ y ∈ [sLon, sSpl, sCro], okT y = true := by decide +kernel
section
variable {x s m : D} {ds : List D} {w : Str} {a b : Int}
abbrev Z3 (d : D) : List Sl := [.fz d, .un, .un]
theorem deed_rt {d : D} {v : Bool} {y : D} {τ : List Sl} (h : b_is_deed (Z3 d) = .rt (.bl v) (.fz y :: τ)) : f_is_deed [d] = .ok (.bl v) [none] := by
  rw [f_is_deed, mkF_fin]
  refine Eq.trans (if_pos rfl) ?_
  show fin [false] (b_is_deed (Z3 d)) = _
  rw [h]
  rfl
theorem d0_no {d : D} (h : dIsi "tuple" [d] = some (.bl false)) : f_is_deed [d] = .ok (.bl false) [none] := by
  have s0 : b_is_deed_0 (Z3 d) = .rt (.bl false) (Z3 d) := by
    rw [b_is_deed_0, ifT_of (orT_of (not_of (c := false) (bool_of (fn1_of (frz_of (i := 0) rfl) h))))]; exact ret_of c_of
  exact deed_rt (by rw [b_is_deed, seqR_of s0])
theorem d0_len (h : ds.length < 2) : f_is_deed [.tup ds] = .ok (.bl false) [none] := by
  have lt := bool_of (op_of (τ := Z3 (.tup ds)) (f := dLt) (z := .bl (decide (((ds.length : Nat) : Int) < 2))) (fn1_of (frz_of (i := 0) rfl) len_tup) (c_of (d := .int 2)) rfl)
  rw [decide_eq_true (by omega : ((ds.length : Nat) : Int) < 2)] at lt
  have s0 : b_is_deed_0 (Z3 (.tup ds)) = .rt (.bl false) (Z3 (.tup ds)) := by
    rw [b_is_deed_0, ifT_of (orF_of (not_of (c := true) (bool_of (fn1_of (frz_of (i := 0) rfl) rfl))) (orT_of lt))]; exact ret_of c_of
  exact deed_rt (by rw [b_is_deed, seqR_of s0])
theorem at_i {i : Nat} {y : D} (h : ds[i]? = some y) : dIx (.tup ds) (.int (i : Nat)) = some y := by
  have := at_nat (xs := ds) (f := fun d : D => d) (i := i) h
  rw [List.map_id'] at this
  exact this
theorem d0_at (h : 2 ≤ ds.length) (hx : ds[0]? = some x) (hs : ds[1]? = some s) (px : Pl x) (ps : Pl s) : (∃ w, x = .str w ∧ okT w = true ∧ stayB s = true ∧ b_is_deed_0 (Z3 (.tup ds)) = .nx (Z3 (.tup ds))) ∨ (((∀ w, x ≠ .str w) ∨ stayB s = false) ∧ b_is_deed_0 (Z3 (.tup ds)) = .rt (.bl false) (Z3 (.tup ds))) := by
  have lt := bool_of (op_of (τ := Z3 (.tup ds)) (f := dLt) (z := .bl (decide (((ds.length : Nat) : Int) < 2))) (fn1_of (frz_of (i := 0) rfl) len_tup) (c_of (d := .int 2)) rfl)
  rw [decide_eq_false (by omega : ¬ ((ds.length : Nat) : Int) < 2)] at lt
  have pk : mPk 0 dIx (mC (.int 0)) (Z3 (.tup ds)) = .ok x (Z3 (.tup ds)) := pk_of rfl c_of rfl (at_i (i := 0) hx)
  have st := call1_of (τ := Z3 (.tup ds)) (ma := mPk 0 dIx (mC (.int 1))) (pk_of rfl c_of rfl (at_i (i := 1) hs)) (pair29 ps)
  have no : dIsi "str" [x] = some (.bl false) → (∀ w, x ≠ .str w) → b_is_deed_0 (Z3 (.tup ds)) = .rt (.bl false) (Z3 (.tup ds)) := fun h1 _ => by
    rw [b_is_deed_0, ifT_of (orF_of (not_of (c := true) (bool_of (fn1_of (frz_of (i := 0) rfl) rfl))) (orF_of lt (orT_of (not_of (c := false) (bool_of (fn1_of pk h1))))))]; exact ret_of c_of
  cases px with
  | str w hw =>
    cases hb : stayB s with
    | true =>
      rw [hb] at st
      refine .inl ⟨w, rfl, hw, rfl, ?_⟩
      rw [b_is_deed_0, ifF_of (orF_of (not_of (c := true) (bool_of (fn1_of (frz_of (i := 0) rfl) rfl))) (orF_of lt (orF_of (not_of (c := true) (bool_of (fn1_of pk rfl))) (not_of (c := true) (bool_of st)))))]
      rfl
    | false =>
      rw [hb] at st
      refine .inr ⟨.inr rfl, ?_⟩
      rw [b_is_deed_0, ifT_of (orF_of (not_of (c := true) (bool_of (fn1_of (frz_of (i := 0) rfl) rfl))) (orF_of lt (orF_of (not_of (c := true) (bool_of (fn1_of pk rfl))) (not_of (c := false) (bool_of st)))))]
      exact ret_of c_of
  | int i => exact .inr ⟨.inl (fun _ z => nomatch z), no rfl (fun _ z => nomatch z)⟩
  | bl z => exact .inr ⟨.inl (fun _ z => nomatch z), no rfl (fun _ z => nomatch z)⟩
  | non => exact .inr ⟨.inl (fun _ z => nomatch z), no rfl (fun _ z => nomatch z)⟩
  | lst z _ _ => exact .inr ⟨.inl (fun _ z => nomatch z), no rfl (fun _ z => nomatch z)⟩
  | tup z _ _ => exact .inr ⟨.inl (fun _ z => nomatch z), no rfl (fun _ z => nomatch z)⟩
theorem moveB_bad (h : 2 ≤ ds.length) (hx : ds[0]? = some x) (hs : ds[1]? = some s) (no : (∀ w, x ≠ .str w) ∨ stayB s = false) : moveB (.tup ds) = false := by
  by_cases h3 : ds.length ≤ 3
  · match ds, h, h3, hx, hs with
    | [x', s'], _, _, hx, hs =>
      have e1 : x' = x := by simpa using hx
      have e2 : s' = s := by simpa using hs
      subst e1 e2
      rcases no with no | no
      · unfold moveB
        split
        · rename_i w s e; cases e; exact absurd rfl (no w)
        · rename_i e; cases e
        · rfl
      · exact move_no2 no
    | [x', s', m'], _, _, hx, hs =>
      have e1 : x' = x := by simpa using hx
      have e2 : s' = s := by simpa using hs
      subst e1 e2
      rcases no with no | no
      · exact nostr_no no
      · exact move_no3 no
    | [], h, _, _, _ => exact absurd h (by simp)
    | [_], h, _, _, _ => exact absurd h (by simp)
    | _ :: _ :: _ :: _ :: _, _, h, _, _ => exact absurd h (by simp)
  · exact moveB_len fun z => h3 z.2
theorem d_pk {i : Nat} {y : D} {τ : List Sl} (h : ds[i]? = some y) : mPk 0 dIx (mC (.int (i : Nat))) (.fz (.tup ds) :: τ) = .ok y (.fz (.tup ds) :: τ) := pk_of rfl c_of rfl (at_i h)
theorem d_eq {k : Str} {τ : List Sl} (hw : okT w = true) (hk : okT k = true) (h : ds[0]? = some (.str w)) : mB (mOp dEq (mPk 0 dIx (mC (.int 0))) (mC (.str k))) (.fz (.tup ds) :: τ) = .ok (decide (w = k)) (.fz (.tup ds) :: τ) := bool_of (op_of (d_pk (i := 0) h) c_of (eq_str hw hk))
theorem deed_body (h : 2 ≤ ds.length) (hw : okT w = true) (hx : ds[0]? = some (.str w)) (hs : ds[1]? = some (pr2 a b)) (hst : stayB (pr2 a b) = true) (hd : ∀ d ∈ ds, Pl d) :
    ∃ (y : D) (τ : List Sl), (mSeq b_is_deed_1 (mSeq b_is_deed_2 (mSeq b_is_deed_3 (mSeq b_is_deed_4 (mSeq b_is_deed_5 (mSeq b_is_deed_6 b_is_deed_7)))))) (Z3 (.tup ds)) = .rt (.bl (moveB (.tup ds))) (.fz y :: τ) := by
  have e1 := d_eq (τ := [.un, .un]) (k := sNew) hw okT_w.1 hx
  have sN : stayB (pr2 a b) = true := hst
  by_cases c1 : w = sNew
  · subst c1
    have s1 : b_is_deed_1 (Z3 (.tup ds)) = .rt (.bl (decide (((ds.length : Nat) : Int) = 2))) (Z3 (.tup ds)) := by
      rw [b_is_deed_1, ifT_of (by rw [e1]; rfl)]
      exact ret_of (op_of (fn1_of (frz_of (i := 0) rfl) len_tup) c_of (eqI _ _))
    have : decide (((ds.length : Nat) : Int) = 2) = moveB (.tup ds) := by
      by_cases h2 : ds.length = 2
      · rw [decide_eq_true (by omega)]
        match ds, h2, hx, hs with
        | [x', s'], _, hx, hs =>
          have e1 : x' = .str sNew := by simpa using hx
          have e2 : s' = pr2 a b := by simpa using hs
          subst e1 e2
          show true = (stayB (pr2 a b) && decide (sNew = sNew))
          rw [sN]; rfl
      · rw [decide_eq_false (by omega)]
        by_cases h3 : ds.length ≤ 3
        · match ds, h, h2, h3, hx, hs with
          | [x', s', m'], _, _, _, hx, hs =>
            have e1 : x' = .str sNew := by simpa using hx
            have e2 : s' = pr2 a b := by simpa using hs
            subst e1 e2
            show false = (stayB (pr2 a b) && move3 sNew a b m')
            have : move3 sNew a b m' = false := (if_neg (by decide)).trans ((if_neg (by decide)).trans (if_neg (by decide)))
            rw [this, sN]; rfl
          | [], h, _, _, _, _ => exact absurd h (by simp)
          | [_], h, _, _, _, _ => exact absurd h (by simp)
          | [_, _], _, h2, _, _, _ => exact absurd rfl h2
          | _ :: _ :: _ :: _ :: _, _, _, h, _, _ => exact absurd h (by simp)
        · exact (moveB_len fun z => h3 z.2).symm
    rw [this] at s1
    exact ⟨_, _, seqR_of s1⟩
  · have s1 : b_is_deed_1 (Z3 (.tup ds)) = .nx (Z3 (.tup ds)) := by
      rw [b_is_deed_1, ifF_of (by rw [e1, decide_eq_false c1])]; rfl
    have ni : mB (mOp dNotIn2 (mPk 0 dIx (mC (.int 0))) (mTup (mCons (mC (.str "longer")) (mCons (mC (.str "split")) (mCons (mC (.str "cross")) mNil))))) (Z3 (.tup ds)) = .ok (!decide (w ∈ [sLon, sSpl, sCro])) (Z3 (.tup ds)) :=
      bool_of (op_of (d_pk (i := 0) hx) (tup_of (cons_of c_of (cons_of c_of (cons_of c_of nil_of))) (by simp)) (notin29 (ns := [sLon, sSpl, sCro]) hw okT_lsc))
    have ln : mB (mOp dNe (mFn dLen (mCons (mVar 0) mNil)) (mC (.int 3))) (Z3 (.tup ds)) = .ok (!decide (((ds.length : Nat) : Int) = 3)) (Z3 (.tup ds)) := bool_of (op_of (fn1_of (frz_of (i := 0) rfl) len_tup) c_of (neI _ _))
    by_cases h3 : ds.length = 3
    case neg =>
      rw [decide_eq_false (by omega)] at ln
      have s2 : b_is_deed_2 (Z3 (.tup ds)) = .rt (.bl false) (Z3 (.tup ds)) := by
        rw [b_is_deed_2, ifT_of (orT_of ln)]; exact ret_of c_of
      have e : moveB (.tup ds) = false := by
        by_cases h2 : ds.length = 2
        · match ds, h2, hx, hs with
          | [x', s'], _, hx, hs =>
            have e1 : x' = .str w := by simpa using hx
            subst e1
            show (stayB s' && decide (w = sNew)) = false
            rw [decide_eq_false c1, Bool.and_false]
        · exact moveB_len fun z => by omega
      exact ⟨_, _, by rw [seq_of s1, seqR_of s2, e]⟩
    case pos =>
      rw [decide_eq_true (by omega)] at ln
      obtain ⟨m, rfl⟩ : ∃ m, ds = [.str w, pr2 a b, m] := by
        match ds, h3, hx, hs with
        | [x', s', m'], _, hx, hs =>
          have e1 : x' = .str w := by simpa using hx
          have e2 : s' = pr2 a b := by simpa using hs
          exact ⟨m', by rw [e1, e2]⟩
      have pm : Pl m := hd m (by simp)
      have eM : moveB (.tup [.str w, pr2 a b, m]) = move3 w a b m := by
        show (stayB (pr2 a b) && move3 w a b m) = _
        rw [sN]; rfl
      by_cases c2 : w ∈ [sLon, sSpl, sCro]
      case neg =>
        rw [decide_eq_false c2] at ni
        have s2 : b_is_deed_2 (Z3 (.tup [.str w, pr2 a b, m])) = .rt (.bl false) (Z3 (.tup [.str w, pr2 a b, m])) := by
          rw [b_is_deed_2, ifT_of (orF_of ln ni)]; exact ret_of c_of
        have e : move3 w a b m = false := (if_neg fun z => c2 (by rw [z]; simp)).trans ((if_neg fun z => c2 (by rw [z]; simp)).trans (if_neg fun z => c2 (by rw [z]; simp)))
        exact ⟨_, _, by rw [seq_of s1, seqR_of s2, eM, e]⟩
      case pos =>
        rw [decide_eq_true c2] at ni
        have s2 : b_is_deed_2 (Z3 (.tup [.str w, pr2 a b, m])) = .nx (Z3 (.tup [.str w, pr2 a b, m])) := by
          rw [b_is_deed_2, ifF_of (orF_of ln ni)]; rfl
        have s3 : b_is_deed_3 (Z3 (.tup [.str w, pr2 a b, m])) = .nx [.fz (.tup [.str w, pr2 a b, m]), .fz (.int a), .fz (.int b)] := by
          rw [b_is_deed_3]
          exact asg_of (d_pk (i := 1) rfl) rfl
        have e4 := d_eq (ds := [.str w, pr2 a b, m]) (τ := [.fz (.int a), .fz (.int b)]) (k := sSpl) hw okT_w.2.2.1 rfl
        by_cases c4 : w = sSpl
        · subst c4
          have tk := call1_of (τ := [.fz (.tup [.str sSpl, pr2 a b, m]), .fz (.int a), .fz (.int b)]) (ma := mPk 0 dIx (mC (.int 2))) (d_pk (i := 2) rfl) (count29 pm)
          have done : ∀ v : Bool, (mAndV (mCall [false] f_is_count 1 0 [0] [] (aV (mPk 0 dIx (mC (.int 2))) aNil) mNil) (mCh dLe dLt (mVar 1) (mPk 0 dIx (mC (.int 2))) (mVar 2))) [.fz (.tup [.str sSpl, pr2 a b, m]), .fz (.int a), .fz (.int b)] = .ok (.bl v) [.fz (.tup [.str sSpl, pr2 a b, m]), .fz (.int a), .fz (.int b)] → move3 sSpl a b m = v →
              ∃ (y : D) (τ : List Sl), (mSeq b_is_deed_1 (mSeq b_is_deed_2 (mSeq b_is_deed_3 (mSeq b_is_deed_4 (mSeq b_is_deed_5 (mSeq b_is_deed_6 b_is_deed_7)))))) (Z3 (.tup [.str sSpl, pr2 a b, m])) = .rt (.bl (moveB (.tup [.str sSpl, pr2 a b, m]))) (.fz y :: τ) := fun v h2 h3 => by
            have s4 : b_is_deed_4 [.fz (.tup [.str sSpl, pr2 a b, m]), .fz (.int a), .fz (.int b)] = .rt (.bl v) [.fz (.tup [.str sSpl, pr2 a b, m]), .fz (.int a), .fz (.int b)] := by
              rw [b_is_deed_4, ifT_of (by rw [e4]; rfl), ret_of h2]
            exact ⟨_, _, by rw [seq_of s1, seq_of s2, seq_of s3, seqR_of s4, eM, h3]⟩
          have no : tickB m = false → move3 sSpl a b m = false → _ := fun h2 h3 => done false (andVF_of (x := .bl false) (by rw [h2] at tk; exact tk) rfl) h3
          cases pm with
          | int k =>
            refine done (decide (0 ≤ k) && (decide (a ≤ k) && decide (k < b))) (andB_of tk fun _ => chB_of (f := dLe) (g := dLt) (frz_of (i := 1) rfl) (d_pk (i := 2) rfl) (frz_of (i := 2) rfl) rfl rfl) ?_
            exact if_pos rfl
          | str z _ => exact no rfl (if_pos rfl)
          | bl z => exact no rfl (if_pos rfl)
          | non => exact no rfl (if_pos rfl)
          | lst z _ _ => exact no rfl (if_pos rfl)
          | tup z _ _ => exact no rfl (if_pos rfl)
        · have s4 : b_is_deed_4 [.fz (.tup [.str w, pr2 a b, m]), .fz (.int a), .fz (.int b)] = .nx [.fz (.tup [.str w, pr2 a b, m]), .fz (.int a), .fz (.int b)] := by
            rw [b_is_deed_4, ifF_of (by rw [e4, decide_eq_false c4])]; rfl
          have st := call1_of (τ := [.fz (.tup [.str w, pr2 a b, m]), .fz (.int a), .fz (.int b)]) (ma := mPk 0 dIx (mC (.int 2))) (d_pk (i := 2) rfl) (pair29 pm)
          cases hm : stayB m with
          | false =>
            rw [hm] at st
            have s5 : b_is_deed_5 [.fz (.tup [.str w, pr2 a b, m]), .fz (.int a), .fz (.int b)] = .rt (.bl false) [.fz (.tup [.str w, pr2 a b, m]), .fz (.int a), .fz (.int b)] := by
              rw [b_is_deed_5, ifT_of (not_of (c := false) (bool_of st))]; exact ret_of c_of
            have e : move3 w a b m = false := by
              unfold move3
              rw [if_neg c4]
              split
              · split
                · rw [hm]; rfl
                · rfl
              · split
                · split
                  · rw [hm]; rfl
                  · rfl
                · rfl
            exact ⟨_, _, by rw [seq_of s1, seq_of s2, seq_of s3, seq_of s4, seqR_of s5, eM, e]⟩
          | true =>
            obtain ⟨c, e, rfl, hc, he, hce⟩ := stay_form hm
            rw [hm] at st
            have s5 : b_is_deed_5 [.fz (.tup [.str w, pr2 a b, pr2 c e]), .fz (.int a), .fz (.int b)] = .nx [.fz (.tup [.str w, pr2 a b, pr2 c e]), .fz (.int a), .fz (.int b)] := by
              rw [b_is_deed_5, ifF_of (not_of (c := true) (bool_of st))]; rfl
            have e6 := d_eq (ds := [.str w, pr2 a b, pr2 c e]) (τ := [.fz (.int a), .fz (.int b)]) (k := sCro) hw okT_w.2.2.2 rfl
            have k3 : mOp dIx (mPk 0 dIx (mC (.int 2))) (mC (.int 0)) [.fz (.tup [.str w, pr2 a b, pr2 c e]), .fz (.int a), .fz (.int b)] = .ok (.int c) [.fz (.tup [.str w, pr2 a b, pr2 c e]), .fz (.int a), .fz (.int b)] := op_of (d_pk (i := 2) rfl) c_of rfl
            have k4 : mOp dIx (mPk 0 dIx (mC (.int 2))) (mC (.int 1)) [.fz (.tup [.str w, pr2 a b, pr2 c e]), .fz (.int a), .fz (.int b)] = .ok (.int e) [.fz (.tup [.str w, pr2 a b, pr2 c e]), .fz (.int a), .fz (.int b)] := op_of (d_pk (i := 2) rfl) c_of rfl
            by_cases c6 : w = sCro
            · subst c6
              have s6 : b_is_deed_6 [.fz (.tup [.str sCro, pr2 a b, pr2 c e]), .fz (.int a), .fz (.int b)] = .rt (.bl (decide (a < c) && decide (e < b))) [.fz (.tup [.str sCro, pr2 a b, pr2 c e]), .fz (.int a), .fz (.int b)] := by
                rw [b_is_deed_6, ifT_of (by rw [e6]; rfl)]
                exact ret_of (andB_of (op_of (f := dLt) (frz_of (i := 1) rfl) k3 rfl) fun _ => op_of (f := dLt) k4 (frz_of (i := 2) rfl) rfl)
              have e3 : move3 sCro a b (pr2 c e) = (stayB (pr2 c e) && (decide (a < c) && decide (e < b))) := (if_neg c4).trans ((if_neg (by decide)).trans (if_pos rfl))
              exact ⟨_, _, by rw [seq_of s1, seq_of s2, seq_of s3, seq_of s4, seq_of s5, seqR_of s6, eM, e3, hm]; rfl⟩
            · have s6 : b_is_deed_6 [.fz (.tup [.str w, pr2 a b, pr2 c e]), .fz (.int a), .fz (.int b)] = .nx [.fz (.tup [.str w, pr2 a b, pr2 c e]), .fz (.int a), .fz (.int b)] := by
                rw [b_is_deed_6, ifF_of (by rw [e6, decide_eq_false c6])]; rfl
              have wl : w = sLon := by
                rcases List.mem_cons.mp c2 with z | z
                · exact z
                · rcases List.mem_cons.mp z with z | z
                  · exact absurd z c4
                  · exact absurd (List.mem_singleton.mp z) c6
              subst wl
              have ne : dNe (pr2 c e) (pr2 a b) = some (.bl (!decide ((c, e) = (a, b)))) := Enc.pr.ne (by decide) (c, e) (a, b)
              have s7 : b_is_deed_7 [.fz (.tup [.str sLon, pr2 a b, pr2 c e]), .fz (.int a), .fz (.int b)] = .rt (.bl (!decide ((c, e) = (a, b)) && (decide (c ≤ a) && decide (b ≤ e)))) [.fz (.tup [.str sLon, pr2 a b, pr2 c e]), .fz (.int a), .fz (.int b)] := by
                rw [b_is_deed_7]
                exact ret_of (andB_of (op_of (d_pk (i := 2) rfl) (d_pk (i := 1) rfl) ne) fun _ => andB_of (op_of (f := dLe) k3 (frz_of (i := 1) rfl) rfl) fun _ => op_of (f := dLe) (frz_of (i := 2) rfl) k4 rfl)
              have e3 : move3 sLon a b (pr2 c e) = (stayB (pr2 c e) && (decide (c ≤ a) && (decide (b ≤ e) && decide (b - a < e - c)))) := (if_neg c4).trans (if_pos rfl)
              have e8 : (!decide ((c, e) = (a, b)) && (decide (c ≤ a) && decide (b ≤ e))) = (decide (c ≤ a) && (decide (b ≤ e) && decide (b - a < e - c))) := by
                rw [Bool.eq_iff_iff]
                simp only [Bool.and_eq_true, Bool.not_eq_true', decide_eq_false_iff_not, decide_eq_true_eq, Prod.mk.injEq]
                omega
              exact ⟨_, _, by rw [seq_of s1, seq_of s2, seq_of s3, seq_of s4, seq_of s5, seq_of s6, s7, eM, e3, hm, e8]; rfl⟩
theorem deed29 {d : D} (h : Pl d) : f_is_deed [d] = .ok (.bl (moveB d)) [none] := by
  cases h with
  | int i => exact d0_no rfl
  | bl b => exact d0_no rfl
  | non => exact d0_no rfl
  | str s _ => exact d0_no rfl
  | lst ds _ _ => exact d0_no rfl
  | tup ds hz hd =>
    by_cases h : 2 ≤ ds.length
    · obtain ⟨x, hx⟩ : ∃ x, ds[0]? = some x := ⟨_, List.getElem?_eq_getElem (by omega)⟩
      obtain ⟨s, hs⟩ : ∃ s, ds[1]? = some s := ⟨_, List.getElem?_eq_getElem (by omega)⟩
      rcases d0_at h hx hs (hd x (List.mem_of_getElem? hx)) (hd s (List.mem_of_getElem? hs)) with ⟨w, rfl, hw, hst, s0⟩ | ⟨no, s0⟩
      · obtain ⟨a, b, rfl, _⟩ := stay_form hst
        obtain ⟨y, τ, e⟩ := deed_body h hw hx hs hst hd
        exact deed_rt (by rw [b_is_deed, seq_of s0, e])
      · rw [moveB_bad h hx hs no]
        exact deed_rt (by rw [b_is_deed, seqR_of s0])
    · rw [moveB_len fun z => h z.1]
      exact d0_len (by omega)
def toldD (d : D) : D := .lst [.bl (tickB d), .bl (stayB d), .bl (rowB d), .bl (moveB d)]
theorem told29 {d : D} (h : Pl d) : f_told [d] = .ok (toldD d) [none] := by
  rw [f_told, mkF_fin]
  refine Eq.trans (if_pos rfl) ?_
  show fin [false] (b_told [.fz d]) = _
  unfold b_told
  rw [ret_of (lst_of (cons_of (call1_of (frz_of (i := 0) rfl) (tick29 h)) (cons_of (call1_of (frz_of (i := 0) rfl) (stay29 h)) (cons_of (call1_of (frz_of (i := 0) rfl) (table29 h)) (cons_of (call1_of (frz_of (i := 0) rfl) (move29 h)) nil_of)))) (by simp))]
  rfl
theorem due29 {d : D} (h : Pl d) : f_due [d] = .ok (toldD d) [none] := by
  rw [f_due, mkF_fin]
  refine Eq.trans (if_pos rfl) ?_
  show fin [false] (b_due [.fz d]) = _
  unfold b_due
  rw [ret_of (lst_of (cons_of (call1_of (frz_of (i := 0) rfl) (count29 h)) (cons_of (call1_of (frz_of (i := 0) rfl) (pair29 h)) (cons_of (call1_of (frz_of (i := 0) rfl) (row29 h)) (cons_of (call1_of (frz_of (i := 0) rfl) (deed29 h)) nil_of)))) (by simp))]
  rfl
end
end Sm
set_option Elab.async false
set_option linter.all false
set_option maxRecDepth 100000
set_option maxHeartbeats 400000
namespace Sm
open PySem PySem.Spec PyProof.Rows L2
end Sm
set_option Elab.async false
set_option linter.all false
set_option maxRecDepth 100000
set_option maxHeartbeats 1000000
namespace Sm
open PySem PySem.Spec PyProof.Rows L2
inductive Deed where
  | new (p : PI) | longer (p q : PI) | split (p : PI) (m : Int) | cross (p q : PI)
  deriving DecidableEq
def eD : Deed → D
  | .new p => .tup [.str "new", ePr p]
  | .longer p q => .tup [.str "longer", ePr p, ePr q]
  | .split p m => .tup [.str "split", ePr p, .int m]
  | .cross p q => .tup [.str "cross", ePr p, ePr q]
theorem eq_prs {x y a b : Int} : dEq (.tup [.int x, .int y]) (.tup [.int a, .int b]) = some (.bl (decide (x = a) && decide (y = b))) := by
  have e : eqD (.tup [.int x, .int y]) (.tup [.int a, .int b]) = some ((PyData.int x).eqv (.int a) && ((PyData.int y).eqv (.int b) && true)) := rfl
  have q : ∀ u v : Int, (PyData.int u).eqv (.int v) = decide (u = v) := fun u v => by
    show (u == v) = _
    rw [Bool.eq_iff_iff]; simp
  unfold dEq
  rw [e, q, q, Bool.and_true]
  rfl

def Good (hh : Int) : Deed → Prop
  | .new p => 0 ≤ p.1 ∧ p.1 ≤ p.2 ∧ p.2 < hh
  | .longer p q => 0 ≤ q.1 ∧ q.1 ≤ p.1 ∧ p.1 ≤ p.2 ∧ p.2 ≤ q.2 ∧ q.2 < hh ∧ ¬(q.1 = p.1 ∧ q.2 = p.2)
  | .split p m => 0 ≤ p.1 ∧ p.1 ≤ m ∧ m < p.2 ∧ p.2 < hh
  | .cross p q => 0 ≤ p.1 ∧ p.1 < q.1 ∧ q.1 ≤ q.2 ∧ q.2 < p.2 ∧ p.2 < hh
theorem deedG {k hh : Int} {d : D} (h : Box k d) (hk : 5 ≤ k) (h4a : 4 ≤ hh) (h4b : hh ≤ 20) : ∃ (v : Deed) (d' : D), f_deed [d, .int hh] = .ok (eD v) [some d', none] ∧ Good hh v ∧ Box (k - 5) d' := by
  obtain ⟨r, d1, e1, r0, r4, h1⟩ := take_ok (n := 4) h (by omega) (by decide) (by decide)
  obtain ⟨a, b, d2, e2, a0, ab, b5, h2⟩ := stay_ok (n := hh) h1 (by omega) (by omega) (by omega)
  have s0 : b_deed_0 [.io 0 d, .fz (.int hh), .un, .un, .un, .un, .un, .un, .un, .un] = .nx [.io 0 d2, .fz (.int hh), .fz (.int r), .fz (.tup [.int a, .int b]), .un, .un, .un, .un, .un, .un] := by
    simp -implicitDefEqProofs [b_deed_0, e1, e2]
  have s1 : b_deed_1 [.io 0 d2, .fz (.int hh), .fz (.int r), .fz (.tup [.int a, .int b]), .un, .un, .un, .un, .un, .un] = .nx [.io 0 d2, .fz (.int hh), .fz (.int r), .fz (.tup [.int a, .int b]), .fz (.int a), .fz (.int b), .un, .un, .un, .un] := by
    simp -implicitDefEqProofs [b_deed_1]
  have run : ∀ (v : Deed) (d' : D) (τ : List Sl), mSeq b_deed_2 (mSeq b_deed_3 (mSeq b_deed_4 b_deed_5)) [.io 0 d2, .fz (.int hh), .fz (.int r), .fz (.tup [.int a, .int b]), .fz (.int a), .fz (.int b), .un, .un, .un, .un] = .rt (eD v) (.io 0 d' :: .fz (.int hh) :: τ) → f_deed [d, .int hh] = .ok (eD v) [some d', none] := fun v d' τ e => by
    rw [f_deed, mkF_fin]
    show fin [true, false] (mSeq b_deed_0 (mSeq b_deed_1 (mSeq b_deed_2 (mSeq b_deed_3 (mSeq b_deed_4 b_deed_5)))) [.io 0 d, .fz (.int hh), .un, .un, .un, .un, .un, .un, .un, .un]) = _
    rw [ev_seq, s0, SR.then_nx, ev_seq, s1, SR.then_nx, e]
    rfl
  have no2 : ¬ (r = 1 ∧ (0 < a ∨ b < hh - 1)) → b_deed_2 [.io 0 d2, .fz (.int hh), .fz (.int r), .fz (.tup [.int a, .int b]), .fz (.int a), .fz (.int b), .un, .un, .un, .un] = .nx [.io 0 d2, .fz (.int hh), .fz (.int r), .fz (.tup [.int a, .int b]), .fz (.int a), .fz (.int b), .un, .un, .un, .un] := fun hn => by
    by_cases hr : r = 1
    · have n1 : ¬ 0 < a := fun z => hn ⟨hr, .inl z⟩
      have n2 : ¬ b < hh - 1 := fun z => hn ⟨hr, .inr z⟩
      simp -implicitDefEqProofs [b_deed_2, hr, n1, n2]
    · simp -implicitDefEqProofs [b_deed_2, hr]
  have no3 : ¬ (r = 2 ∧ a < b) → b_deed_3 [.io 0 d2, .fz (.int hh), .fz (.int r), .fz (.tup [.int a, .int b]), .fz (.int a), .fz (.int b), .un, .un, .un, .un] = .nx [.io 0 d2, .fz (.int hh), .fz (.int r), .fz (.tup [.int a, .int b]), .fz (.int a), .fz (.int b), .un, .un, .un, .un] := fun hn => by
    by_cases hr : r = 2
    · have n1 : ¬ a < b := fun z => hn ⟨hr, z⟩
      simp -implicitDefEqProofs [b_deed_3, hr, n1]
    · simp -implicitDefEqProofs [b_deed_3, hr]
  have no4 : ¬ (r = 3 ∧ 1 < b - a) → b_deed_4 [.io 0 d2, .fz (.int hh), .fz (.int r), .fz (.tup [.int a, .int b]), .fz (.int a), .fz (.int b), .un, .un, .un, .un] = .nx [.io 0 d2, .fz (.int hh), .fz (.int r), .fz (.tup [.int a, .int b]), .fz (.int a), .fz (.int b), .un, .un, .un, .un] := fun hn => by
    by_cases hr : r = 3
    · have n1 : ¬ 1 < b - a := fun z => hn ⟨hr, z⟩
      simp -implicitDefEqProofs [b_deed_4, hr, n1]
    · simp -implicitDefEqProofs [b_deed_4, hr]
  by_cases c2 : r = 1 ∧ (0 < a ∨ b < hh - 1)
  · obtain ⟨rfl, c2⟩ := c2
    obtain ⟨x, d3, e3, x0, x1, h3⟩ := take_ok (n := a + 1) h2 (by omega) (by omega) (by omega)
    obtain ⟨y, d4, e4, y0, y1, h4⟩ := take_ok (n := hh - b) h3 (by omega) (by omega) (by omega)
    have gd : ((decide (0 < a)) || decide (b < hh - 1)) = true := by
      rw [Bool.or_eq_true, decide_eq_true_iff, decide_eq_true_iff]; exact c2
    have key : ∀ (x' y' : Int), ((x = a ∧ y = 0) → b < hh - 1 → x' = x ∧ y' = b + 1) → ((x = a ∧ y = 0) → ¬ b < hh - 1 → x' = x - 1 ∧ y' = b) → (¬ (x = a ∧ y = 0) → x' = x ∧ y' = b + y) → b_deed_2 [.io 0 d2, .fz (.int hh), .fz (.int 1), .fz (.tup [.int a, .int b]), .fz (.int a), .fz (.int b), .un, .un, .un, .un] = .rt (eD (.longer (a, b) (x', y'))) [.io 0 d4, .fz (.int hh), .fz (.int 1), .fz (.tup [.int a, .int b]), .fz (.int a), .fz (.int b), .fz (.int x'), .fz (.int y'), .un, .un] := fun x' y' g1 g2 g3 => by
      by_cases hx : x = a
      · by_cases hy : y = 0
        · by_cases hb : b < hh - 1
          · obtain ⟨rfl, rfl⟩ := g1 ⟨hx, hy⟩ hb
            subst hx; subst hy
            simp -implicitDefEqProofs [b_deed_2, gd, e3, e4, eq_prs, hb, eD, ePr, small, dInt]
            rw [if_neg (by omega)]; omega
          · obtain ⟨rfl, rfl⟩ := g2 ⟨hx, hy⟩ hb
            subst hx; subst hy
            simp -implicitDefEqProofs [b_deed_2, gd, e3, e4, eq_prs, hb, eD, ePr, small, dInt]
            omega
        · obtain ⟨rfl, rfl⟩ := g3 fun z => hy z.2
          subst hx
          simp -implicitDefEqProofs [b_deed_2, gd, e3, e4, eq_prs, hy, eD, ePr, small, dInt]
          rw [if_neg (fun z => hy (by omega)), if_neg (fun z => hy (by omega))]; exact ⟨by omega, by omega⟩
      · obtain ⟨rfl, rfl⟩ := g3 fun z => hx z.1
        simp -implicitDefEqProofs [b_deed_2, gd, e3, e4, eq_prs, hx, eD, ePr, small, dInt]
    have fin2 : ∀ x' y' : Int, ((x = a ∧ y = 0) → b < hh - 1 → x' = x ∧ y' = b + 1) → ((x = a ∧ y = 0) → ¬ b < hh - 1 → x' = x - 1 ∧ y' = b) → (¬ (x = a ∧ y = 0) → x' = x ∧ y' = b + y) → Good hh (.longer (a, b) (x', y')) → ∃ (v : Deed) (d' : D), f_deed [d, .int hh] = .ok (eD v) [some d', none] ∧ Good hh v ∧ Box (k - 5) d' := fun x' y' g1 g2 g3 gg => by
      refine ⟨.longer (a, b) (x', y'), d4, run _ _ [.fz (.int 1), .fz (.tup [.int a, .int b]), .fz (.int a), .fz (.int b), .fz (.int x'), .fz (.int y'), .un, .un] ?_, gg, h4.le (by omega)⟩
      rw [ev_seq, key x' y' g1 g2 g3]
      rfl
    by_cases hxy : x = a ∧ y = 0
    · by_cases hb : b < hh - 1
      · exact fin2 x (b + 1) (fun _ _ => ⟨rfl, rfl⟩) (fun _ z => absurd hb z) (fun z => absurd hxy z) (by simp only [Good]; omega)
      · exact fin2 (x - 1) b (fun _ z => absurd z hb) (fun _ _ => ⟨rfl, rfl⟩) (fun z => absurd hxy z) (by simp only [Good]; omega)
    · exact fin2 x (b + y) (fun z => absurd z hxy) (fun z => absurd z hxy) (fun _ => ⟨rfl, rfl⟩) (by simp only [Good]; omega)
  · by_cases c3 : r = 2 ∧ a < b
    · obtain ⟨rfl, c3⟩ := c3
      obtain ⟨x, d3, e3, x0, x1, h3⟩ := take_ok (n := b - a) h2 (by omega) (by omega) (by omega)
      refine ⟨.split (a, b) (a + x), d3, run _ _ [.fz (.int 2), .fz (.tup [.int a, .int b]), .fz (.int a), .fz (.int b), .un, .un, .un, .un] ?_, ?_, h3.le (by omega)⟩
      · rw [ev_seq, no2 c2, SR.then_nx, ev_seq]
        have s3 : b_deed_3 [.io 0 d2, .fz (.int hh), .fz (.int 2), .fz (.tup [.int a, .int b]), .fz (.int a), .fz (.int b), .un, .un, .un, .un] = .rt (eD (.split (a, b) (a + x))) [.io 0 d3, .fz (.int hh), .fz (.int 2), .fz (.tup [.int a, .int b]), .fz (.int a), .fz (.int b), .un, .un, .un, .un] := by
          simp -implicitDefEqProofs [b_deed_3, c3, e3, eD, ePr, small]
        rw [s3]; rfl
      · simp only [Good]; omega
    · by_cases c4 : r = 3 ∧ 1 < b - a
      · obtain ⟨rfl, c4⟩ := c4
        obtain ⟨x, d3, e3, x0, x1, h3⟩ := take_ok (n := b - a - 1) h2 (by omega) (by omega) (by omega)
        obtain ⟨y, d4, e4, y0, y1, h4⟩ := take_ok (n := b - a - 1) h3 (by omega) (by omega) (by omega)
        obtain ⟨m, mm, em, m1⟩ := min_ints (xs := [a + 1 + x, a + 1 + y]) (by simp)
        obtain ⟨w, wm, ew, w1⟩ := max_ints (xs := [a + 1 + x, a + 1 + y]) (by simp)
        have em : dMin1 [.lst [.int (a + 1 + x), .int (a + 1 + y)]] = some (.int m) := em
        have ew : dMax1 [.lst [.int (a + 1 + x), .int (a + 1 + y)]] = some (.int w) := ew
        refine ⟨.cross (a, b) (m, w), d4, run _ _ [.fz (.int 3), .fz (.tup [.int a, .int b]), .fz (.int a), .fz (.int b), .un, .un, .fz (.lst [.int (a + 1 + x), .int (a + 1 + y)]), .un] ?_, ?_, h4.le (by omega)⟩
        · rw [ev_seq, no2 c2, SR.then_nx, ev_seq, no3 c3, SR.then_nx, ev_seq]
          have lc : mLc (mOns rng1 (mCons (mC (.int 2)) mNil)) (gN 9) mYes (mOp dAdd (mOp dAdd (mVar 4) (mC (.int 1))) (mCall [true, false] f_take 2 0 [0, 1] [] (aIo 0 (aV (mOp dSub (mOp dSub (mVar 5) (mVar 4)) (mC (.int 1))) aNil)) mNil)) [9] [.io 0 d2, .fz (.int hh), .fz (.int 3), .fz (.tup [.int a, .int b]), .fz (.int a), .fz (.int b), .un, .un, .un, .un] = .ok (.lst [.int (a + 1 + x), .int (a + 1 + y)]) [.io 0 d4, .fz (.int hh), .fz (.int 3), .fz (.tup [.int a, .int b]), .fz (.int a), .fz (.int b), .un, .un, .un, .un] := by
            have hr : rng1 [.int 2] = some [.int 0, .int 1] := rfl
            rw [ev_lc]
            simp -implicitDefEqProofs [hr, lcEnd, mLcGo, allUn, e3, e4]
          have s4 : b_deed_4 [.io 0 d2, .fz (.int hh), .fz (.int 3), .fz (.tup [.int a, .int b]), .fz (.int a), .fz (.int b), .un, .un, .un, .un] = .rt (eD (.cross (a, b) (m, w))) [.io 0 d4, .fz (.int hh), .fz (.int 3), .fz (.tup [.int a, .int b]), .fz (.int a), .fz (.int b), .un, .un, .fz (.lst [.int (a + 1 + x), .int (a + 1 + y)]), .un] := by
            simp -implicitDefEqProofs [b_deed_4, c4, lc, em, ew, eD, ePr, small]
          rw [s4]; rfl
        · have i1 := m1 _ (List.mem_cons_self)
          have i2 := w1 _ (List.mem_cons_self)
          simp only [List.mem_cons, List.not_mem_nil, or_false] at mm wm
          simp only [Good]; omega
      · refine ⟨.new (a, b), d2, run _ _ [.fz (.int r), .fz (.tup [.int a, .int b]), .fz (.int a), .fz (.int b), .un, .un, .un, .un] ?_, ⟨a0, ab, b5⟩, h2.le (by omega)⟩
        rw [ev_seq, no2 c2, SR.then_nx, ev_seq, no3 c3, SR.then_nx, ev_seq, no4 c4, SR.then_nx]
        rfl
end Sm
set_option Elab.async false
set_option linter.all false
set_option maxRecDepth 100000
set_option maxHeartbeats 1000000
namespace Sm
open PySem PySem.Spec PyProof.Rows L2
def Wn : Nat → Nat
  | 0 => 170
  | n + 1 => 11 * (Wn n + 1)
theorem Wn_le (n : Nat) : Wn n + 1 ≤ Wn (n + 1) := by
  show Wn n + 1 ≤ 11 * (Wn n + 1)
  omega
structure Rr (n : Nat) (d : D) : Prop where
  pl : Pl d
  ex : ∃ p, d.py = some p ∧ p.showable = true ∧ p.hasDict = false ∧ p.depth ≤ n ∧ p.leavesShort 61 = true ∧ p.weight ≤ Wn n
theorem Rr.up {n : Nat} {d : D} (h : Rr n d) : Rr (n + 1) d := by
  obtain ⟨p, h1, h2, h3, h4, h5, h6⟩ := h.ex
  exact ⟨h.pl, p, h1, h2, h3, by omega, h5, by have := Wn_le n; omega⟩
theorem Rr.int {i : Int} (h : i.natAbs < 10 ^ 51) : Rr 0 (.int i) := by
  have lg : i.natAbs = 0 ∨ i.natAbs.log2 < 170 := by
    by_cases z : i.natAbs = 0
    · exact .inl z
    · exact .inr ((Nat.log2_lt z).mpr (Nat.lt_of_lt_of_le h (show 10 ^ 51 ≤ 2 ^ 170 by decide)))
  have l : i.natAbs.log2 < 1920 := by
    rcases lg with z | z
    · rw [z]; decide
    · omega
  refine ⟨.int i, .int i, rfl, decide_eq_true l, rfl, Nat.le_refl _, decide_eq_true ?_, ?_⟩
  · show (PySem.Str.ofString (toString i)).length ≤ 61
    rw [PySem.ofString_length]
    exact PySem.int_text_length_le10 (k := 60) (by decide) (Nat.lt_of_lt_of_le h (by decide))
  · show (if (i == 0) = true then 0 else i.natAbs.log2 + 1) ≤ 170
    rcases lg with z | z
    · have : i = 0 := by omega
      rw [this]; decide
    · split <;> omega
theorem Rr.bl (b : Bool) : Rr 0 (.bl b) := ⟨.bl b, .bool b, rfl, rfl, rfl, Nat.le_refl _, rfl, Nat.zero_le _⟩
theorem Rr.non : Rr 0 .non := ⟨.non, .none, rfl, rfl, rfl, Nat.le_refl _, rfl, Nat.zero_le _⟩
theorem Rr.str {s : Str} (h1 : okT s = true) (h2 : (s.cps.toList.all fun c => decide (c < 16 ^ 8)) = true) (h3 : s.cps.size ≤ 60) : Rr 0 (.str s) := ⟨.str s h1, .str s, rfl, rfl, rfl, Nat.le_refl _, h2, Nat.le_trans h3 (by decide)⟩
theorem pys_ok {n : Nat} : ∀ {ds : List D}, (∀ d ∈ ds, Rr n d) → ∃ ps, D.pys ds = some ps ∧ PyData.showableAll ps = true ∧ PyData.hasDictAll ps = false ∧ PyData.depthAll ps ≤ n ∧ PyData.leavesShortAll 61 ps = true ∧ PyData.weightAll ps ≤ ds.length * (Wn n + 1)
  | [], _ => ⟨[], rfl, rfl, rfl, Nat.zero_le _, rfl, Nat.zero_le _⟩
  | d :: ds, h => by
    obtain ⟨ps, a1, a2, a3, a4, a5, a6⟩ := pys_ok (ds := ds) fun x hx => h x (List.mem_cons_of_mem _ hx)
    obtain ⟨p, b1, b2, b3, b4, b5, b6⟩ := (h d List.mem_cons_self).ex
    refine ⟨p :: ps, ?_, ?_, ?_, ?_, ?_, ?_⟩
    · show (D.py d).bind (fun p => (D.pys ds).map (p :: ·)) = _
      rw [b1, a1]; rfl
    · show (p.showable && PyData.showableAll ps) = true
      rw [b2, a2]; rfl
    · show (p.hasDict || PyData.hasDictAll ps) = false
      rw [b3, a3]; rfl
    · show max p.depth (PyData.depthAll ps) ≤ n
      exact Nat.max_le.mpr ⟨b4, a4⟩
    · show (p.leavesShort 61 && PyData.leavesShortAll 61 ps) = true
      rw [b5, a5]; rfl
    · show p.weight + 1 + PyData.weightAll ps ≤ (ds.length + 1) * (Wn n + 1)
      rw [Nat.add_mul]
      omega
theorem Rr.tup {n : Nat} {ds : List D} (hz : ds.length ≤ 11) (h : ∀ d ∈ ds, Rr n d) : Rr (n + 1) (.tup ds) := by
  obtain ⟨ps, a1, a2, a3, a4, a5, a6⟩ := pys_ok h
  refine ⟨.tup ds (by omega) fun d hd => (h d hd).pl, .tuple ps, ?_, a2, a3, Nat.succ_le_succ a4, a5, ?_⟩
  · show (D.pys ds).map PyData.tuple = _
    rw [a1]; rfl
  · exact Nat.le_trans a6 (Nat.mul_le_mul_right _ hz)
theorem Rr.lst {n : Nat} {ds : List D} (hz : ds.length ≤ 11) (h : ∀ d ∈ ds, Rr n d) : Rr (n + 1) (.lst ds) := by
  obtain ⟨ps, a1, a2, a3, a4, a5, a6⟩ := pys_ok h
  refine ⟨.lst ds (by omega) fun d hd => (h d hd).pl, .list ps, ?_, a2, a3, Nat.succ_le_succ a4, a5, ?_⟩
  · show (D.pys ds).map PyData.list = _
    rw [a1]; rfl
  · exact Nat.le_trans a6 (Nat.mul_le_mul_right _ hz)
theorem Rr.repr {n : Nat} {d : D} (hn : n ≤ 3) (h : Rr n d) : ∃ t : Str, dRepr [d] = some (.str t) ∧ dNeS (.str t) (.str t) = some (.bl false) := by
  obtain ⟨p, h1, h2, h3, h4, h5, h6⟩ := h.ex
  have w3 : Wn n ≤ 227733 := by
    match n, hn with
    | 0, _ => decide
    | 1, _ => decide
    | 2, _ => decide
    | 3, _ => decide
  have len := PyData.shown_le 61 (by decide) p h5
  refine ⟨p.shown, ?_, ?_⟩
  · show d.py.bind _ = _
    rw [h1]
    exact if_pos ⟨h2, h3, by omega, by omega⟩
  · show some (D.bl (!decide (p.shown = p.shown))) = _
    rw [decide_eq_true rfl]; rfl
end Sm
set_option Elab.async false
set_option linter.all false
set_option maxRecDepth 100000
set_option maxHeartbeats 1000000
namespace Sm
open PySem PySem.Spec PyProof.Rows L2
def Og : Nat → D → Prop
  | _, .int i => 0 ≤ i ∧ i < 10 ^ 50
  | _, .str w => w = sNew ∨ w = sLon ∨ w = sSpl ∨ w = sCro
  | n + 1, .tup ds => ds.length ≤ 5 ∧ ∀ d ∈ ds, Og n d
  | _, _ => False
theorem w4 : ∀ w ∈ [sNew, sLon, sSpl, sCro], okT w = true ∧ (w.cps.toList.all fun c => decide (c < 16 ^ 8)) = true ∧ w.cps.size ≤ 60 := by decide +kernel
theorem Og.rr : ∀ {n : Nat} {d : D}, Og n d → Rr n d
  | 0, .int i, h => .int (by have h : 0 ≤ i ∧ i < 10 ^ 50 := h; omega)
  | n + 1, .int i, h => (Og.rr (n := n) (d := .int i) (by cases n <;> exact h)).up
  | 0, .str w, h => by
    have m : w ∈ [sNew, sLon, sSpl, sCro] := by
      have h : w = sNew ∨ w = sLon ∨ w = sSpl ∨ w = sCro := h
      simpa using h
    exact .str (w4 w m).1 (w4 w m).2.1 (w4 w m).2.2
  | n + 1, .str w, h => (Og.rr (n := n) (d := .str w) (by cases n <;> exact h)).up
  | n + 1, .tup ds, h => by
    have h : ds.length ≤ 5 ∧ ∀ d ∈ ds, Og n d := h
    exact .tup (by omega) fun d hd => Og.rr (h.2 d hd)
theorem Rr.le {n m : Nat} {d : D} (h : Rr n d) (hm : n ≤ m) : Rr m d := by
  induction hm with
  | refl => exact h
  | step _ ih => exact ih.up
def pool0 : List D := [.non, .bl true, .bl false, .int 0, .int 1, .int 4, .int (-1), .str "", .str "new", .str "cross", .str "split", .tup [], .tup [.int 3], .tup [.int 0, .int 1], .lst [], .int (10 ^ 50)]
theorem w6 : ∀ w ∈ ([("" : Str), "new", "cross", "split", "longer"] : List Str), okT w = true ∧ (w.cps.toList.all fun c => decide (c < 16 ^ 8)) = true ∧ w.cps.size ≤ 60 := by decide +kernel
theorem rr_w {w : Str} (h : w ∈ ([("" : Str), "new", "cross", "split", "longer"] : List Str)) : Rr 0 (.str w) := .str (w6 w h).1 (w6 w h).2.1 (w6 w h).2.2
theorem pool0_ok : ∀ d ∈ pool0, Rr 1 d := by
  have i : ∀ i : Int, i.natAbs < 10 ^ 51 → Rr 1 (.int i) := fun i h => (Rr.int h).up
  have t0 : ∀ d ∈ ([] : List D), Rr 0 d := fun _ h => nomatch h
  intro d hd
  simp only [pool0, List.mem_cons, List.not_mem_nil, or_false] at hd
  rcases hd with rfl | rfl | rfl | rfl | rfl | rfl | rfl | rfl | rfl | rfl | rfl | rfl | rfl | rfl | rfl | rfl
  · exact Rr.non.up
  · exact (Rr.bl _).up
  · exact (Rr.bl _).up
  · exact i _ (by decide)
  · exact i _ (by decide)
  · exact i _ (by decide)
  · exact i _ (by decide)
  · exact (rr_w (by decide)).up
  · exact (rr_w (by decide)).up
  · exact (rr_w (by decide)).up
  · exact (rr_w (by decide)).up
  · exact .tup (by decide) t0
  · exact .tup (by decide) fun d hd => by rw [List.mem_singleton.mp hd]; exact .int (by decide)
  · exact .tup (by decide) fun d hd => by
      rcases List.mem_cons.mp hd with rfl | hd
      · exact .int (by decide)
      · rw [List.mem_singleton.mp hd]; exact .int (by decide)
  · exact .lst (by decide) t0
  · exact i _ (by decide)
theorem cut_mem {ds : List D} (lo hi : Option Int) : (cutD ds lo hi).length ≤ ds.length ∧ ∀ d ∈ cutD ds lo hi, d ∈ ds := by
  obtain ⟨ys, e, l, m⟩ := cut_map (f := fun d : D => d) ds lo hi
  rw [List.map_id', List.map_id'] at e
  rw [e]
  exact ⟨l, m⟩
def bn3 : MS := mSet 3 (mLst (mCons (mC .non) (mCons (mC (.bl true)) (mCons (mC (.bl false)) (mCons (mC (.int 0)) (mCons (mC (.int 1)) (mCons (mC (.int 4)) (mCons (mUn dNeg (mC (.int 1))) (mCons (mC (.str "")) (mCons (mC (.str "new")) (mCons (mC (.str "cross")) (mCons (mC (.str "split")) (mCons (mTup mNil) (mCons (mTup (mCons (mC (.int 3)) mNil)) (mCons (mTup (mCons (mC (.int 0)) (mCons (mC (.int 1)) mNil))) (mCons (mLst mNil) (mCons (mOp dPow (mC (.int 10)) (mC (.int 50))) mNil)))))))))))))))))
def bnT : MS := mIfS (mB (mFn (dIsi "tuple") (mCons (mVar 1) mNil))) (mSet 3 (mOp dAdd (mVar 3) (mLst (mCons (mFnF nList (mCons (mVar 1) mNil)) (mCons (mUn dRev2 (mVar 1)) (mCons (mOp dAdd (mVar 1) (mSlP 1 (oSome (mUn dNeg (mC (.int 1)))) oNone)) (mCons (mSlP 1 oNone (oSome (mUn dNeg (mC (.int 1))))) (mCons (mTup (mCons (mVar 1) mNil)) mNil)))))))) mNx
def bnS : MS := mIfS (mB (mFn (dIsi "str") (mCons (mVar 1) mNil))) (mSet 3 (mOp dAdd (mVar 3) (mLst (mCons (mOp dAdd (mVar 1) (mC (.str "s"))) (mCons (mUn dUpper (mVar 1)) (mCons (mTup (mCons (mVar 1) mNil)) (mCons (mC (.str "longer")) mNil))))))) mNx
def bnI : MS := mIfS (mB (mFn (dIsi "int") (mCons (mVar 1) mNil))) (mSet 3 (mOp dAdd (mVar 3) (mLst (mCons (mFn dStr (mCons (mVar 1) mNil)) (mCons (mOp dAdd (mVar 1) (mC (.int 1))) (mCons (mOp dSub (mVar 1) (mC (.int 1))) (mCons (mTup (mCons (mVar 1) mNil)) mNil))))))) mNx
def bnR : MS := mRet (mCall [true, false] f_of 2 0 [0, 1] [] (aIo 0 (aV (mVar 3) aNil)) mNil)
def bn1 (self_ : List D → RF) : MS := mIfS (mAnd (mB (mFn (dIsi "tuple") (mCons (mVar 1) mNil))) (mAnd (mB (mOp dGt (mFn dLen (mCons (mVar 1) mNil)) (mC (.int 0)))) (mB (mOp dGt (mCall [true, false] f_take 2 0 [0, 1] [] (aIo 0 (aV (mC (.int 3)) aNil)) mNil) (mC (.int 0)))))) (mSeq (mSet 2 (mCall [true, false] f_take 2 0 [0, 1] [] (aIo 0 (aV (mFn dLen (mCons (mVar 1) mNil)) aNil)) mNil))
    (mRet (mOp dAdd (mOp dAdd (mSlP 1 oNone (oSome (mVar 2))) (mTup (mCons (mCall [true, false] self_ 2 0 [0, 1] [] (aIo 0 (aV (mPk 1 dIx (mVar 2)) aNil)) mNil) mNil))) (mSlP 1 (oSome (mOp dAdd (mVar 2) (mC (.int 1)))) oNone)))) mNx
theorem bent_is (self_ : List D → RF) : b_bent self_ = mSeq (bn1 self_) (mSeq bn3 (mSeq bnT (mSeq bnS (mSeq bnI bnR)))) := rfl
theorem bn3_ok {d x : D} {y2 y3 : Sl} (f3 : y3.free = true) : bn3 [.io 0 d, .fz x, y2, y3] = .nx [.io 0 d, .fz x, y2, .fz (.lst pool0)] :=
  set_of' (i := 3) (lst_of (cons_of c_of (cons_of c_of (cons_of c_of (cons_of c_of (cons_of c_of (cons_of c_of (cons_of (un_of c_of rfl) (cons_of c_of (cons_of c_of (cons_of c_of (cons_of c_of (cons_of (tup_of nil_of (by decide)) (cons_of (tup_of (cons_of c_of nil_of) (by decide)) (cons_of (tup_of (cons_of c_of (cons_of c_of nil_of)) (by decide)) (cons_of (lst_of nil_of (by decide)) (cons_of (op_of c_of c_of (by kernel_rfl)) nil_of)))))))))))))))) (by decide)) rfl f3
theorem add_lst29 {xs ys : List D} (h : xs.length + ys.length ≤ 1000) : dAdd (.lst xs) (.lst ys) = some (.lst (xs ++ ys)) := by
  show (small (xs ++ ys)).map D.lst = _
  unfold small
  rw [if_pos (by rw [List.length_append]; omega)]; rfl
theorem add_tup29 {xs ys : List D} (h : xs.length + ys.length ≤ 1000) : dAdd (.tup xs) (.tup ys) = some (.tup (xs ++ ys)) := by
  show (small (xs ++ ys)).map D.tup = _
  unfold small
  rw [if_pos (by rw [List.length_append]; omega)]; rfl
theorem chr_lt (x : Char) : x.toNat < 0x110000 := by
  have h : x.val.toNat < 0xd800 ∨ (0xdfff < x.val.toNat ∧ x.val.toNat < 0x110000) := x.valid
  show x.val.toNat < 0x110000
  omega
theorem okT_of (s : String) : okT (PySem.Str.ofString s) = true ∧ ((PySem.Str.ofString s).cps.toList.all fun c => decide (c < 16 ^ 8)) = true := by
  rw [PySem.Str.ofString_eq_toList]
  have v : ∀ c ∈ s.toList.map Char.toNat, c < 0x110000 := fun c hc => by
    obtain ⟨x, _, rfl⟩ := List.mem_map.mp hc
    exact chr_lt x
  constructor
  · show ((s.toList.map Char.toNat).toArray.all fun c => decide (c < 0x110000)) = true
    rw [List.all_toArray, List.all_eq_true]
    exact fun c hc => decide_eq_true (v c hc)
  · show ((s.toList.map Char.toNat).all fun c => decide (c < 16 ^ 8)) = true
    rw [List.all_eq_true]
    exact fun c hc => decide_eq_true (Nat.lt_of_lt_of_le (v c hc) (by decide))
theorem pool_of {n : Nat} {x d : D} {y2 : Sl} (h : Og n x) : ∃ ys : List D, ys.length ≤ 5 ∧ (∀ g ∈ ys, Rr (n + 1) g) ∧ (mSeq bnT (mSeq bnS (mSeq bnI bnR))) [.io 0 d, .fz x, y2, .fz (.lst pool0)] = bnR [.io 0 d, .fz x, y2, .fz (.lst (pool0 ++ ys))] := by
  cases x with
  | int i =>
    have hi : 0 ≤ i ∧ i < 10 ^ 50 := by cases n <;> exact h
    have l : i.natAbs.log2 < 1920 := by
      by_cases z : i.natAbs = 0
      · rw [z]; decide
      · exact Nat.lt_of_lt_of_le ((Nat.log2_lt z).mpr (Nat.lt_of_lt_of_le (show i.natAbs < 10 ^ 50 by omega) (show 10 ^ 50 ≤ 2 ^ 170 by decide))) (by decide)
    have st : dStr [.int i] = some (.str (toString i)) := if_pos l
    refine ⟨[.str (toString i), .int (i + 1), .int (i - 1), .tup [.int i]], by simp, fun g hg => ?_, ?_⟩
    · simp only [List.mem_cons, List.not_mem_nil, or_false] at hg
      rcases hg with rfl | rfl | rfl | rfl
      · have len : (PySem.Str.ofString (toString i)).cps.size ≤ 60 := by
          have e : (PySem.Str.ofString (toString i)).length ≤ 60 := by
            rw [PySem.ofString_length]
            exact Nat.le_trans (PySem.int_text_length_le10 (k := 50) (by decide) (by omega)) (by decide)
          exact e
        exact (Rr.str (okT_of _).1 (okT_of _).2 len).le (Nat.zero_le _)
      · exact (Rr.int (by omega)).le (Nat.zero_le _)
      · exact (Rr.int (by omega)).le (Nat.zero_le _)
      · exact (Rr.tup (n := 0) (by simp) fun d hd => by rw [List.mem_singleton.mp hd]; exact .int (by omega)).le (by omega)
    · have s1 : bnT [.io 0 d, .fz (.int i), y2, .fz (.lst pool0)] = .nx [.io 0 d, .fz (.int i), y2, .fz (.lst pool0)] := by
        unfold bnT
        rw [ifF_of (bool_of (fn1_of (frz_of (i := 1) rfl) rfl))]; rfl
      have s2 : bnS [.io 0 d, .fz (.int i), y2, .fz (.lst pool0)] = .nx [.io 0 d, .fz (.int i), y2, .fz (.lst pool0)] := by
        unfold bnS
        rw [ifF_of (bool_of (fn1_of (frz_of (i := 1) rfl) rfl))]; rfl
      have s3 : bnI [.io 0 d, .fz (.int i), y2, .fz (.lst pool0)] = .nx [.io 0 d, .fz (.int i), y2, .fz (.lst (pool0 ++ [.str (toString i), .int (i + 1), .int (i - 1), .tup [.int i]]))] := by
        unfold bnI
        rw [ifT_of (bool_of (fn1_of (frz_of (i := 1) rfl) rfl))]
        exact set_of' (i := 3) (op_of (frz_of (i := 3) rfl) (lst_of (cons_of (fn1_of (frz_of (i := 1) rfl) st) (cons_of (op_of (frz_of (i := 1) rfl) c_of rfl) (cons_of (op_of (frz_of (i := 1) rfl) c_of rfl) (cons_of (tup_of (cons_of (frz_of (i := 1) rfl) nil_of) (by simp)) nil_of)))) (by simp)) (add_lst29 (by show 16 + 4 ≤ 1000; decide))) rfl rfl
      rw [seq_of s1, seq_of s2, seq_of s3]
  | str w =>
    have hw : w ∈ [sNew, sLon, sSpl, sCro] := by
      have h : w = sNew ∨ w = sLon ∨ w = sSpl ∨ w = sCro := by cases n <;> exact h
      simpa using h
    have s1 : bnT [.io 0 d, .fz (.str w), y2, .fz (.lst pool0)] = .nx [.io 0 d, .fz (.str w), y2, .fz (.lst pool0)] := by
      unfold bnT
      rw [ifF_of (bool_of (fn1_of (frz_of (i := 1) rfl) rfl))]; rfl
    have w60 : w.length ≤ 60 := (w4 w hw).2.2
    have wl : w.length ≤ 60 ∧ dUpper (.str w) = some (.str (Txt.upper w)) := ⟨w60, by
      show (if w.length ≤ 5592405 then some (D.str (Txt.upper w)) else none) = _
      exact if_pos (by omega)⟩
    have ad : dAdd (.str w) (.str "s") = some (.str (w ++ "s")) := if_pos (by have := wl.1; show w.length + 1 ≤ 16000000; omega)
    have up : ∀ w ∈ [sNew, sLon, sSpl, sCro], (okT (Txt.upper w) = true ∧ ((Txt.upper w).cps.toList.all fun c => decide (c < 16 ^ 8)) = true ∧ (Txt.upper w).cps.size ≤ 60) ∧ (okT (w ++ ("s" : Str)) = true ∧ ((w ++ ("s" : Str)).cps.toList.all fun c => decide (c < 16 ^ 8)) = true ∧ (w ++ ("s" : Str)).cps.size ≤ 60) := by decide +kernel
    refine ⟨[.str (w ++ "s"), .str (Txt.upper w), .tup [.str w], .str "longer"], by simp, fun g hg => ?_, ?_⟩
    · simp only [List.mem_cons, List.not_mem_nil, or_false] at hg
      rcases hg with rfl | rfl | rfl | rfl
      · exact (Rr.str (up w hw).2.1 (up w hw).2.2.1 (up w hw).2.2.2).le (Nat.zero_le _)
      · exact (Rr.str (up w hw).1.1 (up w hw).1.2.1 (up w hw).1.2.2).le (Nat.zero_le _)
      · exact (Rr.tup (n := 0) (by simp) fun d hd => by rw [List.mem_singleton.mp hd]; exact .str (w4 w hw).1 (w4 w hw).2.1 (w4 w hw).2.2).le (by omega)
      · exact (rr_w (by decide)).le (Nat.zero_le _)
    · have s2 : bnS [.io 0 d, .fz (.str w), y2, .fz (.lst pool0)] = .nx [.io 0 d, .fz (.str w), y2, .fz (.lst (pool0 ++ [.str (w ++ "s"), .str (Txt.upper w), .tup [.str w], .str "longer"]))] := by
        unfold bnS
        rw [ifT_of (bool_of (fn1_of (frz_of (i := 1) rfl) rfl))]
        exact set_of' (i := 3) (op_of (frz_of (i := 3) rfl) (lst_of (cons_of (op_of (frz_of (i := 1) rfl) c_of ad) (cons_of (un_of (frz_of (i := 1) rfl) wl.2) (cons_of (tup_of (cons_of (frz_of (i := 1) rfl) nil_of) (by simp)) (cons_of c_of nil_of)))) (by simp)) (add_lst29 (by show 16 + 4 ≤ 1000; decide))) rfl rfl
      have s3 : bnI [.io 0 d, .fz (.str w), y2, .fz (.lst (pool0 ++ [.str (w ++ "s"), .str (Txt.upper w), .tup [.str w], .str "longer"]))] = .nx [.io 0 d, .fz (.str w), y2, .fz (.lst (pool0 ++ [.str (w ++ "s"), .str (Txt.upper w), .tup [.str w], .str "longer"]))] := by
        unfold bnI
        rw [ifF_of (bool_of (fn1_of (frz_of (i := 1) rfl) rfl))]; rfl
      rw [seq_of s1, seq_of s2, seq_of s3]
  | tup ds =>
    match n, h with
    | n + 1, h =>
      have h : ds.length ≤ 5 ∧ ∀ d ∈ ds, Og n d := h
      have r : ∀ d ∈ ds, Rr n d := fun d hd => (h.2 d hd).rr
      obtain ⟨c1, c2⟩ := cut_mem (ds := ds) (some (-1)) none
      obtain ⟨c3, c4⟩ := cut_mem (ds := ds) none (some (-1))
      refine ⟨[.lst ds, .tup ds.reverse, .tup (ds ++ cutD ds (some (-1)) none), .tup (cutD ds none (some (-1))), .tup [.tup ds]], by simp, fun g hg => ?_, ?_⟩
      · simp only [List.mem_cons, List.not_mem_nil, or_false] at hg
        rcases hg with rfl | rfl | rfl | rfl | rfl
        · exact (Rr.lst (by omega) r).up
        · exact (Rr.tup (by rw [List.length_reverse]; omega) fun d hd => r d (List.mem_reverse.mp hd)).up
        · exact (Rr.tup (by rw [List.length_append]; omega) fun d hd => by
            rcases List.mem_append.mp hd with hd | hd
            · exact r d hd
            · exact r d (c2 d hd)).up
        · exact (Rr.tup (by omega) fun d hd => r d (c4 d hd)).up
        · exact Rr.tup (by simp) fun d hd => by rw [List.mem_singleton.mp hd]; exact .tup (by omega) r
      · have s1 : bnT [.io 0 d, .fz (.tup ds), y2, .fz (.lst pool0)] = .nx [.io 0 d, .fz (.tup ds), y2, .fz (.lst (pool0 ++ [.lst ds, .tup ds.reverse, .tup (ds ++ cutD ds (some (-1)) none), .tup (cutD ds none (some (-1))), .tup [.tup ds]]))] := by
          unfold bnT
          rw [ifT_of (bool_of (fn1_of (frz_of (i := 1) rfl) rfl))]
          have k1 : mSlP 1 (oSome (mUn dNeg (mC (.int 1)))) oNone [.io 0 d, .fz (.tup ds), y2, .fz (.lst pool0)] = .ok (.tup (cutD ds (some (-1)) none)) [.io 0 d, .fz (.tup ds), y2, .fz (.lst pool0)] := rfl
          have k2 : mSlP 1 oNone (oSome (mUn dNeg (mC (.int 1)))) [.io 0 d, .fz (.tup ds), y2, .fz (.lst pool0)] = .ok (.tup (cutD ds none (some (-1)))) [.io 0 d, .fz (.tup ds), y2, .fz (.lst pool0)] := rfl
          exact set_of' (i := 3) (op_of (frz_of (i := 3) rfl) (lst_of (cons_of (fnF1_of (F := nList) (frz_of (i := 1) rfl) rfl) (cons_of (un_of (g := dRev2) (z := .tup ds.reverse) (frz_of (i := 1) rfl) rfl) (cons_of (op_of (frz_of (i := 1) rfl) k1 (add_tup29 (by omega))) (cons_of k2 (cons_of (tup_of (cons_of (frz_of (i := 1) rfl) nil_of) (by simp)) nil_of))))) (by simp)) (add_lst29 (by show 16 + 5 ≤ 1000; decide))) rfl rfl
        have s2 : ∀ p, bnS [.io 0 d, .fz (.tup ds), y2, .fz (.lst p)] = .nx [.io 0 d, .fz (.tup ds), y2, .fz (.lst p)] := fun p => by
          unfold bnS
          rw [ifF_of (bool_of (fn1_of (frz_of (i := 1) rfl) rfl))]; rfl
        have s3 : ∀ p, bnI [.io 0 d, .fz (.tup ds), y2, .fz (.lst p)] = .nx [.io 0 d, .fz (.tup ds), y2, .fz (.lst p)] := fun p => by
          unfold bnI
          rw [ifF_of (bool_of (fn1_of (frz_of (i := 1) rfl) rfl))]; rfl
        rw [seq_of s1, seq_of (s2 _), seq_of (s3 _)]
  | _ => cases n <;> exact absurd h (by simp [Og])
end Sm
set_option Elab.async false
set_option linter.all false
set_option maxRecDepth 100000
set_option maxHeartbeats 1000000
namespace Sm
open PySem PySem.Spec PyProof.Rows L2
theorem fdivW {i n : Int} (hn : 0 < n) (h2 : n ≤ 10 ^ 41) : dFdiv (.int i) (.int n) = some (.int (i / n)) := if_pos ⟨hn, Nat.lt_of_le_of_lt (show n.natAbs ≤ 10 ^ 41 by omega) (Nat.lt_of_lt_of_le (show 10 ^ 41 < 2 ^ 200 by decide) (Nat.pow_le_pow_right (by decide) (by decide)))⟩
theorem take1W {a b c n : Int} (ha : 0 < a) (hn : 0 < n) (hn2 : n ≤ 10 ^ 41) : f_take [bx a b c, .int n] = .ok (.int (a % n)) [some (bx (a / n) b c), none] := by
  simp [f_take, mkF, b_take, argS, bx, ha, hn, fdivW hn hn2, outD, outE]
theorem take_okW {k n : Int} {d : D} (h : Box k d) (hk : 1 ≤ k) (hn : 0 < n) (hn2 : n ≤ 10 ^ 41) : ∃ r d', f_take [d, .int n] = .ok (.int r) [some d', none] ∧ 0 ≤ r ∧ r < n ∧ Box (k - 1) d' := by
  obtain ⟨a, b, c, rfl, h1, h2, h3, h4, h5⟩ := h
  by_cases ha : 0 < a
  · exact ⟨_, _, take1W ha hn hn2, Int.emod_nonneg _ (by omega), Int.emod_lt_of_pos _ hn, a / n, b, c, rfl, Int.ediv_nonneg h1 (by omega), h2, h3, h4, by omega⟩
  · exact ⟨_, _, take2 (by omega) h2 h3 h4 (by omega) hn, Int.emod_nonneg _ (by omega), Int.emod_lt_of_pos _ hn, a, b, c + 1, rfl, h1, h2, h3, by omega, by omega⟩
theorem callIo2i {fn : List D → RF} {d0 d a v d' : D} {τ τ1 : List Sl} {ma : M D} (h : fn [d, a] = .ok v [some d', none]) (h1 : ma (.io 0 d0 :: τ) = .ok a (.io 0 d :: τ1)) : mCall [true, false] fn 2 0 [0, 1] [] (aIo 0 (aV ma aNil)) mNil (.io 0 d0 :: τ) = .ok v (.io 0 d' :: τ1) := by
  have n : aV ma aNil (.io 0 d0 :: τ) = .ok [.v a] (.io 0 d :: τ1) := by unfold aV; rw [h1]; rfl
  show (((aV ma aNil (.io 0 d0 :: τ)).bind fun xs => fun τ => Res.ok (Ar.io 0 :: xs) τ).bind _) = _
  rw [n]
  show callB (some (0, 0)) (fn [d, a]) (.io 0 d :: τ1) = _
  rw [h]; rfl
theorem stay_okW {k n : Int} {d : D} (h : Box k d) (hk : 2 ≤ k) (hn : 0 < n) (hn2 : n ≤ 10 ^ 41) : ∃ a b d', f_stay [d, .int n] = .ok (.tup [.int a, .int b]) [some d', none] ∧ 0 ≤ a ∧ a ≤ b ∧ b < n ∧ Box (k - 2) d' := by
  obtain ⟨r1, d1, t1, p1, p2, h1⟩ := take_okW h (by omega) hn hn2
  obtain ⟨r2, d2, t2, q1, q2, h2⟩ := take_okW h1 (by omega) hn hn2
  have e1 := callIo2i (τ := [.fz (.int n), .un]) (ma := mVar 1) t1 (frz_of (i := 1) rfl)
  have e2 := callIo2i (τ := [.fz (.int n), .un]) (ma := mVar 1) t2 (frz_of (i := 1) rfl)
  have mn : dMin1 [.lst [.int r1, .int r2]] = some (.int (if r2 < r1 then r2 else r1)) := rfl
  have mx : dMax1 [.lst [.int r1, .int r2]] = some (.int (if r2 > r1 then r2 else r1)) := rfl
  refine ⟨if r2 < r1 then r2 else r1, if r2 > r1 then r2 else r1, d2, ?_, by split <;> omega, by split <;> split <;> omega, by split <;> omega, h2.le (by omega)⟩
  simp [f_stay, mkF, b_stay, argS, -ev_call, e1, e2, small, mn, mx, outD, outE]
theorem rest29 {n : Nat} {k : Int} {x d : D} (h : Og n x) (hb : Box k d) (hk : 1 ≤ k) : ∃ (g d' : D) (τ : List Sl), (mSeq bn3 (mSeq bnT (mSeq bnS (mSeq bnI bnR)))) [.io 0 d, .fz x, .un, .un] = .rt g (.io 0 d' :: .fz x :: τ) ∧ Rr (n + 1) g ∧ Box (k - 1) d' := by
  obtain ⟨ys, yl, yr, e⟩ := pool_of (d := d) (y2 := .un) h
  obtain ⟨g, d', hg, h', e2⟩ := of_draw (gs := pool0 ++ ys) (q := .lst (pool0 ++ ys)) (τ := [.fz x, .un, .fz (.lst (pool0 ++ ys))]) (mq := mVar 3) hb hk (by simp [pool0]) (by rw [List.length_append]; show 16 + ys.length ≤ 16000000; omega) (.inl rfl) (frz_of (i := 3) rfl)
  refine ⟨g, d', [.un, .fz (.lst (pool0 ++ ys))], ?_, ?_, h'⟩
  · rw [seq_of (bn3_ok rfl), e]
    exact ret_of e2
  · rcases List.mem_append.mp hg with hg | hg
    · exact (pool0_ok g hg).le (by omega)
    · exact yr g hg
theorem bent29 : ∀ (m n : Nat) (k : Int) (x d : D), n < m → Og n x → Box k d → 3 * (n : Int) + 3 ≤ k → ∃ g d', ff_bent m [d, x] = .ok g [some d', none] ∧ Rr (n + 1) g ∧ Box (k - (3 * (n : Int) + 3)) d'
  | 0, n, _, _, _, hm, _, _, _ => absurd hm (Nat.not_lt_zero n)
  | m + 1, n, k, x, d, hm, ho, hb, hk => by
    have run : ∀ (g d' : D) (τ : List Sl), b_bent (ff_bent m) [.io 0 d, .fz x, .un, .un] = .rt g (.io 0 d' :: .fz x :: τ) → ff_bent (m + 1) [d, x] = .ok g [some d', none] := fun g d' τ e => by
      show mkF 4 [true, false] (b_bent (ff_bent m)) [d, x] = _
      rw [mkF_fin]
      refine Eq.trans (if_pos rfl) ?_
      show fin [true, false] (b_bent (ff_bent m) [.io 0 d, .fz x, .un, .un]) = _
      rw [e]
      rfl
    have no : ∀ (d1 : D) (k1 : Int), Box k1 d1 → 1 ≤ k1 → k - (3 * (n : Int) + 3) ≤ k1 - 1 → bn1 (ff_bent m) [.io 0 d, .fz x, .un, .un] = .nx [.io 0 d1, .fz x, .un, .un] → ∃ g d', ff_bent (m + 1) [d, x] = .ok g [some d', none] ∧ Rr (n + 1) g ∧ Box (k - (3 * (n : Int) + 3)) d' := fun d1 k1 h1 hk1 hle e => by
      obtain ⟨g, d', τ, e2, r, h'⟩ := rest29 ho h1 hk1
      exact ⟨g, d', run g d' τ (by rw [bent_is, seq_of e, e2]), r, h'.le (by omega)⟩
    have leaf : dIsi "tuple" [x] = some (.bl false) → bn1 (ff_bent m) [.io 0 d, .fz x, .un, .un] = .nx [.io 0 d, .fz x, .un, .un] := fun h => by
      unfold bn1
      rw [ifF_of (andF_of (bool_of (fn1_of (frz_of (i := 1) rfl) h)))]; rfl
    cases x with
    | int i => exact no d k hb (by omega) (by omega) (leaf rfl)
    | str w => exact no d k hb (by omega) (by omega) (leaf rfl)
    | tup ds =>
      match n, hm, ho, hk, no with
      | n + 1, hm, ho, hk, no =>
        have ho : ds.length ≤ 5 ∧ ∀ d ∈ ds, Og n d := ho
        have tt : mB (mFn (dIsi "tuple") (mCons (mVar 1) mNil)) [.io 0 d, .fz (.tup ds), .un, .un] = .ok true [.io 0 d, .fz (.tup ds), .un, .un] := bool_of (fn1_of (frz_of (i := 1) rfl) rfl)
        have ln : mB (mOp dGt (mFn dLen (mCons (mVar 1) mNil)) (mC (.int 0))) [.io 0 d, .fz (.tup ds), .un, .un] = .ok (decide (((ds.length : Nat) : Int) > 0)) [.io 0 d, .fz (.tup ds), .un, .un] := bool_of (op_of (f := dGt) (fn1_of (frz_of (i := 1) rfl) len_tup) c_of rfl)
        by_cases h0 : 0 < ds.length
        · rw [decide_eq_true (by omega)] at ln
          obtain ⟨r, d1, t1, r0, r3, h1⟩ := take_ok (n := 3) hb (by omega) (by decide) (by decide)
          have tk := bool_of (op_of (f := dGt) (z := .bl (decide (r > 0))) (callIo2i (τ := [.fz (.tup ds), .un, .un]) (ma := mC (.int 3)) t1 c_of) (c_of (d := .int 0)) rfl)
          by_cases hr : 0 < r
          · rw [decide_eq_true (by omega)] at tk
            obtain ⟨s, d2, t2, s0, s1, h2⟩ := take_ok (n := ((ds.length : Nat) : Int)) h1 (by push_cast at hk; omega) (by omega) (by omega)
            have st := set_of' (i := 2) (callIo2i (τ := [.fz (.tup ds), .un, .un]) (ma := mFn dLen (mCons (mVar 1) mNil)) t2 (fn1_of (frz_of (i := 1) rfl) len_tup)) rfl rfl
            have hs : s.toNat < ds.length := by omega
            obtain ⟨g, d3, e3, rg, h3⟩ := bent29 m n (k - 1 - 1) ds[s.toNat] d2 (by omega) (ho.2 _ (List.getElem_mem hs)) h2 (by push_cast at hk; omega)
            have ix : dIx (.tup ds) (.int s) = some ds[s.toNat] := by
              have := at_i (ds := ds) (i := s.toNat) (List.getElem?_eq_getElem hs)
              rwa [Int.toNat_of_nonneg s0] at this
            have cl := callIo2i (τ := [.fz (.tup ds), .fz (.int s), .un]) (ma := mPk 1 dIx (mVar 2)) e3 (pk_of rfl (frz_of (i := 2) rfl) rfl ix)
            obtain ⟨c1, c2⟩ := cut_mem (ds := ds) none (some s)
            obtain ⟨c3, c4⟩ := cut_mem (ds := ds) (some (s + 1)) none
            have rt : mRet (mOp dAdd (mOp dAdd (mSlP 1 oNone (oSome (mVar 2))) (mTup (mCons (mCall [true, false] (ff_bent m) 2 0 [0, 1] [] (aIo 0 (aV (mPk 1 dIx (mVar 2)) aNil)) mNil) mNil))) (mSlP 1 (oSome (mOp dAdd (mVar 2) (mC (.int 1)))) oNone)) [.io 0 d2, .fz (.tup ds), .fz (.int s), .un] = .rt (.tup (cutD ds none (some s) ++ [g] ++ cutD ds (some (s + 1)) none)) [.io 0 d3, .fz (.tup ds), .fz (.int s), .un] := by
              have k1 : mSlP 1 oNone (oSome (mVar 2)) [.io 0 d2, .fz (.tup ds), .fz (.int s), .un] = .ok (.tup (cutD ds none (some s))) [.io 0 d2, .fz (.tup ds), .fz (.int s), .un] := rfl
              have k2 : mSlP 1 (oSome (mOp dAdd (mVar 2) (mC (.int 1)))) oNone [.io 0 d3, .fz (.tup ds), .fz (.int s), .un] = .ok (.tup (cutD ds (some (s + 1)) none)) [.io 0 d3, .fz (.tup ds), .fz (.int s), .un] := rfl
              exact ret_of (op_of (op_of k1 (tup_of (cons_of cl nil_of) (by simp)) (add_tup29 (by rw [List.length_singleton]; omega))) k2 (add_tup29 (by rw [List.length_append, List.length_singleton]; omega)))
            have b1 : bn1 (ff_bent m) [.io 0 d, .fz (.tup ds), .un, .un] = .rt (.tup (cutD ds none (some s) ++ [g] ++ cutD ds (some (s + 1)) none)) [.io 0 d3, .fz (.tup ds), .fz (.int s), .un] := by
              unfold bn1
              rw [ifT_of (andT_of tt (andT_of ln tk))]
              exact (seq_of st).trans rt
            refine ⟨_, d3, run _ d3 _ (by rw [bent_is, seqR_of b1]), Rr.tup (by rw [List.length_append, List.length_append, List.length_singleton]; omega) fun y hy => ?_, h3.le (by push_cast; omega)⟩
            rcases List.mem_append.mp hy with hy | hy
            · rcases List.mem_append.mp hy with hy | hy
              · exact (Og.rr (ho.2 y (c2 y hy))).up
              · rw [List.mem_singleton.mp hy]; exact rg
            · exact (Og.rr (ho.2 y (c4 y hy))).up
          · rw [decide_eq_false (by omega)] at tk
            refine no d1 (k - 1) h1 (by push_cast at hk; omega) (by push_cast; omega) ?_
            unfold bn1
            rw [ifF_of (andT_of tt (andT_of ln tk))]; rfl
        · rw [decide_eq_false (by omega)] at ln
          refine no d k hb (by push_cast at hk; omega) (by push_cast; omega) ?_
          unfold bn1
          rw [ifF_of (andT_of tt (andF_of ln))]; rfl
    | _ => cases n <;> exact absurd ho (by simp [Og])
end Sm
set_option Elab.async false
set_option linter.all false
set_option maxRecDepth 100000
set_option maxHeartbeats 1000000
namespace Sm
open PySem PySem.Spec PyProof.Rows L2
def Kd (s : Int) (x : D) : Prop := Og 2 x ∧ ((s = 0 ∧ tickB x = true) ∨ (s = 1 ∧ stayB x = true) ∨ (s = 2 ∧ rowB x = true) ∨ (s = 3 ∧ moveB x = true))
abbrev S6 (d : D) (x1 x2 x3 x4 x5 : Sl) : List Sl := [.io 0 d, x1, x2, x3, x4, x5]
theorem og_int {n : Nat} {i : Int} (h0 : 0 ≤ i) (h1 : i < 10 ^ 50) : Og n (.int i) := by cases n <;> exact ⟨h0, h1⟩
theorem og_str {n : Nat} {w : Str} (h : w = sNew ∨ w = sLon ∨ w = sSpl ∨ w = sCro) : Og n (.str w) := by cases n <;> exact h
theorem og_pr {n : Nat} {a b : Int} (a0 : 0 ≤ a) (a1 : a < 10 ^ 50) (b0 : 0 ≤ b) (b1 : b < 10 ^ 50) : Og (n + 1) (pr2 a b) := ⟨by simp, fun d hd => by
  rcases List.mem_cons.mp hd with rfl | hd
  · exact og_int a0 a1
  · rw [List.mem_singleton.mp hd]; exact og_int b0 b1⟩
theorem stay_t {a b : Int} (a0 : 0 ≤ a) (ab : a ≤ b) : stayB (pr2 a b) = true := by
  show (decide (0 ≤ a) && (decide (0 ≤ b) && decide (a ≤ b))) = true
  rw [decide_eq_true a0, decide_eq_true (by omega : 0 ≤ b), decide_eq_true ab]; rfl
theorem deed_kd {hh : Int} {v : Deed} (g : Good hh v) (h : hh ≤ 20) : Kd 3 (eD v) := by
  cases v with
  | new p =>
    obtain ⟨a0, ab, b1⟩ := g
    refine ⟨⟨by simp, fun d hd => ?_⟩, .inr (.inr (.inr ⟨rfl, ?_⟩))⟩
    · rcases List.mem_cons.mp hd with rfl | hd
      · exact og_str (.inl rfl)
      · rw [List.mem_singleton.mp hd]; exact og_pr a0 (by omega) (by omega) (by omega)
    · show (stayB (pr2 p.1 p.2) && decide (sNew = sNew)) = true
      rw [stay_t a0 ab]; rfl
  | longer p q =>
    obtain ⟨q0, qp, pp, pq, q1, ne⟩ := g
    refine ⟨⟨by simp, fun d hd => ?_⟩, .inr (.inr (.inr ⟨rfl, ?_⟩))⟩
    · rcases List.mem_cons.mp hd with rfl | hd
      · exact og_str (.inr (.inl rfl))
      · rcases List.mem_cons.mp hd with rfl | hd
        · exact og_pr (by omega) (by omega) (by omega) (by omega)
        · rw [List.mem_singleton.mp hd]; exact og_pr (by omega) (by omega) (by omega) (by omega)
    · show (stayB (pr2 p.1 p.2) && move3 sLon p.1 p.2 (pr2 q.1 q.2)) = true
      have e : move3 sLon p.1 p.2 (pr2 q.1 q.2) = (stayB (pr2 q.1 q.2) && (decide (q.1 ≤ p.1) && (decide (p.2 ≤ q.2) && decide (p.2 - p.1 < q.2 - q.1)))) := (if_neg (by decide)).trans (if_pos rfl)
      rw [e, stay_t (by omega) (by omega), stay_t (by omega) (by omega), decide_eq_true qp, decide_eq_true pq, decide_eq_true (by omega)]; rfl
  | split p m =>
    obtain ⟨a0, am, mb, b1⟩ := g
    refine ⟨⟨by simp, fun d hd => ?_⟩, .inr (.inr (.inr ⟨rfl, ?_⟩))⟩
    · rcases List.mem_cons.mp hd with rfl | hd
      · exact og_str (.inr (.inr (.inl rfl)))
      · rcases List.mem_cons.mp hd with rfl | hd
        · exact og_pr (by omega) (by omega) (by omega) (by omega)
        · rw [List.mem_singleton.mp hd]; exact og_int (by omega) (by omega)
    · show (stayB (pr2 p.1 p.2) && move3 sSpl p.1 p.2 (.int m)) = true
      have e : move3 sSpl p.1 p.2 (.int m) = (decide (0 ≤ m) && (decide (p.1 ≤ m) && decide (m < p.2))) := if_pos rfl
      rw [e, stay_t (by omega) (by omega), decide_eq_true (by omega : 0 ≤ m), decide_eq_true am, decide_eq_true mb]; rfl
  | cross p q =>
    obtain ⟨a0, pq, qq, qp, b1⟩ := g
    refine ⟨⟨by simp, fun d hd => ?_⟩, .inr (.inr (.inr ⟨rfl, ?_⟩))⟩
    · rcases List.mem_cons.mp hd with rfl | hd
      · exact og_str (.inr (.inr (.inr rfl)))
      · rcases List.mem_cons.mp hd with rfl | hd
        · exact og_pr (by omega) (by omega) (by omega) (by omega)
        · rw [List.mem_singleton.mp hd]; exact og_pr (by omega) (by omega) (by omega) (by omega)
    · show (stayB (pr2 p.1 p.2) && move3 sCro p.1 p.2 (pr2 q.1 q.2)) = true
      have e : move3 sCro p.1 p.2 (pr2 q.1 q.2) = (stayB (pr2 q.1 q.2) && (decide (p.1 < q.1) && decide (q.2 < p.2))) := (if_neg (by decide)).trans ((if_neg (by decide)).trans (if_pos rfl))
      rw [e, stay_t (by omega) (by omega), stay_t (by omega) (by omega), decide_eq_true pq, decide_eq_true qp]; rfl
theorem drawn29 {k : Int} {d : D} (h : Box k d) (hk : 20 ≤ k) : ∃ (s : Int) (x d' : D) (x3 : Sl), x3 = .un ∧ 0 ≤ s ∧ s < 4 ∧ Kd s x ∧ Box (k - 12) d' ∧
    (mSeq b_right_0 (mSeq b_right_1 (mSeq b_right_2 (mSeq b_right_3 (mSeq b_right_4 (mSeq b_right_5 b_right_6)))))) (S6 d .un .un .un .un .un) = (mSeq b_right_4 (mSeq b_right_5 b_right_6)) (S6 d' (.fz (.int s)) (.fz x) .un .un .un) := by
  obtain ⟨s, d1, t1, s0, s4, h1⟩ := take_ok (n := 4) h (by omega) (by decide) (by decide)
  obtain ⟨r, d2, t2, r0, r9, h2⟩ := take_ok (n := 9) h1 (by omega) (by decide) (by decide)
  have e0 : b_right_0 (S6 d .un .un .un .un .un) = .nx (S6 d2 (.fz (.int s)) (.fz (.int r)) .un .un .un) := by
    rw [b_right_0]
    exact par_of (callIo2i t1 c_of) (callIo2i t2 c_of) rfl rfl rfl rfl
  have q1 : ∀ (d : D) (x : D), s ≠ 1 → b_right_1 (S6 d (.fz (.int s)) (.fz x) .un .un .un) = .nx (S6 d (.fz (.int s)) (.fz x) .un .un .un) := fun d x hs => by
    rw [b_right_1, ifF_of (by rw [bool_of (op_of (frz_of (i := 1) rfl) c_of (eqI _ _)), decide_eq_false hs])]; rfl
  have q2 : ∀ (d : D) (x : D), s ≠ 2 → b_right_2 (S6 d (.fz (.int s)) (.fz x) .un .un .un) = .nx (S6 d (.fz (.int s)) (.fz x) .un .un .un) := fun d x hs => by
    rw [b_right_2, ifF_of (by rw [bool_of (op_of (frz_of (i := 1) rfl) c_of (eqI _ _)), decide_eq_false hs])]; rfl
  have q3 : ∀ (d : D) (x : D), s ≠ 3 → b_right_3 (S6 d (.fz (.int s)) (.fz x) .un .un .un) = .nx (S6 d (.fz (.int s)) (.fz x) .un .un .un) := fun d x hs => by
    rw [b_right_3, ifF_of (by rw [bool_of (op_of (frz_of (i := 1) rfl) c_of (eqI _ _)), decide_eq_false hs])]; rfl
  have tst : ∀ (n : Int) (d : D) (x : D), s = n → mB (mOp dEq (mVar 1) (mC (.int n))) (S6 d (.fz (.int s)) (.fz x) .un .un .un) = .ok true (S6 d (.fz (.int s)) (.fz x) .un .un .un) := fun n d x hs => by
    rw [bool_of (op_of (frz_of (i := 1) rfl) c_of (eqI _ _)), decide_eq_true hs]
  by_cases c1 : s = 1
  · obtain ⟨g, d3, hg, h3, e3⟩ := of_draw (gs := [.int 3, .int 9, .int (10 ^ 40)]) (q := .lst [.int 3, .int 9, .int (10 ^ 40)]) (τ := [.fz (.int s), .fz (.int r), .un, .un, .un]) (mq := mLst (mCons (mC (.int 3)) (mCons (mC (.int 9)) (mCons (mOp dPow (mC (.int 10)) (mC (.int 40))) mNil)))) h2 (by omega) (by simp) (by simp) (.inl rfl) (lst_of (cons_of c_of (cons_of c_of (cons_of (op_of c_of c_of (by kernel_rfl)) nil_of))) (by simp))
    obtain ⟨n, rfl, n0, n1⟩ : ∃ n : Int, g = .int n ∧ 0 < n ∧ n ≤ 10 ^ 40 := by
      simp only [List.mem_cons, List.not_mem_nil, or_false] at hg
      rcases hg with rfl | rfl | rfl
      · exact ⟨3, rfl, by decide, by decide⟩
      · exact ⟨9, rfl, by decide, by decide⟩
      · exact ⟨10 ^ 40, rfl, by decide, by decide⟩
    obtain ⟨a, b, d4, e4, a0, ab, bn, h4⟩ := stay_okW h3 (by omega) n0 (by omega)
    have e1 : b_right_1 (S6 d2 (.fz (.int s)) (.fz (.int r)) .un .un .un) = .nx (S6 d4 (.fz (.int s)) (.fz (pr2 a b)) .un .un .un) := by
      rw [b_right_1, ifT_of (tst 1 _ _ c1)]
      exact set_of' (i := 2) (callIo2i e4 e3) rfl rfl
    refine ⟨s, pr2 a b, d4, .un, rfl, s0, s4, ⟨og_pr a0 (by omega) (by omega) (by omega), .inr (.inl ⟨c1, stay_t a0 ab⟩)⟩, h4.le (by omega), ?_⟩
    rw [seq_of e0, seq_of e1, seq_of (q2 _ _ (by omega)), seq_of (q3 _ _ (by omega))]
  · by_cases c2 : s = 2
    · obtain ⟨n, d3, t3, n0, n6, h3⟩ := take_ok (n := 6) h2 (by omega) (by decide) (by decide)
      have rn : rng1 [.int n] = some ((iota n).map .int) := rng1_of (by omega) (by omega)
      obtain ⟨ys, d4, e4, y4, l4, h4⟩ := lcI_end (g := gN 3) (tt := mYes) (m := mCall [true, false] f_take 2 0 [0, 1] [] (aIo 0 (aV (mC (.int 9)) aNil)) mNil) (vs := [3]) (f := D.int) (S := fun d => S6 d (.fz (.int s)) (.fz (.int r)) .un .un .un) (I := fun m d => Box ((m : Nat) + (k - 9)) d) (Y := fun y => ∃ p : Int, y = .int p ∧ (0 ≤ p ∧ p < 9)) (iota n) (by
        intro x _ m z hB
        obtain ⟨v, z', tz, v0, v9, hB'⟩ := take_ok (n := 9) hB (by omega) (by decide) (by decide)
        exact ⟨_, z', lcOne_of (τ1 := [.io 0 z, .fz (.int s), .fz (.int r), .fz (.int x), .un, .un]) rfl (callIo2i tz c_of) rfl, ⟨v, rfl, v0, v9⟩, hB'.le (by omega)⟩) 0 d3 (h3.le (by rw [iota_len]; omega)) (by rw [iota_len]; omega) rfl
      obtain ⟨vs, rfl, hv⟩ := list_ints y4
      rw [List.length_map, iota_len] at l4
      have lc : mLc (mOns rng1 (mCons (mCall [true, false] f_take 2 0 [0, 1] [] (aIo 0 (aV (mC (.int 6)) aNil)) mNil) mNil)) (gN 3) mYes (mCall [true, false] f_take 2 0 [0, 1] [] (aIo 0 (aV (mC (.int 9)) aNil)) mNil) [3] (S6 d2 (.fz (.int s)) (.fz (.int r)) .un .un .un) = .ok (.lst (vs.map .int)) (S6 d4 (.fz (.int s)) (.fz (.int r)) .un .un .un) := by
        rw [ev_lc, ons_of (cons_of (callIo2i t3 c_of) nil_of) rn]
        exact e4
      have st : dSet7 [.lst (vs.map .int)] = some (.set ((sortU vs).map .int)) := set_ints (by omega)
      have sl := sortU_len vs
      have e2 : b_right_2 (S6 d2 (.fz (.int s)) (.fz (.int r)) .un .un .un) = .nx (S6 d4 (.fz (.int s)) (.fz (.tup ((sortU vs).map .int))) .un .un .un) := by
        rw [b_right_2, ifT_of (tst 2 _ _ c2)]
        exact set_of' (i := 2) (fn1_of (F := dTuple) (fnF1_of (F := nSorted5) (fn1_of (F := dSet7) lc st) (sorted_set_ints (by omega))) rfl) rfl rfl
      have nn : ∀ n ∈ sortU vs, 0 ≤ n ∧ n < 9 := fun n hn => hv n (sortU_mem.mp hn)
      refine ⟨s, .tup ((sortU vs).map .int), d4, .un, rfl, s0, s4, ⟨⟨by rw [List.length_map]; omega, fun d hd => ?_⟩, .inr (.inr (.inl ⟨c2, ?_⟩))⟩, h4.le (by omega), ?_⟩
      · obtain ⟨y, hy, rfl⟩ := List.mem_map.mp hd
        have := nn y hy
        exact og_int this.1 (by omega)
      · rw [row_ints fun n hn => (nn n hn).1]
        exact decide_eq_true (sortU_pw vs)
      · rw [seq_of e0, seq_of (q1 _ _ (by omega)), seq_of e2, seq_of (q3 _ _ (by omega))]
    · by_cases c3 : s = 3
      · obtain ⟨n, d3, t3, n0, n6, h3⟩ := take_ok (n := 6) h2 (by omega) (by decide) (by decide)
        obtain ⟨v, d4, e4, g, h4⟩ := deedG (hh := 4 + n) h3 (by omega) (by omega) (by omega)
        have e3 : b_right_3 (S6 d2 (.fz (.int s)) (.fz (.int r)) .un .un .un) = .nx (S6 d4 (.fz (.int s)) (.fz (eD v)) .un .un .un) := by
          rw [b_right_3, ifT_of (tst 3 _ _ c3)]
          exact set_of' (i := 2) (callIo2i e4 (op_of (f := dAdd) c_of (callIo2i t3 c_of) rfl)) rfl rfl
        refine ⟨s, eD v, d4, .un, rfl, s0, s4, ?_, h4.le (by omega), ?_⟩
        · rw [c3]; exact deed_kd g (by omega)
        · rw [seq_of e0, seq_of (q1 _ _ (by omega)), seq_of (q2 _ _ (by omega)), seq_of e3]
      · refine ⟨s, .int r, d2, .un, rfl, s0, s4, ⟨og_int r0 (by omega), .inl ⟨by omega, decide_eq_true r0⟩⟩, h2.le (by omega), ?_⟩
        rw [seq_of e0, seq_of (q1 _ _ c1), seq_of (q2 _ _ c2), seq_of (q3 _ _ c3)]
end Sm
set_option Elab.async false
set_option linter.all false
set_option maxRecDepth 100000
set_option maxHeartbeats 1000000
namespace Sm
open PySem PySem.Spec PyProof.Rows L2
theorem told_fine (x : D) : fine 6 (toldD x) = true := rfl
theorem told_at {s : Int} {x : D} (h : Kd s x) : dIx (toldD x) (.int s) = some (.bl true) := by
  rcases h.2 with ⟨rfl, e⟩ | ⟨rfl, e⟩ | ⟨rfl, e⟩ | ⟨rfl, e⟩
  · show some (D.bl (tickB x)) = _
    rw [e]
  · show some (D.bl (stayB x)) = _
    rw [e]
  · show some (D.bl (rowB x)) = _
    rw [e]
  · show some (D.bl (moveB x)) = _
    rw [e]
theorem same29 {i : Nat} {x : D} {τ : List Sl} (h : Pl x) (hi : τ[i]? = some (.fz x)) : mNot (mB (mCall [false, false] f_same 2 0 [0, 1] [] (aV (mCall [false] f_told 1 0 [0] [] (aV (mVar i) aNil) mNil) (aV (mCall [false] f_due 1 0 [0] [] (aV (mVar i) aNil) mNil) aNil)) mNil)) τ = .ok false τ := by
  obtain ⟨o, sm⟩ := same_fine (told_fine x)
  exact not_of (c := true) (bool_of (call2_of (call1_of (frz_of hi) (told29 h)) (call1_of (frz_of hi) (due29 h)) sm))
theorem first29 {s : Int} {x d : D} (h : Kd s x) : b_right_4 (S6 d (.fz (.int s)) (.fz x) .un .un .un) = .nx (S6 d (.fz (.int s)) (.fz x) .un .un .un) := by
  have p := h.1.rr.pl
  rw [b_right_4, ifF_of (orF_of (same29 p rfl) (bool_of (op_of (f := dNotB) (z := .bl false) (op_of (call1_of (frz_of (i := 2) rfl) (due29 p)) (frz_of (i := 1) rfl) (told_at h)) c_of rfl)))]
  rfl
def bt29 : MS := mSeq (mSet 4 (mCall [true, false] f_bent 2 0 [0, 1] [] (aIo 0 (aV (mVar 2) aNil)) mNil))
    (mSeq (mSet 5 (mFn dRepr (mCons (mVar 4) mNil)))
    (mIfS (mOr (mNot (mB (mCall [false, false] f_same 2 0 [0, 1] [] (aV (mCall [false] f_told 1 0 [0] [] (aV (mVar 4) aNil) mNil) (aV (mCall [false] f_due 1 0 [0] [] (aV (mVar 4) aNil) mNil) aNil)) mNil))) (mB (mOp dNeS (mFn dRepr (mCons (mVar 4) mNil)) (mVar 5)))) (mRet (mC (.bl false))) mNx))
theorem right5_is : b_right_5 = mFor (mOns rng1 (mCons (mC (.int 4)) mNil)) (gN 3) bt29 := rfl
theorem bturn {k : Int} {d x : D} {s1 s3 x4 x5 : Sl} (h : Og 2 x) (hb : Box k d) (hk : 9 ≤ k) (f4 : x4.free = true) (f5 : x5.free = true) : ∃ (d' : D) (y4 y5 : Sl), y4.free = true ∧ y5.free = true ∧ Box (k - 9) d' ∧ bt29 (S6 d s1 (.fz x) s3 x4 x5) = .nx (S6 d' s1 (.fz x) s3 y4 y5) := by
  obtain ⟨g, d', e, r, h'⟩ := bent29 6 2 k x d (by decide) h hb (by omega)
  obtain ⟨t, e1, e2⟩ := Rr.repr (by decide) r
  refine ⟨d', .fz g, .fz (.str t), rfl, rfl, h'.le (by omega), ?_⟩
  have s4 : mSet 4 (mCall [true, false] f_bent 2 0 [0, 1] [] (aIo 0 (aV (mVar 2) aNil)) mNil) (S6 d s1 (.fz x) s3 x4 x5) = .nx (S6 d' s1 (.fz x) s3 (.fz g) x5) := set_of' (i := 4) (callIo2i e (frz_of (i := 2) rfl)) rfl f4
  have s5 : mSet 5 (mFn dRepr (mCons (mVar 4) mNil)) (S6 d' s1 (.fz x) s3 (.fz g) x5) = .nx (S6 d' s1 (.fz x) s3 (.fz g) (.fz (.str t))) := set_of' (i := 5) (fn1_of (frz_of (i := 4) rfl) e1) rfl f5
  unfold bt29
  rw [seq_of s4, seq_of s5, ifF_of (orF_of (same29 (i := 4) r.pl rfl) (bool_of (op_of (f := dNeS) (fn1_of (frz_of (i := 4) rfl) e1) (frz_of (i := 5) rfl) e2)))]
  rfl
theorem bloop : ∀ (xs : List Int) (k : Int) (d x : D) (s1 s3 x4 x5 : Sl), Og 2 x → Box k d → 9 * (xs.length : Int) ≤ k → s3.free = true → x4.free = true → x5.free = true →
    ∃ (d' : D) (τ : List Sl), Box (k - 9 * (xs.length : Int)) d' ∧ mLoop (gN 3) bt29 (xs.map .int) (S6 d s1 (.fz x) s3 x4 x5) = .nx (.io 0 d' :: τ)
  | [], k, d, x, s1, s3, x4, x5, h, hb, hk, f3, f4, f5 => ⟨d, _, hb.le (by simp), rfl⟩
  | i :: xs, k, d, x, s1, s3, x4, x5, h, hb, hk, f3, f4, f5 => by
    rw [List.length_cons] at hk
    obtain ⟨d1, y4, y5, g4, g5, h1, e⟩ := bturn (s1 := s1) (s3 := .fz (.int i)) h hb (by omega) f4 f5
    obtain ⟨d2, τ, h2, e2⟩ := bloop xs (k - 9) d1 x s1 (.fz (.int i)) y4 y5 h h1 (by omega) rfl g4 g5
    refine ⟨d2, τ, h2.le (by rw [List.length_cons]; omega), ?_⟩
    have g : gN 3 (.int i) (S6 d s1 (.fz x) s3 x4 x5) = some (S6 d s1 (.fz x) (.fz (.int i)) x4 x5) := by
      simp [gN, f3]
    rw [List.map_cons]
    unfold mLoop
    rw [g]
    show (match bt29 (S6 d s1 (.fz x) (.fz (.int i)) x4 x5) with | .nx τ => mLoop (gN 3) bt29 (xs.map .int) τ | .ct τ => mLoop (gN 3) bt29 (xs.map .int) τ | .bk τ => .nx τ | r => r) = _
    rw [e]
    exact e2
theorem right_ok (k : Nat) (d : D) (h : Box ((k + 50 : Nat) : Int) d) : ∃ d', f_right [d] = .ok (.bl true) [some d'] ∧ Box (k : Nat) d' := by
  obtain ⟨s, x, d1, x3, rfl, s0, s4, kd, h1, e⟩ := drawn29 h (by omega)
  obtain ⟨d2, τ, h2, e2⟩ := bloop (iota 4) _ d1 x (.fz (.int s)) .un .un .un kd.1 h1 (by rw [iota_len]; omega) rfl rfl rfl
  have r4 : rng1 [.int 4] = some ((iota 4).map .int) := rng1_of (by decide) (by decide)
  have s5 : b_right_5 (S6 d1 (.fz (.int s)) (.fz x) .un .un .un) = .nx (.io 0 d2 :: τ) := by
    rw [right5_is, for_of (ons_of (cons_of c_of nil_of) r4)]
    exact e2
  refine ⟨d2, ?_, h2.le (by rw [iota_len]; omega)⟩
  rw [f_right, mkF_fin]
  refine Eq.trans (if_pos rfl) ?_
  show fin [true] (b_right (S6 d .un .un .un .un .un)) = _
  rw [b_right, e, seq_of (first29 kd), seq_of s5]
  rfl
theorem hand_yes : (f_by_hand_right []).yes = true := by decide +kernel
theorem law_true (ns : List Int) (h : ns.length ≤ 63) : (f_law [.scr (ns.map .int)]).yes = true := by
  rw [law_is]
  exact lawA_true (n := 8) (c := 61729) (w := 50) (by decide) (by decide) (by decide) (by decide) (by decide) hand_yes right_ok ns h
end Sm
set_option Elab.async false
set_option linter.all false
set_option maxRecDepth 100000
set_option maxHeartbeats 400000
namespace Sm
open PySem PySem.Spec PyProof.Rows L2
end Sm
open PySem PySem.W PyProof.Rows
set_option maxHeartbeats 0 in
theorem PySem.Challenge.cw_staysmet_k29_stays_timetables_and_moves_holds : PySem.Challenge.rw_staysmet_k29_stays_timetables_and_moves.Holds := by
  w_on; o_law; k_head; (case hw => w_witness2)
  k_fill
  refine Sm.walk_ofG (l := PySem.Challenge.rw_staysmet_k29_stays_timetables_and_moves) (n := 63) (k := 10) (x := "_law_script") (cx := fun w => L2.CX PySem.Challenge.rw_staysmet_k29_stays_timetables_and_moves.prog w) (sp := fun w => Sm.spAny _ w PySem.Challenge.rw_staysmet_k29_stays_timetables_and_moves.prog) rfl (by decide) rfl ⟨rfl, by decide, by decide⟩ (fun w h Y => PySem.W.kIn_of Y) ?F (fun w H a ns hl _ hS C => Sm.law_sp (Sm.law_true ns hl) hS) (fun w H s e s' h => Sm.noCX w H s e s' h)
  case F =>
    intro w mg fa h KX G hmg
    refine' Sm.all_mk KX G hmg ?n_is_number ?l_is_number ?c_is_number ?k_is_number ?n_is_rising ?l_is_rising ?c_is_rising ?k_is_rising ?n_is_tick ?l_is_tick ?c_is_tick ?k_is_tick ?n_is_stay ?l_is_stay ?c_is_stay ?k_is_stay ?n_is_timetable ?l_is_timetable ?c_is_timetable ?k_is_timetable ?n_lies_in ?l_lies_in ?c_lies_in ?k_lies_in ?n_size_of ?l_size_of ?c_size_of ?k_size_of ?n_is_wider ?l_is_wider ?c_is_wider ?k_is_wider ?n_is_move ?l_is_move ?c_is_move ?k_is_move ?n_box ?l_box ?c_box ?k_box ?n_take ?l_take ?c_take ?k_take ?n_cells ?l_cells ?c_cells ?k_cells ?n_of ?l_of ?c_of ?k_of ?n_same ?l_same ?c_same ?k_same ?n_stay ?l_stay ?c_stay ?k_stay ?n_deed ?l_deed ?c_deed ?k_deed ?n_is_count ?l_is_count ?c_is_count ?k_is_count ?n_is_pair ?l_is_pair ?c_is_pair ?k_is_pair ?n_is_row ?l_is_row ?c_is_row ?k_is_row ?n_is_deed ?l_is_deed ?c_is_deed ?k_is_deed ?n_told ?l_told ?c_told ?k_told ?n_due ?l_due ?c_due ?k_due ?n_bent ?l_bent ?c_bent ?k_bent ?n_odd ?l_odd ?c_odd ?k_odd ?n_by_hand_right ?l_by_hand_right ?c_by_hand_right ?k_by_hand_right ?n_right ?l_right ?c_right ?k_right ?n_law ?l_law ?c_law ?k_law ?v_PAIR ?v_TRIPLE ?z_abs ?z_all ?z_bool ?z_enumerate ?z_int ?z_isinstance ?z_len ?z_list ?z_max ?z_min ?z_range ?z_repr ?z_set ?z_sorted ?z_str ?z_tuple ?z_zip
    (case n_is_number => k_is); (case l_is_number => k_is); (case c_is_number => k_is); (case k_is_number => k_is); (case n_is_rising => k_is); (case l_is_rising => k_is); (case c_is_rising => k_is); (case k_is_rising => k_is); (case n_is_tick => k_is); (case l_is_tick => k_is); (case c_is_tick => k_is); (case k_is_tick => k_is); (case n_is_stay => k_is); (case l_is_stay => k_is); (case c_is_stay => k_is); (case k_is_stay => k_is); (case n_is_timetable => k_is); (case l_is_timetable => k_is); (case c_is_timetable => k_is); (case k_is_timetable => k_is); (case n_lies_in => k_is); (case l_lies_in => k_is); (case c_lies_in => k_is); (case k_lies_in => k_is); (case n_size_of => k_is); (case l_size_of => k_is); (case c_size_of => k_is); (case k_size_of => k_is); (case n_is_wider => k_is); (case l_is_wider => k_is); (case c_is_wider => k_is); (case k_is_wider => k_is); (case n_is_move => k_is); (case l_is_move => k_is); (case c_is_move => k_is); (case k_is_move => k_is); (case n_box => k_is); (case l_box => k_is); (case c_box => k_is); (case k_box => k_is); (case n_take => k_is); (case l_take => k_is); (case c_take => k_is); (case k_take => k_is); (case n_cells => k_is); (case l_cells => k_is); (case c_cells => k_is); (case k_cells => k_is); (case n_of => k_is); (case l_of => k_is); (case c_of => k_is); (case k_of => k_is); (case n_same => k_is); (case l_same => k_is); (case c_same => k_is); (case k_same => k_is); (case n_stay => k_is); (case l_stay => k_is); (case c_stay => k_is); (case k_stay => k_is); (case n_deed => k_is); (case l_deed => k_is); (case c_deed => k_is); (case k_deed => k_is); (case n_is_count => k_is); (case l_is_count => k_is); (case c_is_count => k_is); (case k_is_count => k_is); (case n_is_pair => k_is); (case l_is_pair => k_is); (case c_is_pair => k_is); (case k_is_pair => k_is); (case n_is_row => k_is); (case l_is_row => k_is); (case c_is_row => k_is); (case k_is_row => k_is); (case n_is_deed => k_is); (case l_is_deed => k_is); (case c_is_deed => k_is); (case k_is_deed => k_is); (case n_told => k_is); (case l_told => k_is); (case c_told => k_is); (case k_told => k_is); (case n_due => k_is); (case l_due => k_is); (case c_due => k_is); (case k_due => k_is); (case n_bent => k_is); (case l_bent => k_is); (case c_bent => k_is); (case k_bent => k_is); (case n_odd => k_is); (case l_odd => k_is); (case c_odd => k_is); (case k_odd => k_is); (case n_by_hand_right => k_is); (case l_by_hand_right => k_is); (case c_by_hand_right => k_is); (case k_by_hand_right => k_is); (case n_right => k_is); (case l_right => k_is); (case c_right => k_is); (case k_right => k_is); (case n_law => k_is); (case l_law => k_is); (case c_law => k_is); (case k_law => k_is); (case v_PAIR => k_is); (case v_TRIPLE => k_is); (case z_abs => k_is); (case z_all => k_is); (case z_bool => k_is); (case z_enumerate => k_is); (case z_int => k_is); (case z_isinstance => k_is); (case z_len => k_is); (case z_list => k_is); (case z_max => k_is); (case z_min => k_is); (case z_range => k_is); (case z_repr => k_is); (case z_set => k_is); (case z_sorted => k_is); (case z_str => k_is); (case z_tuple => k_is); (case z_zip => k_is)
